import PyProof.Rows.All
import Wide.All
import OpenK.AllK
import Wide.FinOn
import KE.KStateDown
import HandS.Head0
import HandS.Head1
import HandS.Head2
import HandS.HeadHook1
import HandS.HeadHook2
import HandS.HeadNt
import HandS.ForMost
import HandS.IsInst
import HandS.Zip
import HandS.Strs
import HandS.Codes
import HandS.Flow
import HandS.Style
import HandS.TupAny
import HandS.Property
import HandS.ClsMeth
import HandS.Star
import HandS.Exc
import HandS.Defaults
import HandS.Walk
import KE.GoesEnum
import KE.KTupSum
import PyProof.ListStr
import HandS.Conv
import HandS.CallLocal
import HandS.Text
import HandS.Set
import HandS.SetFor
import HandS.SetTxt0
import PyProof.TupleOfSeq
import PyProof.ReprRoads
import PyProof.EqAt
import HandS.Dict
import PyProof.FactsAll.dict_4
import PyProof.DictUpdate
import PyProof.NeKinds
import HandS.TryOnly
import HandS.Ends
import PySem.Challenge.RW_restballots_k51_whole_bloc_claims_judged
set_option Elab.async false
set_option linter.all false
set_option autoImplicit false
set_option maxRecDepth 100000
set_option maxHeartbeats 0
/-! DL: a layer over HandS where values are PyData and a def's body is read by a calculus on the syntax itself. -/
namespace DL
open PySem PySem.Spec PyProof.Rows L2

/-! ### what a value represents -/
/-- a list of ints that stands still: frozen, or the module's own -/
def Scr (K : PySem.W.Frag) (H : Hp) (a : Addr) (ns : List Int) : Prop := (∃ o, H a = some (.frz o (.lst (ns.map V.int)))) ∨ ∀ H' : Hp, SqL K H' a (ns.map V.int)
def scD (ns : List Int) : PyData := .dict [(.bool true, .list (ns.map .int))]
inductive Rep (K : PySem.W.Frag) (C : Addr) (O : List Addr) (H : Hp) : V → PyData → Prop
  | non : Rep K C O H .non .none
  | bl (b : Bool) : Rep K C O H (.bl b) (.bool b)
  | int (i : Int) : Rep K C O H (.int i) (.int i)
  | str (x : Str) : Rep K C O H (.str x) (.str x)
  | tup {a : Addr} {xs : List V} {ds : List PyData} (h : SqT K H a xs) (hl : xs.length = ds.length) (hi : ∀ (i : Nat) (x : V) (d : PyData), xs[i]? = some x → ds[i]? = some d → Rep K C O H x d) : Rep K C O H (.ref a) (.tuple ds)
  | lst {a : Addr} {xs : List V} {ds : List PyData} (h : H a = some (.lst xs)) (ho : a ∉ O) (hl : xs.length = ds.length) (hi : ∀ (i : Nat) (x : V) (d : PyData), xs[i]? = some x → ds[i]? = some d → Rep K C O H x d) : Rep K C O H (.ref a) (.list ds)
  | emp {a : Addr} (h : H a = some (.dK [])) : Rep K C O H (.ref a) (.dict [])
  | cls : Rep K C O H (.ref C) (.dict [(.none, .none)])
  | scr {a : Addr} {ns : List Int} (h : Scr K H a ns) : Rep K C O H (.ref a) (scD ns)
  | nig {a dx : Addr} {v1 v2 v3 : V} {d1 d2 d3 : PyData} (h : H a = some (.ins C dx [("held_divisors", v1), ("held_parties", v2), ("held_piles", v3)])) (h1 : Rep K C O H v1 d1) (h2 : Rep K C O H v2 d2) (h3 : Rep K C O H v3 d3) :
      Rep K C O H (.ref a) (.dict [(.none, d1), (.none, d2), (.none, d3)])

def RepAll (K : PySem.W.Frag) (C : Addr) (O : List Addr) (H : Hp) (xs : List V) (ds : List PyData) : Prop := xs.length = ds.length ∧ ∀ (i : Nat) (x : V) (d : PyData), xs[i]? = some x → ds[i]? = some d → Rep K C O H x d

section
variable {K : PySem.W.Frag} {C : Addr} {O O' : List Addr} {H H' : Hp}
theorem RepAll.nil : RepAll K C O H [] [] := ⟨rfl, fun i x d h => by simp at h⟩
theorem RepAll.cons {x : V} {xs : List V} {d : PyData} {ds : List PyData} (h : Rep K C O H x d) (t : RepAll K C O H xs ds) : RepAll K C O H (x :: xs) (d :: ds) := by
  refine ⟨by simp [t.1], fun i y e h1 h2 => ?_⟩
  cases i with
  | zero =>
    simp at h1 h2
    subst h1 h2
    exact h
  | succ i => exact t.2 i y e (by simpa using h1) (by simpa using h2)
theorem RepAll.nil_inv {xs : List V} (h : RepAll K C O H xs []) : xs = [] := by
  have := h.1
  simpa using this
theorem RepAll.cons_inv {xs : List V} {d : PyData} {ds : List PyData} (h : RepAll K C O H xs (d :: ds)) : ∃ y ys, xs = y :: ys ∧ Rep K C O H y d ∧ RepAll K C O H ys ds := by
  obtain ⟨hl, hi⟩ := h
  cases xs with
  | nil => simp at hl
  | cons y ys =>
    refine ⟨y, ys, rfl, hi 0 y d rfl rfl, by simpa using hl, fun i x e h1 h2 => hi (i + 1) x e (by simpa using h1) (by simpa using h2)⟩
theorem RepAll.get {xs : List V} {ds : List PyData} {i : Nat} {d : PyData} (h : RepAll K C O H xs ds) (e : ds[i]? = some d) : ∃ x, xs[i]? = some x ∧ Rep K C O H x d := by
  have hi : i < ds.length := (List.getElem?_eq_some_iff.mp e).1
  have hx : i < xs.length := by rw [h.1]; exact hi
  exact ⟨xs[i], List.getElem?_eq_getElem hx, h.2 i _ _ (List.getElem?_eq_getElem hx) e⟩
theorem RepAll.getV {xs : List V} {ds : List PyData} {i : Nat} {x : V} (h : RepAll K C O H xs ds) (e : xs[i]? = some x) : ∃ d, ds[i]? = some d ∧ Rep K C O H x d := by
  have hi : i < xs.length := (List.getElem?_eq_some_iff.mp e).1
  have hx : i < ds.length := by rw [← h.1]; exact hi
  exact ⟨ds[i], List.getElem?_eq_getElem hx, h.2 i _ _ e (List.getElem?_eq_getElem hx)⟩
theorem RepAll.append {xs ys : List V} {ds es : List PyData} (h1 : RepAll K C O H xs ds) (h2 : RepAll K C O H ys es) : RepAll K C O H (xs ++ ys) (ds ++ es) := by
  induction ds generalizing xs with
  | nil =>
    rw [h1.nil_inv]
    exact h2
  | cons d ds ih =>
    obtain ⟨y, zs, rfl, r, t⟩ := h1.cons_inv
    exact .cons r (ih t)
theorem RepAll.sub {xs : List V} {ds : List PyData} (h : RepAll K C O H xs ds) (n m : Nat) : RepAll K C O H ((xs.drop n).take m) ((ds.drop n).take m) := by
  refine ⟨by simp [h.1], fun i x d h1 h2 => ?_⟩
  rw [List.getElem?_take] at h1 h2
  split at h1
  · rename_i hi
    rw [if_pos hi] at h2
    rw [List.getElem?_drop] at h1 h2
    exact h.2 _ x d h1 h2
  · cases h1
theorem RepAll.rev {xs : List V} {ds : List PyData} (h : RepAll K C O H xs ds) : RepAll K C O H xs.reverse ds.reverse := by
  refine ⟨by simp [h.1], fun i x d h1 h2 => ?_⟩
  have hi : i < xs.length := by
    have := (List.getElem?_eq_some_iff.mp h1).1
    simpa using this
  rw [List.getElem?_reverse hi] at h1
  rw [List.getElem?_reverse (by rw [← h.1]; exact hi)] at h2
  rw [← h.1] at h2
  exact h.2 _ x d h1 h2
theorem RepAll.map {α : Type} {l : List α} {f : α → V} {g : α → PyData} (h : ∀ a ∈ l, Rep K C O H (f a) (g a)) : RepAll K C O H (l.map f) (l.map g) := by
  refine ⟨by simp, fun i x d h1 h2 => ?_⟩
  rw [List.getElem?_map] at h1 h2
  cases e : l[i]? with
  | none =>
    rw [e] at h1
    cases h1
  | some a =>
    rw [e] at h1 h2
    cases h1
    cases h2
    exact h a (List.mem_of_getElem? e)
theorem Rep.tupAll {a : Addr} {xs : List V} {ds : List PyData} (h : SqT K H a xs) (r : RepAll K C O H xs ds) : Rep K C O H (.ref a) (.tuple ds) := .tup h r.1 r.2
theorem Rep.lstAll {a : Addr} {xs : List V} {ds : List PyData} (h : H a = some (.lst xs)) (ho : a ∉ O) (r : RepAll K C O H xs ds) : Rep K C O H (.ref a) (.list ds) := .lst h ho r.1 r.2

/-! ### carried from heap to heap -/
/-- all that is not owned is kept, and does not become owned -/
structure Keep (O : List Addr) (H : Hp) (O' : List Addr) (H' : Hp) : Prop where
  obj : ∀ a o, H a = some o → a ∉ O → H' a = some o
  new : ∀ a, a ∈ O' → a ∈ O ∨ H a = none
/-- the owned ones are lists -/
def Own (O : List Addr) (H : Hp) : Prop := ∀ a ∈ O, ∃ xs, H a = some (.lst xs)
theorem Own.tup (w : Own O H) {a : Addr} {xs : List V} (h : H a = some (.tup xs)) : a ∉ O := fun z => by
  obtain ⟨ys, e⟩ := w a z
  rw [h] at e
  cases e
theorem Keep.sqT (k : Keep O H O' H') (w : Own O H) {a : Addr} {xs : List V} (h : SqT K H a xs) : SqT K H' a xs := by
  rcases h with (h | ⟨o, h⟩) | h
  · exact .inl (.inl (k.obj _ _ h (w.tup h)))
  · exact .inl (.inr ⟨o, k.obj _ _ h fun z => by
      obtain ⟨ys, e⟩ := w a z
      rw [h] at e
      cases e⟩)
  · exact .inr h
theorem Scr.keep (k : Keep O H O' H') (w : Own O H) {a : Addr} {ns : List Int} (h : Scr K H a ns) : Scr K H' a ns := by
  rcases h with ⟨o, h⟩ | h
  · exact .inl ⟨o, k.obj _ _ h fun z => by
      obtain ⟨ys, e⟩ := w a z
      rw [h] at e
      cases e⟩
  · exact .inr h
theorem Rep.keep (k : Keep O H O' H') (w : Own O H) {v : V} {d : PyData} (h : Rep K C O H v d) : Rep K C O' H' v d := by
  induction h with
  | non => exact .non
  | bl b => exact .bl b
  | int i => exact .int i
  | str x => exact .str x
  | tup h hl _ ih => exact .tup (k.sqT w h) hl ih
  | lst h ho hl _ ih =>
    refine .lst (k.obj _ _ h ho) (fun z => ?_) hl ih
    rcases k.new _ z with q | q
    · exact ho q
    · rw [h] at q
      cases q
  | emp h =>
    exact .emp (k.obj _ _ h fun z => by
      obtain ⟨ys, e⟩ := w _ z
      rw [h] at e
      cases e)
  | cls => exact .cls
  | scr h => exact .scr (h.keep k w)
  | nig h _ _ _ i1 i2 i3 =>
    exact .nig (k.obj _ _ h fun z => by
      obtain ⟨ys, e⟩ := w _ z
      rw [h] at e
      cases e) i1 i2 i3
theorem RepAll.keep (k : Keep O H O' H') (w : Own O H) {xs : List V} {ds : List PyData} (h : RepAll K C O H xs ds) : RepAll K C O' H' xs ds := ⟨h.1, fun i x d h1 h2 => (h.2 i x d h1 h2).keep k w⟩
/-- fewer are owned -/
theorem Rep.less (s : ∀ a, a ∈ O' → a ∈ O) {v : V} {d : PyData} (h : Rep K C O H v d) : Rep K C O' H v d := by
  induction h with
  | non => exact .non
  | bl b => exact .bl b
  | int i => exact .int i
  | str x => exact .str x
  | tup h hl _ ih => exact .tup h hl ih
  | lst h ho hl _ ih => exact .lst h (fun z => ho (s _ z)) hl ih
  | emp h => exact .emp h
  | cls => exact .cls
  | scr h => exact .scr h
  | nig h _ _ _ i1 i2 i3 => exact .nig h i1 i2 i3
theorem RepAll.less (s : ∀ a, a ∈ O' → a ∈ O) {xs : List V} {ds : List PyData} (h : RepAll K C O H xs ds) : RepAll K C O' H xs ds := ⟨h.1, fun i x d h1 h2 => (h.2 i x d h1 h2).less s⟩
theorem Keep.refl (O : List Addr) (H : Hp) : Keep O H O H := ⟨fun _ _ h _ => h, fun _ h => .inl h⟩
theorem Keep.upd {p : Addr} {o : HO} (h : H p = none) : Keep O H O (upd H p o) := ⟨fun a u e _ => by rw [upd_ne (ne_of_none e h)]; exact e, fun _ h => .inl h⟩
end

/-! ### slots -/
/-- what is known of a slot: nothing; it represents data; it holds a list of its own (a local's; the urn, a parameter's) -/
inductive Sl where
  | un | imm (d : PyData) | own (ds : List PyData) | urn (ds : List PyData)
abbrev Ga := List Sl
/-- a value told apart: data, or the list that the i-th slot holds -/
inductive Vl where
  | d (x : PyData) | o (i : Nat)
/-- the contents of an owned slot -/
def Sl.held : Sl → Option (List PyData)
  | .own ds => some ds
  | .urn ds => some ds
  | _ => none

def SlOk (K : PySem.W.Frag) (C : Addr) (O : List Addr) (H : Hp) (o : Option V) : Sl → Prop
  | .un => True
  | .imm d => ∃ v, o = some v ∧ Rep K C O H v d
  | .own ds => ∃ a xs, o = some (.ref a) ∧ a ∈ O ∧ H a = some (.lst xs) ∧ RepAll K C O H xs ds
  | .urn ds => ∃ a xs, o = some (.ref a) ∧ a ∈ O ∧ H a = some (.lst xs) ∧ RepAll K C O H xs ds

/-- the address a is written to by a slot -/
def Ow (σ : L2.St) (G : Ga) (a : Addr) : Prop := ∃ (i : Nat) (s : Sl) (ds : List PyData), σ[i]? = some (some (.ref a)) ∧ G[i]? = some s ∧ s.held = some ds

structure Env (K : PySem.W.Frag) (C : Addr) (O : List Addr) (H : Hp) (σ : L2.St) (G : Ga) : Prop where
  len : σ.length = G.length
  sl : ∀ (i : Nat) (s : Sl), G[i]? = some s → ∃ o, σ[i]? = some o ∧ SlOk K C O H o s
  dj : ∀ (i j : Nat) (s t : Sl) (ds es : List PyData) (a : Addr), σ[i]? = some (some (.ref a)) → σ[j]? = some (some (.ref a)) → G[i]? = some s → G[j]? = some t → s.held = some ds → t.held = some es → i = j
  wo : Own O H

/-- from state to state -/
structure Kp (σ : L2.St) (G : Ga) (O : List Addr) (H : Hp) (σ' : L2.St) (G' : Ga) (O' : List Addr) (H' : Hp) : Prop where
  obj : ∀ a o, H a = some o → ¬ Ow σ G a → H' a = some o
  stay : ∀ a, a ∈ O → ¬ Ow σ G a → a ∈ O'
  new : ∀ a, a ∈ O' → a ∈ O ∨ H a = none
  own : ∀ a, Ow σ' G' a → Ow σ G a ∨ H a = none
  there : ∀ a, H a ≠ none → H' a ≠ none
  urn : ∀ (i : Nat) (ds : List PyData), G[i]? = some (Sl.urn ds) → σ'[i]? = σ[i]? ∧ ∃ ds' : List PyData, G'[i]? = some (Sl.urn ds')

section
variable {K : PySem.W.Frag} {C : Addr} {O O' O2 : List Addr} {H H' H2 : Hp} {σ σ' σ2 : L2.St} {G G' G2 : Ga}
theorem Env.ow_mem (E : Env K C O H σ G) {a : Addr} (h : Ow σ G a) : a ∈ O := by
  obtain ⟨i, s, ds, h1, h2, h3⟩ := h
  obtain ⟨o, e, q⟩ := E.sl i s h2
  rw [h1] at e
  cases e
  cases s with
  | un => cases h3
  | imm d => cases h3
  | own es =>
    obtain ⟨b, xs, e, m, _⟩ := q
    cases e
    exact m
  | urn es =>
    obtain ⟨b, xs, e, m, _⟩ := q
    cases e
    exact m
theorem Kp.keep (k : Kp σ G O H σ' G' O' H') (E : Env K C O H σ G) : Keep O H O' H' := ⟨fun a o e n => k.obj a o e fun z => n (E.ow_mem z), k.new⟩
theorem Kp.refl (σ : L2.St) (G : Ga) (O : List Addr) (H : Hp) : Kp σ G O H σ G O H :=
  ⟨fun _ _ h _ => h, fun _ h _ => h, fun _ h => .inl h, fun _ h => .inl h, fun _ h => h, fun _ ds h => ⟨rfl, ds, h⟩⟩
theorem Kp.trans (k : Kp σ G O H σ' G' O' H') (l : Kp σ' G' O' H' σ2 G2 O2 H2) (E : Env K C O H σ G) : Kp σ G O H σ2 G2 O2 H2 where
  obj := fun a o e n => l.obj a o (k.obj a o e n) fun z => (k.own a z).elim n fun q => by rw [e] at q; cases q
  stay := fun a m n => l.stay a (k.stay a m n) fun z => (k.own a z).elim n fun q => by
    obtain ⟨xs, e⟩ := E.wo a m
    rw [e] at q
    cases q
  new := fun a m => (l.new a m).elim (k.new a) fun q => .inr (Classical.byContradiction fun z => k.there a z q)
  own := fun a m => (l.own a m).elim (k.own a) fun q => .inr (Classical.byContradiction fun z => k.there a z q)
  there := fun a h => l.there a (k.there a h)
  urn := fun i ds h => by
    obtain ⟨e1, ds1, h1⟩ := k.urn i ds h
    obtain ⟨e2, ds2, h2⟩ := l.urn i ds1 h1
    exact ⟨e2.trans e1, ds2, h2⟩
/-- only the heap is other: new objects -/
theorem Env.ext (E : Env K C O H σ G) (k : ∀ a o, H a = some o → H' a = some o) : Env K C O H' σ G := by
  have kk : Keep O H O H' := ⟨fun a o e _ => k a o e, fun _ h => .inl h⟩
  refine ⟨E.len, fun i s h => ?_, E.dj, fun a m => ?_⟩
  · obtain ⟨o, e, q⟩ := E.sl i s h
    refine ⟨o, e, ?_⟩
    cases s with
    | un => trivial
    | imm d =>
      obtain ⟨v, e, r⟩ := q
      exact ⟨v, e, r.keep kk E.wo⟩
    | own ds =>
      obtain ⟨a, xs, e, m, h1, r⟩ := q
      exact ⟨a, xs, e, m, k _ _ h1, r.keep kk E.wo⟩
    | urn ds =>
      obtain ⟨a, xs, e, m, h1, r⟩ := q
      exact ⟨a, xs, e, m, k _ _ h1, r.keep kk E.wo⟩
  · obtain ⟨xs, e⟩ := E.wo a m
    exact ⟨xs, k _ _ e⟩
theorem Kp.ext (k : ∀ a o, H a = some o → H' a = some o) : Kp σ G O H σ G O H' where
  obj := fun a o h _ => k a o h
  stay := fun _ h _ => h
  new := fun _ h => .inl h
  own := fun _ h => .inl h
  there := fun a h q => by
    cases e : H a with
    | none => exact h e
    | some o =>
      rw [k a o e] at q
      cases q
  urn := fun _ ds h => ⟨rfl, ds, h⟩
theorem same_new {p : Addr} {o : HO} (h : H p = none) : ∀ a u, H a = some u → upd H p o a = some u := fun a u e => by
  rw [upd_ne (ne_of_none e h)]
  exact e
end

/-! ### the judgements -/
def RepV (K : PySem.W.Frag) (C : Addr) (O : List Addr) (H : Hp) (σ : L2.St) (G : Ga) (v : V) : Vl → Prop
  | .d x => Rep K C O H v x
  | .o i => σ[i]? = some (some v) ∧ ∃ s ds, G[i]? = some s ∧ s.held = some ds
/-- the weakest reading -/
def tW (X : Cx) (e : Expr) : TE := fun σ H Q => ∀ pins s, Inv X pins σ H s → wpAny (model X.prog X.w) X.A (eval e X.env) (EP X pins σ Q) X.xe s
def tT (X : Cx) (e : Expr) : TT := fun σ H Q => ∀ pins s, Inv X pins σ H s → wpAny (model X.prog X.w) X.A (isTrue e X.env (eval e X.env)) (TP X pins σ Q) X.xe s
def tA (X : Cx) (es : List Expr) : TA := fun σ H Q => ∀ pos pins s, Inv X pins σ H s → wpAny (model X.prog X.w) X.A (spliced (backTo pos (starEach es X.env))) (AP X pins σ Q) X.xe s
def tSs (X : Cx) (st : List Stmt) : TS := fun D σ H => ∀ pins s, Inv X pins σ H s → wpAny (model X.prog X.w) X.A (execs st X.env) (SP X pins D) X.xe s
def tS (X : Cx) (st : Stmt) : TS := fun D σ H => ∀ pins s, Inv X pins σ H s → wpAny (model X.prog X.w) X.A (exec st X.env) (SP X pins D) X.xe s
section
variable {X : Cx}
theorem pe_W (e : Expr) : PE X e (tW X e) := ⟨fun pins s _ _ _ I h => h pins s I⟩
theorem pt_W (e : Expr) : PT X e (tT X e) := ⟨fun pins s _ _ _ I h => h pins s I⟩
theorem pa_W (es : List Expr) : PA X es (tA X es) := ⟨fun pos pins s _ _ _ I h => h pos pins s I⟩
theorem ps_W (st : Stmt) : PS X st (tS X st) := ⟨fun pins s _ _ _ I h => h pins s I⟩
theorem pss_W (st : List Stmt) : PSs X st (tSs X st) := ⟨fun pins s _ _ _ I h => h pins s I⟩
theorem tW_of {e : Expr} {te : TE} (h : PE X e te) {σ : L2.St} {H : Hp} {Q : VK} (q : te σ H Q) : tW X e σ H Q := fun pins s I => h.run pins s σ H Q I q
theorem tT_of {e : Expr} {te : TT} (h : PT X e te) {σ : L2.St} {H : Hp} {Q : Bool → Hp → Prop} (q : te σ H Q) : tT X e σ H Q := fun pins s I => h.run pins s σ H Q I q
theorem tA_of {es : List Expr} {te : TA} (h : PA X es te) {σ : L2.St} {H : Hp} {Q : List V → Hp → Prop} (q : te σ H Q) : tA X es σ H Q := fun pos pins s I => h.run pos pins s σ H Q I q
theorem tSs_of {st : List Stmt} {t : TS} (h : PSs X st t) {σ : L2.St} {H : Hp} {D : Ends} (q : t D σ H) : tSs X st D σ H := fun pins s I => h.run pins s σ H D I q
theorem tS_of {st : Stmt} {t : TS} (h : PS X st t) {σ : L2.St} {H : Hp} {D : Ends} (q : t D σ H) : tS X st D σ H := fun pins s I => h.run pins s σ H D I q
end
/-- an expression -/
def Ef (C : Addr) (X : Cx) (e : Expr) (G : Ga) (Q : Vl → Ga → Prop) : Prop := ∀ (O : List Addr) (σ : L2.St) (H : Hp), Env X.K C O H σ G → ∀ Q' : VK,
  (∀ v vl G' H', Env X.K C O H' σ G' → Kp σ G O H σ G' O H' → RepV X.K C O H' σ G' v vl → Q vl G' → Q' v H') → tW X e σ H Q'
/-- a test -/
def Et (C : Addr) (X : Cx) (e : Expr) (G : Ga) (Q : Bool → Ga → Prop) : Prop := ∀ (O : List Addr) (σ : L2.St) (H : Hp), Env X.K C O H σ G → ∀ Q' : Bool → Hp → Prop,
  (∀ b G' H', Env X.K C O H' σ G' → Kp σ G O H σ G' O H' → Q b G' → Q' b H') → tT X e σ H Q'
/-- arguments, items: all data -/
def Ea (C : Addr) (X : Cx) (es : List Expr) (G : Ga) (Q : List Vl → Ga → Prop) : Prop := ∀ (O : List Addr) (σ : L2.St) (H : Hp), Env X.K C O H σ G → ∀ Q' : List V → Hp → Prop,
  (∀ vs vls G' H', Env X.K C O H' σ G' → Kp σ G O H σ G' O H' → vs.length = vls.length → (∀ (i : Nat) v vl, vs[i]? = some v → vls[i]? = some vl → RepV X.K C O H' σ G' v vl) → Q vls G' → Q' vs H') → tA X es σ H Q'
/-- statements: N behind them, R at a return, B at a break, J at a continue -/
structure Es where
  N : Ga → Prop
  R : PyData → Ga → Prop
  B : Ga → Prop := fun _ => False
  J : Ga → Prop := fun _ => False
def SS (C : Addr) (X : Cx) (st : List Stmt) (G : Ga) (T : Es) : Prop := ∀ (O : List Addr) (σ : L2.St) (H : Hp), Env X.K C O H σ G → ∀ D : Ends,
  (∀ O' σ' G' H', Env X.K C O' H' σ' G' → Kp σ G O H σ' G' O' H' → T.N G' → D.nx σ' H') →
  (∀ O' σ' v d G' H', Env X.K C O' H' σ' G' → Kp σ G O H σ' G' O' H' → Rep X.K C O' H' v d → T.R d G' → D.rt v H') →
  (∀ O' σ' G' H', Env X.K C O' H' σ' G' → Kp σ G O H σ' G' O' H' → T.B G' → D.bk σ' H') →
  (∀ O' σ' G' H', Env X.K C O' H' σ' G' → Kp σ G O H σ' G' O' H' → T.J G' → D.ct σ' H') → tSs X st D σ H
end DL
/-! DL2: expressions. -/
namespace DL
open PySem PySem.Spec PyProof.Rows L2

/-- what stands behind an expression -/
abbrev Co (C : Addr) (X : Cx) (σ : L2.St) (G : Ga) (O : List Addr) (H : Hp) (Q : Vl → Ga → Prop) (Q' : VK) : Prop :=
  ∀ v vl G' H', Env X.K C O H' σ G' → Kp σ G O H σ G' O H' → RepV X.K C O H' σ G' v vl → Q vl G' → Q' v H'

section
variable {C : Addr} {X : Cx} {G : Ga} {Q : Vl → Ga → Prop} {O : List Addr} {σ : L2.St} {H H' : Hp} {Q' : VK}
theorem Co.at {v : V} {d : PyData} (k : Co C X σ G O H Q Q') (E : Env X.K C O H σ G) (r : Rep X.K C O H v d) (q : Q (.d d) G) : Q' v H := k v (.d d) G H E (Kp.refl _ _ _ _) r q
theorem Co.ext {v : V} {d : PyData} (k : Co C X σ G O H Q Q') (E : Env X.K C O H σ G) (e : ∀ a o, H a = some o → H' a = some o) (r : Rep X.K C O H' v d) (q : Q (.d d) G) : Q' v H' := k v (.d d) G H' (E.ext e) (Kp.ext e) r q
/-- a new object laid -/
theorem Co.newT {p : Addr} {xs : List V} {ds : List PyData} (k : Co C X σ G O H Q Q') (E : Env X.K C O H σ G) (hp : H p = none) (r : RepAll X.K C O H xs ds) (q : Q (.d (.tuple ds)) G) : Q' (.ref p) (upd H p (.tup xs)) :=
  k.ext E (same_new hp) (.tupAll (.inl (.inl upd_same)) (r.keep (Keep.upd hp) E.wo)) q
theorem Co.newL {p : Addr} {xs : List V} {ds : List PyData} (k : Co C X σ G O H Q Q') (E : Env X.K C O H σ G) (hp : H p = none) (r : RepAll X.K C O H xs ds) (q : Q (.d (.list ds)) G) : Q' (.ref p) (upd H p (.lst xs)) := by
  refine k.ext E (same_new hp) (.lstAll upd_same (fun m => ?_) (r.keep (Keep.upd hp) E.wo)) q
  obtain ⟨ys, e⟩ := E.wo p m
  rw [e] at hp
  cases hp
theorem Co.step {G1 : Ga} {H1 : Hp} (k : Co C X σ G O H Q Q') (E : Env X.K C O H σ G) (K1 : Kp σ G O H σ G1 O H1) : Co C X σ G1 O H1 Q Q' := fun v vl G' H' E' K' r q => k v vl G' H' E' (K1.trans K' E) r q
theorem Ef.mono {e : Expr} {Q1 : Vl → Ga → Prop} (h : Ef C X e G Q1) (k : ∀ v G', Q1 v G' → Q v G') : Ef C X e G Q := fun O σ H E Q' q => h O σ H E Q' fun v vl G' H' E' K' r z => q v vl G' H' E' K' r (k _ _ z)

/-! ### names, constants -/
variable {x : Str} {pos pos' p : Pos} {a b e : Expr}
theorem ef_i (i : Nat) {d : PyData} (hG : G[i]? = some (.imm d)) (q : Q (.d d) G) (hN : X.N[i]? = some x := by rfl) (hv : Vis X.env.scope x := by first | exact Or.inl rfl | exact Or.inr (Or.inl rfl) | exact Or.inr (Or.inr rfl))
    (hd : (x == ("__debug__" : Str)) = false := by decide) (hcd : (x == ("__classdict__" : Str)) = false := by decide) : Ef C X (.Name x pos) G Q := by
  intro O σ H E Q' k
  obtain ⟨o, e, v, rfl, r⟩ := E.sl i _ hG
  exact tW_of (pe_var hN hv hd hcd) ⟨v, e, Co.at k E r q⟩
theorem ef_o (i : Nat) {s : Sl} {ds : List PyData} (hG : G[i]? = some s) (hs : s.held = some ds) (q : Q (.o i) G) (hN : X.N[i]? = some x := by rfl) (hv : Vis X.env.scope x := by first | exact Or.inl rfl | exact Or.inr (Or.inl rfl) | exact Or.inr (Or.inr rfl))
    (hd : (x == ("__debug__" : Str)) = false := by decide) (hcd : (x == ("__classdict__" : Str)) = false := by decide) : Ef C X (.Name x pos) G Q := by
  intro O σ H E Q' k
  obtain ⟨o, e, r⟩ := E.sl i _ hG
  have z : ∃ v, o = some v := by
    cases s with
    | un => cases hs
    | imm d => cases hs
    | own es =>
      obtain ⟨a, xs, e, _⟩ := r
      exact ⟨_, e⟩
    | urn es =>
      obtain ⟨a, xs, e, _⟩ := r
      exact ⟨_, e⟩
  obtain ⟨v, rfl⟩ := z
  exact tW_of (pe_var hN hv hd hcd) ⟨v, e, k v (.o i) G H E (Kp.refl _ _ _ _) ⟨e, s, ds, hG, hs⟩ q⟩
theorem ef_int {i : Int} {j : Nat} (q : Q (.d (.int i)) G) : Ef C X (.Constant (.int i) j pos) G Q := fun O σ H E Q' k => tW_of pe_int (Co.at k E (.int i) q)
theorem ef_str {i : Str} {j : Nat} (q : Q (.d (.str i)) G) : Ef C X (.Constant (.str i) j pos) G Q := fun O σ H E Q' k => tW_of pe_str (Co.at k E (.str i) q)
theorem ef_bl {i : Bool} {j : Nat} (q : Q (.d (.bool i)) G) : Ef C X (.Constant (.bool i) j pos) G Q := fun O σ H E Q' k => tW_of pe_bl (Co.at k E (.bl i) q)
theorem ef_non {j : Nat} (q : Q (.d .none) G) : Ef C X (.Constant .none j pos) G Q := fun O σ H E Q' k => tW_of pe_non (Co.at k E .non q)
/-- a module's int, text, tuple -/
theorem ef_gi {i : Int} (hm : ∃ t, X.mg x = some (.int i t)) (q : Q (.d (.int i)) G) (hg : Gl X x := by rfl) (hd : (x == ("__debug__" : Str)) = false := by decide) : Ef C X (.Name x pos) G Q := fun O σ H E Q' k => by
  obtain ⟨t, hm⟩ := hm
  exact tW_of (pe_glob (v := .int i) hg hm ⟨t, rfl⟩ hd) (Co.at k E (.int i) q)
theorem ef_gs {i : Str} (hm : ∃ t, X.mg x = some (.str i t)) (q : Q (.d (.str i)) G) (hg : Gl X x := by rfl) (hd : (x == ("__debug__" : Str)) = false := by decide) : Ef C X (.Name x pos) G Q := fun O σ H E Q' k => by
  obtain ⟨t, hm⟩ := hm
  exact tW_of (pe_glob (v := .str i) hg hm ⟨t, rfl⟩ hd) (Co.at k E (.str i) q)
theorem ef_gt {i j : Int} (hm : ∃ u, X.mg x = some (.ref u) ∧ ∀ H, SqT X.K H u [.int i, .int j]) (q : Q (.d (.tuple [.int i, .int j])) G) (hg : Gl X x := by rfl) (hd : (x == ("__debug__" : Str)) = false := by decide) : Ef C X (.Name x pos) G Q := fun O σ H E Q' k => by
  obtain ⟨u, hm, hs⟩ := hm
  exact tW_of (pe_glob (v := .ref u) hg hm rfl hd) (Co.at k E (.tupAll (hs H) (.cons (.int i) (.cons (.int j) .nil))) q)

/-! ### two parts, one part -/
theorem ef_op2 {r : R2} {Z : PyData → Vl → Ga → Prop} (pe : ∀ ta tb, PE X a ta → PE X b tb → PE X e (tOp r ta tb)) (h : Ef C X a G fun v1 G1 => ∃ d1, v1 = .d d1 ∧ Ef C X b G1 fun v2 G2 => Z d1 v2 G2)
    (hz : ∀ (O : List Addr) (σ : L2.St) (H : Hp) (G2 : Ga) (d1 : PyData) (v2 : Vl) (x y : V) (Q' : VK), Env X.K C O H σ G2 → Rep X.K C O H x d1 → RepV X.K C O H σ G2 y v2 → Z d1 v2 G2 → Co C X σ G2 O H Q Q' → r x y H Q') : Ef C X e G Q := by
  intro O σ H E Q' q
  refine tW_of (pe _ _ (pe_W a) (pe_W b)) ?_
  refine h O σ H E _ fun v1 vl1 G1 H1 E1 K1 R1 ⟨d1, e1, h2⟩ => ?_
  subst e1
  refine h2 O σ H1 E1 _ fun v2 vl2 G2 H2 E2 K2 R2 z => ?_
  exact hz O σ H2 G2 d1 vl2 v1 v2 Q' E2 (Rep.keep (K2.keep E1) E1.wo R1) R2 z (Co.step q E (K1.trans K2 E))
theorem ef_op1 {r : V → Hp → VK → Prop} {Z : Vl → Ga → Prop} (pe : ∀ ta, PE X a ta → PE X e (fun σ H Q => ta σ H fun x H1 => r x H1 Q)) (h : Ef C X a G Z)
    (hz : ∀ (O : List Addr) (σ : L2.St) (H : Hp) (G1 : Ga) (v1 : Vl) (x : V) (Q' : VK), Env X.K C O H σ G1 → RepV X.K C O H σ G1 x v1 → Z v1 G1 → Co C X σ G1 O H Q Q' → r x H Q') : Ef C X e G Q := by
  intro O σ H E Q' q
  refine tW_of (pe _ (pe_W a)) ?_
  refine h O σ H E _ fun v1 vl1 G1 H1 E1 K1 R1 z => ?_
  exact hz O σ H1 G1 vl1 v1 Q' E1 R1 z (Co.step q E K1)

/-! ### what data tell of values -/
theorem Rep.int_inv {v : V} {i : Int} (h : Rep X.K C O H v (.int i)) : v = .int i := by cases h; rfl
theorem Rep.str_inv {v : V} {i : Str} (h : Rep X.K C O H v (.str i)) : v = .str i := by cases h; rfl
theorem Rep.bl_inv {v : V} {i : Bool} (h : Rep X.K C O H v (.bool i)) : v = .bl i := by cases h; rfl
theorem Rep.non_inv {v : V} (h : Rep X.K C O H v .none) : v = .non := by cases h; rfl
theorem Rep.tup_inv {v : V} {ds : List PyData} (h : Rep X.K C O H v (.tuple ds)) : ∃ a xs, v = .ref a ∧ SqT X.K H a xs ∧ RepAll X.K C O H xs ds := by
  cases h with
  | tup h hl hi => exact ⟨_, _, rfl, h, hl, hi⟩
theorem Rep.lst_inv {v : V} {ds : List PyData} (h : Rep X.K C O H v (.list ds)) : ∃ a xs, v = .ref a ∧ H a = some (.lst xs) ∧ a ∉ O ∧ RepAll X.K C O H xs ds := by
  cases h with
  | lst h ho hl hi => exact ⟨_, _, rfl, h, ho, hl, hi⟩
theorem repAll_ints {xs : List V} {ns : List Int} (h : RepAll X.K C O H xs (ns.map .int)) : xs = ns.map V.int := by
  induction ns generalizing xs with
  | nil => exact h.nil_inv
  | cons n ns ih =>
    obtain ⟨y, ys, rfl, r, t⟩ := RepAll.cons_inv h
    rw [Rep.int_inv r, ih t]
    rfl
theorem repAll_strs {xs : List V} {ns : List Str} (h : RepAll X.K C O H xs (ns.map .str)) : xs = ns.map V.str := by
  induction ns generalizing xs with
  | nil => exact h.nil_inv
  | cons n ns ih =>
    obtain ⟨y, ys, rfl, r, t⟩ := RepAll.cons_inv h
    rw [Rep.str_inv r, ih t]
    rfl
theorem repAll_bls {xs : List V} {ns : List Bool} (h : RepAll X.K C O H xs (ns.map .bool)) : xs = ns.map V.bl := by
  induction ns generalizing xs with
  | nil => exact h.nil_inv
  | cons n ns ih =>
    obtain ⟨y, ys, rfl, r, t⟩ := RepAll.cons_inv h
    rw [Rep.bl_inv r, ih t]
    rfl
/-- an owned slot's list -/
theorem Env.own_at (E : Env X.K C O H σ G) {i : Nat} {v : V} {s : Sl} {ds : List PyData} (h : σ[i]? = some (some v)) (hG : G[i]? = some s) (hs : s.held = some ds) : ∃ a xs, v = .ref a ∧ a ∈ O ∧ H a = some (.lst xs) ∧ RepAll X.K C O H xs ds := by
  obtain ⟨o, e, r⟩ := E.sl i _ hG
  rw [h] at e
  cases e
  cases s with
  | un => cases hs
  | imm d => cases hs
  | own es =>
    cases hs
    obtain ⟨a, xs, e, q⟩ := r
    cases e
    exact ⟨a, xs, rfl, q⟩
  | urn es =>
    cases hs
    obtain ⟨a, xs, e, q⟩ := r
    cases e
    exact ⟨a, xs, rfl, q⟩
/-- the list that a value is: data, or an owned slot's -/
def LsOf (G : Ga) (ds : List PyData) : Vl → Prop
  | .d d => d = .list ds
  | .o i => ∃ s, G[i]? = some s ∧ s.held = some ds
theorem LsOf.at (E : Env X.K C O H σ G) {v : V} {vl : Vl} {ds : List PyData} (r : RepV X.K C O H σ G v vl) (h : LsOf G ds vl) : ∃ a xs, v = .ref a ∧ H a = some (.lst xs) ∧ RepAll X.K C O H xs ds := by
  cases vl with
  | d d =>
    subst h
    obtain ⟨a, xs, e, h, _, q⟩ := Rep.lst_inv r
    exact ⟨a, xs, e, h, q⟩
  | o i =>
    obtain ⟨s, h1, h2⟩ := h
    obtain ⟨a, xs, e, _, h, q⟩ := E.own_at r.1 h1 h2
    exact ⟨a, xs, e, h, q⟩

/-! ### operators -/
theorem sz (n : Nat) (h : n ≤ 100000) : n ≤ sizeLine := Nat.le_trans h (by decide)
theorem sz' (n : Nat) (h : n < 100000) : n < sizeLine := Nat.lt_of_lt_of_le h (by decide)
section
variable {op : Operator} {cop : CmpOp}
theorem ef_bii {f : Int → Int → Int} (ho : OpR X (binaryOp op) (rI0 fun i j => .int (f i j))) (h : Ef C X a G fun v1 G1 => ∃ d1, v1 = .d d1 ∧ Ef C X b G1 fun v2 G2 => ∃ i j, d1 = .int i ∧ v2 = .d (.int j) ∧ Q (.d (.int (f i j))) G2) : Ef C X (.BinOp a op b pos) G Q :=
  ef_op2 (fun _ _ h1 h2 => pe_op ho h1 h2) h fun O σ H G2 d1 v2 x y Q' E r1 r2 ⟨i, j, e1, e2, q⟩ k => by
    subst e1 e2
    exact ⟨i, j, Rep.int_inv r1, Rep.int_inv r2, Co.at k E (.int _) q⟩
theorem ef_biic {f : Int → Int → Int} {Cd : Int → Int → Prop} (ho : OpR X (binaryOp op) (rI Cd fun i j => .int (f i j))) (h : Ef C X a G fun v1 G1 => ∃ d1, v1 = .d d1 ∧ Ef C X b G1 fun v2 G2 => ∃ i j, d1 = .int i ∧ v2 = .d (.int j) ∧ Cd i j ∧ Q (.d (.int (f i j))) G2) : Ef C X (.BinOp a op b pos) G Q :=
  ef_op2 (fun _ _ h1 h2 => pe_op ho h1 h2) h fun O σ H G2 d1 v2 x y Q' E r1 r2 ⟨i, j, e1, e2, c, q⟩ k => by
    subst e1 e2
    exact ⟨i, j, Rep.int_inv r1, Rep.int_inv r2, c, Co.at k E (.int _) q⟩
theorem ef_add (h : Ef C X a G fun v1 G1 => ∃ d1, v1 = .d d1 ∧ Ef C X b G1 fun v2 G2 => ∃ i j, d1 = .int i ∧ v2 = .d (.int j) ∧ Q (.d (.int (i + j))) G2) : Ef C X (.BinOp a .Add b pos) G Q := ef_bii op_add h
theorem ef_sub (h : Ef C X a G fun v1 G1 => ∃ d1, v1 = .d d1 ∧ Ef C X b G1 fun v2 G2 => ∃ i j, d1 = .int i ∧ v2 = .d (.int j) ∧ Q (.d (.int (i - j))) G2) : Ef C X (.BinOp a .Sub b pos) G Q := ef_bii op_sub h
theorem ef_mul (h : Ef C X a G fun v1 G1 => ∃ d1, v1 = .d d1 ∧ Ef C X b G1 fun v2 G2 => ∃ i j, d1 = .int i ∧ v2 = .d (.int j) ∧ CMul i j ∧ Q (.d (.int (i * j))) G2) : Ef C X (.BinOp a .Mult b pos) G Q := ef_biic op_mul h
theorem ef_fdiv (h : Ef C X a G fun v1 G1 => ∃ d1, v1 = .d d1 ∧ Ef C X b G1 fun v2 G2 => ∃ i j, d1 = .int i ∧ v2 = .d (.int j) ∧ CDivN i j ∧ Q (.d (.int (i.fdiv j))) G2) : Ef C X (.BinOp a .FloorDiv b pos) G Q := ef_biic op_fdivN h
theorem ef_mod (h : Ef C X a G fun v1 G1 => ∃ d1, v1 = .d d1 ∧ Ef C X b G1 fun v2 G2 => ∃ i j, d1 = .int i ∧ v2 = .d (.int j) ∧ j ≠ 0 ∧ Q (.d (.int (i.fmod j))) G2) : Ef C X (.BinOp a .Mod b pos) G Q := ef_biic op_modN h
theorem ef_pow (h : Ef C X a G fun v1 G1 => ∃ d1, v1 = .d d1 ∧ Ef C X b G1 fun v2 G2 => ∃ i j, d1 = .int i ∧ v2 = .d (.int j) ∧ CPow i j ∧ Q (.d (.int (i ^ j.toNat))) G2) : Ef C X (.BinOp a .Pow b pos) G Q := ef_biic op_pow h
theorem ef_addS (h : Ef C X a G fun v1 G1 => ∃ d1, v1 = .d d1 ∧ Ef C X b G1 fun v2 G2 => ∃ i j, d1 = .str i ∧ v2 = .d (.str j) ∧ i.length + j.length ≤ sizeLine ∧ Q (.d (.str (i ++ j))) G2) : Ef C X (.BinOp a .Add b pos) G Q :=
  ef_op2 (fun _ _ h1 h2 => pe_op op_add_str h1 h2) h fun O σ H G2 d1 v2 x y Q' E r1 r2 ⟨i, j, e1, e2, c, q⟩ k => by
    subst e1 e2
    exact ⟨i, j, Rep.str_inv r1, Rep.str_inv r2, c, Co.at k E (.str _) q⟩
theorem ef_addT (h : Ef C X a G fun v1 G1 => ∃ d1, v1 = .d d1 ∧ Ef C X b G1 fun v2 G2 => ∃ ds es, d1 = .tuple ds ∧ v2 = .d (.tuple es) ∧ ds.length + es.length ≤ sizeLine ∧ Q (.d (.tuple (ds ++ es))) G2) : Ef C X (.BinOp a .Add b pos) G Q :=
  ef_op2 (fun _ _ h1 h2 => pe_op op_catA h1 h2) h fun O σ H G2 d1 v2 x y Q' E r1 r2 ⟨ds, es, e1, e2, c, q⟩ k => by
    subst e1 e2
    obtain ⟨t, xs, rfl, ht, ra⟩ := Rep.tup_inv r1
    obtain ⟨u, ys, rfl, hu, rb⟩ := Rep.tup_inv r2
    refine ⟨t, u, xs, ys, rfl, rfl, ht, hu, by rw [ra.1, rb.1]; exact c, fun e => ?_, fun _ e => ?_, fun _ _ p hp => ?_⟩
    · subst e
      have : ds = [] := by
        have := ra.1
        simpa using this.symm
      subst this
      exact Co.at k E (.tupAll hu rb) q
    · subst e
      have : es = [] := by
        have := rb.1
        simpa using this.symm
      subst this
      rw [List.append_nil] at q
      exact Co.at k E (.tupAll ht ra) q
    · exact Co.newT k E hp (ra.append rb) q
theorem ef_addL (h : Ef C X a G fun v1 G1 => ∃ d1, v1 = .d d1 ∧ Ef C X b G1 fun v2 G2 => ∃ ds es, d1 = .list ds ∧ LsOf G2 es v2 ∧ ds.length + es.length ≤ sizeLine ∧ Q (.d (.list (ds ++ es))) G2) : Ef C X (.BinOp a .Add b pos) G Q :=
  ef_op2 (fun _ _ h1 h2 => pe_op op_cat h1 h2) h fun O σ H G2 d1 v2 x y Q' E r1 r2 ⟨ds, es, e1, e2, c, q⟩ k => by
    subst e1
    obtain ⟨t, xs, rfl, ht, _, ra⟩ := Rep.lst_inv r1
    obtain ⟨u, ys, rfl, hu, rb⟩ := e2.at E r2
    exact ⟨t, u, xs, ys, rfl, rfl, ht, hu, by rw [ra.1, rb.1]; exact c, fun p hp => Co.newL k E hp (ra.append rb) q⟩
theorem ef_mulL (h : Ef C X a G fun v1 G1 => ∃ d1, v1 = .d d1 ∧ Ef C X b G1 fun v2 G2 => ∃ ds n, d1 = .list ds ∧ v2 = .d (.int n) ∧ (0 ≤ n ∧ n ≤ 100 ∧ ds.length ≤ 100) ∧ Q (.d (.list (List.replicate n.toNat ds).flatten)) G2) : Ef C X (.BinOp a .Mult b pos) G Q :=
  ef_op2 (fun _ _ h1 h2 => pe_op op_rep h1 h2) h fun O σ H G2 d1 v2 x y Q' E r1 r2 ⟨ds, n, e1, e2, ⟨c1, c2, c3⟩, q⟩ k => by
    subst e1 e2
    obtain ⟨t, xs, rfl, ht, _, ra⟩ := Rep.lst_inv r1
    refine ⟨t, n, xs, rfl, Rep.int_inv r2, ht, by omega, by omega, ?_, fun p hp => ?_⟩
    · rw [ra.1]
      have h2 : ds.length * n.toNat ≤ 100 * 100 := Nat.mul_le_mul c3 (by omega)
      exact Nat.le_trans h2 (by decide)
    · have rr : ∀ m : Nat, RepAll X.K C O H (List.replicate m xs).flatten (List.replicate m ds).flatten := fun m => by
        induction m with
        | zero => exact .nil
        | succ m ih =>
          rw [List.replicate_succ, List.replicate_succ, List.flatten_cons, List.flatten_cons]
          exact ra.append ih
      exact Co.newL k E hp (rr _) q
/-! ### comparisons -/
/-- a comparison, as a value and as a test alike -/
def tPC (X : Cx) (op : CmpOp) (a b : Expr) : TE := fun σ H Q => ∀ pins s, Inv X pins σ H s → wpAny (model X.prog X.w) X.A (eval a X.env) (fun v s₁ => wpAny (model X.prog X.w) X.A (eval b X.env) (fun u s₂ => wpAny (model X.prog X.w) X.A (compareOp op v u) (EP X pins σ Q) X.xe s₂) X.xe s₁) X.xe s
theorem pc_W (op : CmpOp) (a b : Expr) : PC X op a b (tPC X op a b) := ⟨fun pins s _ _ _ I h => h pins s I⟩
def Ec (C : Addr) (X : Cx) (op : CmpOp) (a b : Expr) (G : Ga) (Q : Vl → Ga → Prop) : Prop := ∀ (O : List Addr) (σ : L2.St) (H : Hp), Env X.K C O H σ G → ∀ Q' : VK, Co C X σ G O H Q Q' → tPC X op a b σ H Q'
theorem tPC_of {op : CmpOp} {te : TE} (h : PC X op a b te) {σ : L2.St} {H : Hp} {Q : VK} (q : te σ H Q) : tPC X op a b σ H Q := fun pins s I => h.run pins s σ H Q I q
theorem pc_r {op : CmpOp} {r : R2} {ta tb : TE} (ho : OpR X (compareOp op) r) (ha : PE X a ta) (hb : PE X b tb) : PC X op a b (tOp r ta tb) := ⟨fun pins s σ H Q I h => binT ha hb I h fun v u s2 x y H2 I2 rx ry q => ho pins s2 σ H2 x y v u Q I2 rx ry q⟩
theorem ec_op2 {op : CmpOp} {r : R2} {Z : PyData → Vl → Ga → Prop} (ho : OpR X (compareOp op) r) (h : Ef C X a G fun v1 G1 => ∃ d1, v1 = .d d1 ∧ Ef C X b G1 fun v2 G2 => Z d1 v2 G2)
    (hz : ∀ (O : List Addr) (σ : L2.St) (H : Hp) (G2 : Ga) (d1 : PyData) (v2 : Vl) (x y : V) (Q' : VK), Env X.K C O H σ G2 → Rep X.K C O H x d1 → RepV X.K C O H σ G2 y v2 → Z d1 v2 G2 → Co C X σ G2 O H Q Q' → r x y H Q') : Ec C X op a b G Q := by
  intro O σ H E Q' q
  refine tPC_of (pc_r ho (pe_W a) (pe_W b)) ?_
  refine h O σ H E _ fun v1 vl1 G1 H1 E1 K1 R1 ⟨d1, e1, h2⟩ => ?_
  subst e1
  refine h2 O σ H1 E1 _ fun v2 vl2 G2 H2 E2 K2 R2 z => ?_
  exact hz O σ H2 G2 d1 vl2 v1 v2 Q' E2 (Rep.keep (K2.keep E1) E1.wo R1) R2 z (Co.step q E (K1.trans K2 E))
theorem ef_c {op : CmpOp} (h : Ec C X op a b G Q) (hm : behindInMarks op b = false := by first | exact nomark _ | rfl) : Ef C X (.Compare a [op] [b] pos) G Q := fun O σ H E Q' q => tW_of (pe_cmp (pc_W op a b) hm) (h O σ H E Q' q)
theorem et_c {op : CmpOp} {QT : Bool → Ga → Prop} (h : Ec C X op a b G fun v G1 => ∃ k, v = .d (.bool k) ∧ QT k G1) (hm : behindInMarks op b = false := by first | exact nomark _ | rfl) : Et C X (.Compare a [op] [b] pos) G QT := by
  intro O σ H E Q' q
  refine tT_of (pt_cmp (pc_W op a b) hm) ?_
  refine h O σ H E _ fun v1 vl1 G1 H1 E1 K1 R1 ⟨k, e1, h0⟩ => ?_
  subst e1
  exact ⟨k, Rep.bl_inv R1, q k G1 H1 E1 K1 h0⟩
theorem ec_cii {f : Int → Int → Bool} (ho : OpR X (compareOp cop) (rI0 fun i j => .bl (f i j))) (h : Ef C X a G fun v1 G1 => ∃ d1, v1 = .d d1 ∧ Ef C X b G1 fun v2 G2 => ∃ i j, d1 = .int i ∧ v2 = .d (.int j) ∧ Q (.d (.bool (f i j))) G2) : Ec C X cop a b G Q :=
  ec_op2 ho h fun O σ H G2 d1 v2 x y Q' E r1 r2 ⟨i, j, e1, e2, q⟩ k => by
    subst e1 e2
    exact ⟨i, j, Rep.int_inv r1, Rep.int_inv r2, Co.at k E (.bl _) q⟩
theorem ec_lt (h : Ef C X a G fun v1 G1 => ∃ d1, v1 = .d d1 ∧ Ef C X b G1 fun v2 G2 => ∃ i j, d1 = .int i ∧ v2 = .d (.int j) ∧ Q (.d (.bool (decide (i < j)))) G2) : Ec C X .Lt a b G Q := ec_cii op_lt h
theorem ec_le (h : Ef C X a G fun v1 G1 => ∃ d1, v1 = .d d1 ∧ Ef C X b G1 fun v2 G2 => ∃ i j, d1 = .int i ∧ v2 = .d (.int j) ∧ Q (.d (.bool (decide (i ≤ j)))) G2) : Ec C X .LtE a b G Q := ec_cii op_le h
theorem ec_gt' (h : Ef C X a G fun v1 G1 => ∃ d1, v1 = .d d1 ∧ Ef C X b G1 fun v2 G2 => ∃ i j, d1 = .int i ∧ v2 = .d (.int j) ∧ Q (.d (.bool (decide (j < i)))) G2) : Ec C X .Gt a b G Q := ec_cii op_gt h
theorem ec_ge (h : Ef C X a G fun v1 G1 => ∃ d1, v1 = .d d1 ∧ Ef C X b G1 fun v2 G2 => ∃ i j, d1 = .int i ∧ v2 = .d (.int j) ∧ Q (.d (.bool (decide (j ≤ i)))) G2) : Ec C X .GtE a b G Q := ec_cii op_ge h
theorem ec_ltS (h : Ef C X a G fun v1 G1 => ∃ d1, v1 = .d d1 ∧ Ef C X b G1 fun v2 G2 => ∃ i j : Str, d1 = .str i ∧ v2 = .d (.str j) ∧ Q (.d (.bool (decide (i.cps.toList < j.cps.toList)))) G2) : Ec C X .Lt a b G Q :=
  ec_op2 op_lt_str h fun O σ H G2 d1 v2 x y Q' E r1 r2 ⟨i, j, e1, e2, q⟩ k => by
    subst e1 e2
    exact ⟨i, j, Rep.str_inv r1, Rep.str_inv r2, Co.at k E (.bl _) q⟩
/-- a scalar: compared by == -/
def isSc : PyData → Bool
  | .int _ => true
  | .str _ => true
  | .bool _ => true
  | _ => false
/-- ints, texts, truth values of one kind -/
theorem ec_eqI (h : Ef C X a G fun v1 G1 => ∃ d1, v1 = .d d1 ∧ Ef C X b G1 fun v2 G2 => ∃ i j, d1 = .int i ∧ v2 = .d (.int j) ∧ Q (.d (.bool (decide (i = j)))) G2) : Ec C X .Eq a b G Q :=
  ec_op2 op_eq h fun O σ H G2 d1 v2 x y Q' E r1 r2 ⟨i, j, e1, e2, q⟩ k => by
    subst e1 e2
    obtain rfl := Rep.int_inv r1
    obtain rfl := Rep.int_inv r2
    have z : decide (V.int i = V.int j) = decide (i = j) := by simp
    refine ⟨rfl, ?_⟩
    rw [z]
    exact Co.at k E (.bl _) q
theorem ec_neI (h : Ef C X a G fun v1 G1 => ∃ d1, v1 = .d d1 ∧ Ef C X b G1 fun v2 G2 => ∃ i j, d1 = .int i ∧ v2 = .d (.int j) ∧ Q (.d (.bool (!decide (i = j)))) G2) : Ec C X .NotEq a b G Q :=
  ec_op2 op_ne h fun O σ H G2 d1 v2 x y Q' E r1 r2 ⟨i, j, e1, e2, q⟩ k => by
    subst e1 e2
    obtain rfl := Rep.int_inv r1
    obtain rfl := Rep.int_inv r2
    have z : decide (V.int i = V.int j) = decide (i = j) := by simp
    refine ⟨rfl, ?_⟩
    rw [z]
    exact Co.at k E (.bl _) q
theorem ec_eqS (h : Ef C X a G fun v1 G1 => ∃ d1, v1 = .d d1 ∧ Ef C X b G1 fun v2 G2 => ∃ i j, d1 = .str i ∧ v2 = .d (.str j) ∧ Q (.d (.bool (decide (i = j)))) G2) : Ec C X .Eq a b G Q :=
  ec_op2 op_eq h fun O σ H G2 d1 v2 x y Q' E r1 r2 ⟨i, j, e1, e2, q⟩ k => by
    subst e1 e2
    obtain rfl := Rep.str_inv r1
    obtain rfl := Rep.str_inv r2
    have z : decide (V.str i = V.str j) = decide (i = j) := by simp
    refine ⟨rfl, ?_⟩
    rw [z]
    exact Co.at k E (.bl _) q
theorem ec_neS (h : Ef C X a G fun v1 G1 => ∃ d1, v1 = .d d1 ∧ Ef C X b G1 fun v2 G2 => ∃ i j, d1 = .str i ∧ v2 = .d (.str j) ∧ Q (.d (.bool (!decide (i = j)))) G2) : Ec C X .NotEq a b G Q :=
  ec_op2 op_ne h fun O σ H G2 d1 v2 x y Q' E r1 r2 ⟨i, j, e1, e2, q⟩ k => by
    subst e1 e2
    obtain rfl := Rep.str_inv r1
    obtain rfl := Rep.str_inv r2
    have z : decide (V.str i = V.str j) = decide (i = j) := by simp
    refine ⟨rfl, ?_⟩
    rw [z]
    exact Co.at k E (.bl _) q
theorem ec_eqB (h : Ef C X a G fun v1 G1 => ∃ d1, v1 = .d d1 ∧ Ef C X b G1 fun v2 G2 => ∃ i j, d1 = .bool i ∧ v2 = .d (.bool j) ∧ Q (.d (.bool (decide (i = j)))) G2) : Ec C X .Eq a b G Q :=
  ec_op2 op_eq h fun O σ H G2 d1 v2 x y Q' E r1 r2 ⟨i, j, e1, e2, q⟩ k => by
    subst e1 e2
    obtain rfl := Rep.bl_inv r1
    obtain rfl := Rep.bl_inv r2
    have z : decide (V.bl i = V.bl j) = decide (i = j) := by simp
    refine ⟨rfl, ?_⟩
    rw [z]
    exact Co.at k E (.bl _) q
/-- is None -/
def isNone : PyData → Bool
  | .none => true
  | _ => false
theorem Rep.isNone {v : V} {d : PyData} (h : Rep X.K C O H v d) : decide (v = .non) = isNone d := by cases h <;> rfl
theorem ec_op1 {op : CmpOp} {r : V → Hp → VK → Prop} {Z : Vl → Ga → Prop} (pe : ∀ ta, PE X a ta → PC X op a b (fun σ H Q => ta σ H fun x H1 => r x H1 Q)) (h : Ef C X a G Z)
    (hz : ∀ (O : List Addr) (σ : L2.St) (H : Hp) (G1 : Ga) (v1 : Vl) (x : V) (Q' : VK), Env X.K C O H σ G1 → RepV X.K C O H σ G1 x v1 → Z v1 G1 → Co C X σ G1 O H Q Q' → r x H Q') : Ec C X op a b G Q := by
  intro O σ H E Q' q
  refine tPC_of (pe _ (pe_W a)) ?_
  refine h O σ H E _ fun v1 vl1 G1 H1 E1 K1 R1 z => ?_
  exact hz O σ H1 G1 vl1 v1 Q' E1 R1 z (Co.step q E K1)
theorem ec_isN {j : Nat} (h : Ef C X a G fun v1 G1 => ∃ d1, v1 = .d d1 ∧ Q (.d (.bool (isNone d1))) G1) : Ec C X .Is a (.Constant .none j p) G Q :=
  ec_op1 (r := fun x H Q => Q (.bl (decide (x = .non))) H) (fun _ h1 => pc_isN h1) h fun O σ H G1 v1 x Q' E r ⟨d1, e1, q⟩ k => by
    subst e1
    show Q' (.bl (decide (x = .non))) H
    rw [Rep.isNone r]
    exact Co.at k E (.bl _) q
theorem ec_notN {j : Nat} (h : Ef C X a G fun v1 G1 => ∃ d1, v1 = .d d1 ∧ Q (.d (.bool (!isNone d1))) G1) : Ec C X .IsNot a (.Constant .none j p) G Q :=
  ec_op1 (r := fun x H Q => Q (.bl (!decide (x = .non))) H) (fun _ h1 => pc_notN h1) h fun O σ H G1 v1 x Q' E r ⟨d1, e1, q⟩ k => by
    subst e1
    show Q' (.bl (!decide (x = .non))) H
    rw [Rep.isNone r]
    exact Co.at k E (.bl _) q
/-- a text among texts -/
theorem inV_strs (x : Str) (ys : List Str) : inV (.str x) (ys.map V.str) = decide (x ∈ ys) := by
  induction ys with
  | nil => rfl
  | cons y ys ih =>
    show (eqV (.str y) (.str x) || inV (.str x) (ys.map V.str)) = _
    rw [ih]
    have z : eqV (.str y) (.str x) = decide (y = x) := by
      first
        | rfl
        | simp [eqV]
    rw [z]
    by_cases h : y = x
    · simp [h]
    · have h' : ¬ x = y := fun q => h q.symm
      simp [h, h']
/-- texts in a list, a tuple -/
def StrsOf (G : Ga) (ys : List Str) : Vl → Prop
  | .d d => d = .list (ys.map .str) ∨ d = .tuple (ys.map .str)
  | .o i => ∃ s, G[i]? = some s ∧ s.held = some (ys.map .str)
theorem StrsOf.at (E : Env X.K C O H σ G) {v : V} {vl : Vl} {ys : List Str} (r : RepV X.K C O H σ G v vl) (h : StrsOf G ys vl) : ∃ a, v = .ref a ∧ (SqL X.K H a (ys.map V.str) ∨ SqT X.K H a (ys.map V.str)) := by
  cases vl with
  | d d =>
    rcases h with e | e
    · subst e
      obtain ⟨a, xs, e, h, _, q⟩ := Rep.lst_inv r
      rw [repAll_strs q] at h
      exact ⟨a, e, .inl (.inl (.inl h))⟩
    · subst e
      obtain ⟨a, xs, e, h, q⟩ := Rep.tup_inv r
      rw [repAll_strs q] at h
      exact ⟨a, e, .inr h⟩
  | o i =>
    obtain ⟨s, h1, h2⟩ := h
    obtain ⟨a, xs, e, _, h, q⟩ := E.own_at r.1 h1 h2
    rw [repAll_strs q] at h
    exact ⟨a, e, .inl (.inl (.inl h))⟩
theorem ec_in (h : Ef C X a G fun v1 G1 => ∃ d1, v1 = .d d1 ∧ Ef C X b G1 fun v2 G2 => ∃ x ys, d1 = .str x ∧ StrsOf G2 ys v2 ∧ Q (.d (.bool (decide (x ∈ ys)))) G2) : Ec C X .In a b G Q :=
  ec_op2 op_in_seq h fun O σ H G2 d1 v2 x y Q' E r1 r2 ⟨i, ys, e1, e2, q⟩ k => by
    subst e1
    obtain rfl := Rep.str_inv r1
    obtain ⟨u, rfl, hs⟩ := e2.at E r2
    refine ⟨u, _, rfl, hs, rfl, flat_strs ys, ?_⟩
    show Q' (.bl (inV (.str i) (ys.map V.str))) H
    rw [inV_strs]
    exact Co.at k E (.bl _) q
theorem ec_notIn (h : Ef C X a G fun v1 G1 => ∃ d1, v1 = .d d1 ∧ Ef C X b G1 fun v2 G2 => ∃ x ys, d1 = .str x ∧ StrsOf G2 ys v2 ∧ Q (.d (.bool (!decide (x ∈ ys)))) G2) : Ec C X .NotIn a b G Q :=
  ec_op2 op_notIn_seq h fun O σ H G2 d1 v2 x y Q' E r1 r2 ⟨i, ys, e1, e2, q⟩ k => by
    subst e1
    obtain rfl := Rep.str_inv r1
    obtain ⟨u, rfl, hs⟩ := e2.at E r2
    refine ⟨u, _, rfl, hs, rfl, flat_strs ys, ?_⟩
    show Q' (.bl (!inV (.str i) (ys.map V.str))) H
    rw [inV_strs]
    exact Co.at k E (.bl _) q
/-- one sign in a text -/
theorem ec_inS (h : Ef C X a G fun v1 G1 => ∃ d1, v1 = .d d1 ∧ Ef C X b G1 fun v2 G2 => ∃ (c : Nat) (z : Str), d1 = .str ⟨#[c]⟩ ∧ v2 = .d (.str z) ∧ Q (.d (.bool (decide (c ∈ z.cps.toList)))) G2) : Ec C X .In a b G Q :=
  ec_op2 op_in_sign h fun O σ H G2 d1 v2 x y Q' E r1 r2 ⟨c, z, e1, e2, q⟩ k => by
    subst e1 e2
    exact ⟨c, z, Rep.str_inv r1, Rep.str_inv r2, Co.at k E (.bl _) q⟩
end

/-! ### truth -/
theorem ef_and2 (h : Ef C X a G fun v1 G1 => ∃ k, v1 = .d (.bool k) ∧ (k = false → Q (.d (.bool false)) G1) ∧ (k = true → Ef C X b G1 Q)) : Ef C X (.BoolOp .And [a, b] pos) G Q := by
  intro O σ H E Q' q
  refine tW_of (pe_and (pe_W a) (pe_one (pe_W b))) ?_
  refine h O σ H E _ fun v1 vl1 G1 H1 E1 K1 R1 ⟨k, e1, h0, h1⟩ => ?_
  subst e1
  refine ⟨k, Rep.bl_inv R1, ?_⟩
  cases k with
  | true => exact iteT (h1 rfl O σ H1 E1 Q' (Co.step q E K1))
  | false => exact iteF (Co.at (Co.step q E K1) E1 (.bl _) (h0 rfl))
theorem ef_and3 {c : Expr} (h : Ef C X a G fun v1 G1 => ∃ k, v1 = .d (.bool k) ∧ (k = false → Q (.d (.bool false)) G1) ∧ (k = true → Ef C X b G1 fun v2 G2 => ∃ l, v2 = .d (.bool l) ∧ (l = false → Q (.d (.bool false)) G2) ∧ (l = true → Ef C X c G2 Q))) : Ef C X (.BoolOp .And [a, b, c] pos) G Q := by
  intro O σ H E Q' q
  refine tW_of (pe_and (pe_W a) (pe_and (pe_W b) (pe_one (pe_W c)))) ?_
  refine h O σ H E _ fun v1 vl1 G1 H1 E1 K1 R1 ⟨k, e1, h0, h1⟩ => ?_
  subst e1
  refine ⟨k, Rep.bl_inv R1, ?_⟩
  cases k with
  | false => exact iteF (Co.at (Co.step q E K1) E1 (.bl _) (h0 rfl))
  | true =>
    refine iteT ?_
    refine h1 rfl O σ H1 E1 _ fun v2 vl2 G2 H2 E2 K2 R2 ⟨l, e2, g0, g1⟩ => ?_
    subst e2
    refine ⟨l, Rep.bl_inv R2, ?_⟩
    cases l with
    | true => exact iteT (g1 rfl O σ H2 E2 Q' (Co.step q E (K1.trans K2 E)))
    | false => exact iteF (Co.at (Co.step q E (K1.trans K2 E)) E2 (.bl _) (g0 rfl))
theorem ef_not (h : Ef C X a G fun v1 G1 => ∃ k, v1 = .d (.bool k) ∧ Q (.d (.bool (!k))) G1) : Ef C X (.UnaryOp .Not a pos) G Q :=
  ef_op1 (r := fun x H Q => ∃ c, x = .bl c ∧ Q (.bl (!c)) H) (fun _ h1 => pe_not h1) h fun O σ H G1 v1 x Q' E r ⟨k0, e1, q⟩ k => by
    subst e1
    exact ⟨k0, Rep.bl_inv r, Co.at k E (.bl _) q⟩
/-- tests -/
theorem et_v {QT : Bool → Ga → Prop} (h : Ef C X e G fun v G1 => ∃ k, v = .d (.bool k) ∧ QT k G1) (he : ∀ whole, isTrue e X.env whole = (do let v ← whole; standAt e.pos; holding [v] (truthy v)) := by intro _; rfl) : Et C X e G QT := by
  intro O σ H E Q' q
  refine tT_of (pt_val (pe_W e) he) ?_
  refine h O σ H E _ fun v1 vl1 G1 H1 E1 K1 R1 ⟨k, e1, h0⟩ => ?_
  subst e1
  exact ⟨k, Rep.bl_inv R1, q k G1 H1 E1 K1 h0⟩
theorem et_not {QT : Bool → Ga → Prop} (h : Et C X a G fun k G1 => QT (!k) G1) : Et C X (.UnaryOp .Not a pos) G QT := by
  intro O σ H E Q' q
  refine tT_of (pt_not (pt_W a)) ?_
  exact h O σ H E _ fun k G1 H1 E1 K1 h0 => q (!k) G1 H1 E1 K1 h0
/-- what stands behind a test -/
abbrev CoT (C : Addr) (X : Cx) (σ : L2.St) (G : Ga) (O : List Addr) (H : Hp) (Q : Bool → Ga → Prop) (Q' : Bool → Hp → Prop) : Prop :=
  ∀ k G' H', Env X.K C O H' σ G' → Kp σ G O H σ G' O H' → Q k G' → Q' k H'
theorem CoT.step {QT : Bool → Ga → Prop} {O : List Addr} {σ : L2.St} {H H1 : Hp} {G1 : Ga} {Q' : Bool → Hp → Prop} (k : CoT C X σ G O H QT Q') (E : Env X.K C O H σ G) (K1 : Kp σ G O H σ G1 O H1) : CoT C X σ G1 O H1 QT Q' := fun b G' H' E' K' q => k b G' H' E' (K1.trans K' E) q
/-- a row of tests: the rest is asked where it is needed -/
def Ew (C : Addr) (X : Cx) (e : Expr) (G : Ga) (QT : Bool → Ga → Prop) : Prop := ∀ (O : List Addr) (σ : L2.St) (H : Hp), Env X.K C O H σ G → ∀ Q' : Bool → Hp → Prop, CoT C X σ G O H QT Q' → ∃ t, PW X e t ∧ t σ H Q'
theorem ew_one_and {QT : Bool → Ga → Prop} (h : Et C X a G QT) : Ew C X (.BoolOp .And [a] pos) G QT := fun O σ H E Q' q => ⟨_, pw_and1 (pt_W a), h O σ H E Q' q⟩
theorem ew_one_or {QT : Bool → Ga → Prop} (h : Et C X a G QT) : Ew C X (.BoolOp .Or [a] pos) G QT := fun O σ H E Q' q => ⟨_, pw_or1 (pt_W a), h O σ H E Q' q⟩
/-- the weakest reading of a row -/
def tWw (X : Cx) (e : Expr) : TT := fun σ H Q => ∀ whole pins s, Inv X pins σ H s → wpAny (model X.prog X.w) X.A (isTrue e X.env whole) (TP X pins σ Q) X.xe s
theorem pw_W (e : Expr) : PW X e (tWw X e) := ⟨fun wh pins s _ _ _ I h => h wh pins s I⟩
theorem tWw_of {t : TT} (h : PW X e t) {σ : L2.St} {H : Hp} {Q : Bool → Hp → Prop} (q : t σ H Q) : tWw X e σ H Q := fun wh pins s I => h.run wh pins s σ H Q I q
theorem ew_and {QT : Bool → Ga → Prop} {rest : List Expr} (h : Et C X a G fun k G1 => (k = false → QT false G1) ∧ (k = true → Ew C X (.BoolOp .And (b :: rest) pos) G1 QT)) : Ew C X (.BoolOp .And (a :: b :: rest) pos) G QT := by
  intro O σ H E Q' q
  refine ⟨_, pw_and (pt_W a) (pw_W _), ?_⟩
  refine h O σ H E _ fun k G1 H1 E1 K1 ⟨h0, h1⟩ => ?_
  cases k with
  | true =>
    obtain ⟨t, p, z⟩ := h1 rfl O σ H1 E1 Q' (CoT.step q E K1)
    exact iteT (tWw_of p z)
  | false => exact iteF (q false G1 H1 E1 K1 (h0 rfl))
theorem ew_or {QT : Bool → Ga → Prop} {rest : List Expr} (h : Et C X a G fun k G1 => (k = true → QT true G1) ∧ (k = false → Ew C X (.BoolOp .Or (b :: rest) pos) G1 QT)) : Ew C X (.BoolOp .Or (a :: b :: rest) pos) G QT := by
  intro O σ H E Q' q
  refine ⟨_, pw_or (pt_W a) (pw_W _), ?_⟩
  refine h O σ H E _ fun k G1 H1 E1 K1 ⟨h0, h1⟩ => ?_
  cases k with
  | false =>
    obtain ⟨t, p, z⟩ := h1 rfl O σ H1 E1 Q' (CoT.step q E K1)
    exact iteF (tWw_of p z)
  | true => exact iteT (q true G1 H1 E1 K1 (h0 rfl))
theorem et_w {QT : Bool → Ga → Prop} (h : Ew C X e G QT) : Et C X e G QT := by
  intro O σ H E Q' q
  obtain ⟨t, p, z⟩ := h O σ H E Q' q
  exact tT_of p.pt z
end
end DL
/-! DL3: displays, subscripts, slices, calls. -/
namespace DL
open PySem PySem.Spec PyProof.Rows L2

section
variable {C : Addr} {X : Cx} {G : Ga} {Q : Vl → Ga → Prop} {O : List Addr} {σ : L2.St} {H H' : Hp} {Q' : VK}
variable {x : Str} {pos pos' p apos cpos : Pos} {a b e c : Expr} {es : List Expr}

/-! ### a if c else b -/
theorem ef_if (h : Et C X c G fun k G1 => (k = true → Ef C X a G1 Q) ∧ (k = false → Ef C X b G1 Q)) : Ef C X (.IfExp c a b pos) G Q := by
  intro O σ H E Q' q
  refine tW_of (pe_ifExp (pt_W c) (pe_W a) (pe_W b)) ?_
  refine h O σ H E _ fun k G1 H1 E1 K1 ⟨h1, h0⟩ => ?_
  cases k with
  | true => exact iteT (h1 rfl O σ H1 E1 Q' (Co.step q E K1))
  | false => exact iteF (h0 rfl O σ H1 E1 Q' (Co.step q E K1))

/-! ### rows of items -/
/-- what a value is stays so: data, a parameter's list -/
def Firm (G : Ga) : Vl → Prop
  | .d _ => True
  | .o i => ∃ ds, G[i]? = some (Sl.urn ds)
theorem RepV.firm {O : List Addr} {G1 G2 : Ga} {H1 H2 : Hp} {v : V} {vl : Vl} (r : RepV X.K C O H1 σ G1 v vl) (f : Firm G1 vl) (E : Env X.K C O H1 σ G1) (k : Kp σ G1 O H1 σ G2 O H2) : RepV X.K C O H2 σ G2 v vl := by
  cases vl with
  | d d => exact Rep.keep (k.keep E) E.wo r
  | o i =>
    obtain ⟨ds, h⟩ := f
    obtain ⟨_, ds', h'⟩ := k.urn i ds h
    exact ⟨r.1, _, ds', h', rfl⟩
theorem ea_nil {QA : List Vl → Ga → Prop} (q : QA [] G) : Ea C X [] G QA := fun O σ H E Q' k => tA_of pa_nil (k [] [] G H E (Kp.refl _ _ _ _) rfl (fun i v vl h => by simp at h) q)
theorem ea_cons {QA : List Vl → Ga → Prop} (h : Ef C X e G fun v1 G1 => Firm G1 v1 ∧ Ea C X es G1 fun vs G2 => QA (v1 :: vs) G2) (hs : starEach (e :: es) X.env = (false, eval e X.env) :: starEach es X.env := by rfl) : Ea C X (e :: es) G QA := by
  intro O σ H E Q' q
  refine tA_of (pa_cons (pe_W e) (pa_W es) hs) ?_
  refine h O σ H E _ fun v1 vl1 G1 H1 E1 K1 R1 ⟨f, h2⟩ => ?_
  refine h2 O σ H1 E1 _ fun vs vls G2 H2 E2 K2 hl R2 z => ?_
  refine q (v1 :: vs) (vl1 :: vls) G2 H2 E2 (K1.trans K2 E) (by simp [hl]) (fun i v vl e1 e2 => ?_) z
  cases i with
  | zero =>
    simp at e1 e2
    subst e1 e2
    exact RepV.firm R1 f E1 K2
  | succ i => exact R2 i v vl (by simpa using e1) (by simpa using e2)
/-- one more item that is data -/
theorem ea_d {QA : List Vl → Ga → Prop} (h : Ef C X e G fun v1 G1 => ∃ d, v1 = .d d ∧ Ea C X es G1 fun vs G2 => QA (.d d :: vs) G2) (hs : starEach (e :: es) X.env = (false, eval e X.env) :: starEach es X.env := by rfl) : Ea C X (e :: es) G QA :=
  ea_cons (h.mono fun v G' ⟨d, e1, z⟩ => by
    subst e1
    exact ⟨trivial, z⟩) hs
theorem repAll_of {O : List Addr} {vs : List V} {ds : List PyData} (hl : vs.length = (ds.map Vl.d).length) (h : ∀ (i : Nat) v vl, vs[i]? = some v → (ds.map Vl.d)[i]? = some vl → RepV X.K C O H σ G v vl) : RepAll X.K C O H vs ds :=
  ⟨by simpa using hl, fun i v d e1 e2 => h i v (.d d) e1 (by rw [List.getElem?_map, e2]; rfl)⟩
theorem ea_star {QA : List Vl → Ga → Prop} (h : Ef C X e G fun v1 G1 => ∃ ds, v1 = .d (.tuple ds) ∧ Ea C X es G1 fun vs G2 => QA (ds.map Vl.d ++ vs) G2) (hs : starEach (.Starred e p :: es) X.env = (true, eval e X.env) :: starEach es X.env := by rfl) : Ea C X (.Starred e p :: es) G QA := by
  intro O σ H E Q' q
  refine tA_of (StX.pa_star (pe_W e) (pa_W es) hs) ?_
  refine h O σ H E _ fun v1 vl1 G1 H1 E1 K1 R1 ⟨ds, e1, h2⟩ => ?_
  subst e1
  obtain ⟨t, xs, rfl, ht, ra⟩ := Rep.tup_inv R1
  refine ⟨t, xs, rfl, .inl ht, ?_⟩
  refine h2 O σ H1 E1 _ fun vs vls G2 H2 E2 K2 hl R2 z => ?_
  have ra2 : RepAll X.K C O H2 xs ds := ra.keep (K2.keep E1) E1.wo
  refine q (xs ++ vs) (ds.map Vl.d ++ vls) G2 H2 E2 (K1.trans K2 E) (by simp [hl, ra.1]) (fun i v vl e1 e2 => ?_) z
  by_cases hi : i < xs.length
  · rw [List.getElem?_append_left hi] at e1
    rw [List.getElem?_append_left (by simpa [← ra.1] using hi), List.getElem?_map] at e2
    cases ed : ds[i]? with
    | none =>
      rw [ed] at e2
      cases e2
    | some d =>
      rw [ed] at e2
      cases e2
      exact ra2.2 i v d e1 ed
  · rw [List.getElem?_append_right (by omega)] at e1
    rw [List.getElem?_append_right (by simp [← ra.1]; omega)] at e2
    refine R2 (i - xs.length) v vl e1 ?_
    have : (ds.map Vl.d).length = xs.length := by simp [ra.1]
    rw [this] at e2
    exact e2
theorem ef_tup {k : Nat} (h : Ea C X es G fun vls G1 => ∃ ds, vls = ds.map Vl.d ∧ ds.length ≤ sizeLine ∧ Q (.d (.tuple ds)) G1) : Ef C X (.Tuple es k pos) G Q := by
  intro O σ H E Q' q
  refine tW_of (pe_tup (pa_W es)) ?_
  refine h O σ H E _ fun vs vls G1 H1 E1 K1 hl R1 ⟨ds, e1, hz, z⟩ => ?_
  subst e1
  have ra := repAll_of hl R1
  exact ⟨by rw [ra.1]; exact hz, fun p hp => Co.newT (Co.step q E K1) E1 hp ra z⟩
theorem ef_lst (h : Ea C X es G fun vls G1 => ∃ ds, vls = ds.map Vl.d ∧ ds.length ≤ sizeLine ∧ Q (.d (.list ds)) G1) : Ef C X (.List es pos) G Q := by
  intro O σ H E Q' q
  refine tW_of (pe_lst (pa_W es)) ?_
  refine h O σ H E _ fun vs vls G1 H1 E1 K1 hl R1 ⟨ds, e1, hz, z⟩ => ?_
  subst e1
  have ra := repAll_of hl R1
  exact ⟨by rw [ra.1]; exact hz, fun p hp => Co.newL (Co.step q E K1) E1 hp ra z⟩
theorem ef_emp (q : Q (.d (.dict [])) G) : Ef C X (.Dict [] [] pos) G Q := fun O σ H E Q' k => tW_of pe_dnewK fun p hp => Co.ext k E (same_new hp) (.emp upd_same) q

/-! ### subscripts -/
theorem atI_rep {O : List Addr} {xs : List V} {ds : List PyData} {i : Int} {d : PyData} (r : RepAll X.K C O H xs ds) (h : atI ds i = some d) : ∃ v, atI xs i = some v ∧ Rep X.K C O H v d := by
  unfold atI at h ⊢
  rw [r.1]
  cases e : ixN ds.length i with
  | none =>
    rw [e] at h
    cases h
  | some j =>
    rw [e] at h
    exact r.get h
theorem ef_ixT (h : Ef C X a G fun v1 G1 => ∃ d1, v1 = .d d1 ∧ Ef C X b G1 fun v2 G2 => ∃ ds i d, d1 = .tuple ds ∧ v2 = .d (.int i) ∧ atI ds i = some d ∧ Q (.d d) G2) (hs : PlainIx b := by exact fun _ _ => rfl) : Ef C X (.Subscript a b pos) G Q :=
  ef_op2 (fun _ _ h1 h2 => pe_ix ix_tup h1 h2 hs) h fun O σ H G2 d1 v2 x y Q' E r1 r2 ⟨ds, i, d, e1, e2, e3, q⟩ k => by
    subst e1 e2
    obtain ⟨t, xs, rfl, ht, ra⟩ := Rep.tup_inv r1
    obtain ⟨v, hv, rv⟩ := atI_rep ra e3
    exact ⟨t, xs, i, v, rfl, Rep.int_inv r2, ht, hv, Co.at k E rv q⟩
theorem ef_ixL (h : Ef C X a G fun v1 G1 => ∃ d1, v1 = .d d1 ∧ Ef C X b G1 fun v2 G2 => ∃ ds i d, d1 = .list ds ∧ v2 = .d (.int i) ∧ atI ds i = some d ∧ Q (.d d) G2) (hs : PlainIx b := by exact fun _ _ => rfl) : Ef C X (.Subscript a b pos) G Q :=
  ef_op2 (fun _ _ h1 h2 => pe_ix ix_list h1 h2 hs) h fun O σ H G2 d1 v2 x y Q' E r1 r2 ⟨ds, i, d, e1, e2, e3, q⟩ k => by
    subst e1 e2
    obtain ⟨t, xs, rfl, ht, _, ra⟩ := Rep.lst_inv r1
    obtain ⟨v, hv, rv⟩ := atI_rep ra e3
    exact ⟨t, xs, i, v, rfl, Rep.int_inv r2, .inl (.inl ht), hv, Co.at k E rv q⟩
theorem ef_ixS (h : Ef C X a G fun v1 G1 => ∃ d1, v1 = .d d1 ∧ Ef C X b G1 fun v2 G2 => ∃ (z : Str) (i : Int) (c : Nat), d1 = .str z ∧ v2 = .d (.int i) ∧ z.length ≤ sizeLine ∧ atI z.cps.toList i = some c ∧ Q (.d (.str ⟨#[c]⟩)) G2) (hs : PlainIx b := by exact fun _ _ => rfl) : Ef C X (.Subscript a b pos) G Q :=
  ef_op2 (fun _ _ h1 h2 => pe_ix ix_str h1 h2 hs) h fun O σ H G2 d1 v2 x y Q' E r1 r2 ⟨z, i, c, e1, e2, e3, e4, q⟩ k => by
    subst e1 e2
    exact ⟨z, i, c, Rep.str_inv r1, Rep.int_inv r2, e3, e4, Co.at k E (.str _) q⟩
/-- an owned list's item -/
theorem ef_ixO (i : Nat) (h : Ef C X a G fun v1 G1 => v1 = .o i ∧ Ef C X b G1 fun v2 G2 => ∃ s ds j d, G2[i]? = some s ∧ s.held = some ds ∧ v2 = .d (.int j) ∧ atI ds j = some d ∧ Q (.d d) G2) (hs : PlainIx b := by exact fun _ _ => rfl) : Ef C X (.Subscript a b pos) G Q := by
  intro O σ H E Q' q
  refine tW_of (pe_ix ix_list (pe_W a) (pe_W b) hs) ?_
  refine h O σ H E _ fun v1 vl1 G1 H1 E1 K1 R1 ⟨e1, h2⟩ => ?_
  subst e1
  refine h2 O σ H1 E1 _ fun v2 vl2 G2 H2 E2 K2 R2 ⟨s, ds, j, d, g1, g2, e2, e3, z⟩ => ?_
  subst e2
  obtain ⟨t, xs, rfl, _, ht, ra⟩ := E2.own_at R1.1 g1 g2
  obtain ⟨v, hv, rv⟩ := atI_rep ra e3
  exact ⟨t, xs, j, v, rfl, Rep.int_inv R2, .inl (.inl ht), hv, Co.at (Co.step q E (K1.trans K2 E)) E2 rv z⟩

/-! ### slices -/
def tO (X : Cx) (o : Option Expr) : TO := fun σ H Q => ∀ pins s, Inv X pins σ H s → wpAny (model X.prog X.w) X.A (evalPart o X.env) (fun u s' => ∃ o H', Inv X pins σ H' s' ∧ IsPart u o ∧ Q o H') X.xe s
theorem po_W (o : Option Expr) : PO X o (tO X o) := ⟨fun pins s _ _ _ I h => h pins s I⟩
theorem tO_of {o : Option Expr} {t : TO} (h : PO X o t) {σ : L2.St} {H : Hp} {Q : Option Int → Hp → Prop} (q : t σ H Q) : tO X o σ H Q := fun pins s I => h.run pins s σ H Q I q
def Eo (C : Addr) (X : Cx) (o : Option Expr) (G : Ga) (Q : Option Int → Ga → Prop) : Prop := ∀ (O : List Addr) (σ : L2.St) (H : Hp), Env X.K C O H σ G → ∀ Q' : Option Int → Hp → Prop,
  (∀ l G' H', Env X.K C O H' σ G' → Kp σ G O H σ G' O H' → Q l G' → Q' l H') → tO X o σ H Q'
theorem eo_none {QO : Option Int → Ga → Prop} (q : QO none G) : Eo C X none G QO := fun O σ H E Q' k => tO_of po_none (k none G H E (Kp.refl _ _ _ _) q)
theorem eo_some {QO : Option Int → Ga → Prop} (h : Ef C X e G fun v G1 => ∃ i, v = .d (.int i) ∧ QO (some i) G1) : Eo C X (some e) G QO := fun O σ H E Q' k => tO_of (po_some (pe_W e)) (h O σ H E _ fun v vl G1 H1 E1 K1 R1 ⟨i, e1, z⟩ => by
  subst e1
  exact ⟨i, Rep.int_inv R1, k (some i) G1 H1 E1 K1 z⟩)
/-- the part of a row -/
def cutD (xs : List PyData) (lo hi : Option Int) : List PyData := (xs.drop (HT.sIx xs.length 0 lo)).take (HT.sIx xs.length xs.length hi - HT.sIx xs.length 0 lo)
theorem cut_rep {O : List Addr} {xs : List V} {ds : List PyData} (r : RepAll X.K C O H xs ds) (lo hi : Option Int) : RepAll X.K C O H (cutV xs lo hi) (cutD ds lo hi) := by
  unfold cutV cutD
  rw [r.1]
  exact r.sub _ _
theorem cut_whole {ds : List PyData} {lo hi : Option Int} (h : HT.sIx ds.length 0 lo = 0 ∧ HT.sIx ds.length ds.length hi = ds.length) : cutD ds lo hi = ds := by
  unfold cutD
  rw [h.1, h.2]
  simp
theorem ef_sl {r : V → Option Int → Option Int → Hp → VK → Prop} {lo hi : Option Expr} {Z : PyData → Option Int → Option Int → Ga → Prop} (hr : SlR X r)
    (h : Ef C X a G fun v1 G1 => ∃ d, v1 = .d d ∧ Eo C X lo G1 fun l G2 => Eo C X hi G2 fun u G3 => Z d l u G3)
    (hz : ∀ (O : List Addr) (σ : L2.St) (H : Hp) (G1 : Ga) (d : PyData) (l u : Option Int) (x : V) (Q' : VK), Env X.K C O H σ G1 → Rep X.K C O H x d → Z d l u G1 → Co C X σ G1 O H Q Q' → r x l u H Q') : Ef C X (.Subscript a (.Slice lo hi none p) pos) G Q := by
  intro O σ H E Q' q
  refine tW_of (pe_slice hr (pe_W a) (po_W lo) (po_W hi)) ?_
  refine h O σ H E _ fun v1 vl1 G1 H1 E1 K1 R1 ⟨d, e1, h2⟩ => ?_
  subst e1
  refine h2 O σ H1 E1 _ fun l G2 H2 E2 K2 h3 => ?_
  refine h3 O σ H2 E2 _ fun u G3 H3 E3 K3 z => ?_
  exact hz O σ H3 G3 d l u v1 Q' E3 (Rep.keep (K3.keep E2) E2.wo (Rep.keep (K2.keep E1) E1.wo R1)) z (Co.step q E (K1.trans (K2.trans K3 E1) E))
theorem ef_slT {lo hi : Option Expr} (h : Ef C X a G fun v1 G1 => ∃ d, v1 = .d d ∧ Eo C X lo G1 fun l G2 => Eo C X hi G2 fun u G3 => ∃ ds, d = .tuple ds ∧ Q (.d (.tuple (cutD ds l u))) G3) : Ef C X (.Subscript a (.Slice lo hi none p) pos) G Q :=
  ef_sl sl_tupA h fun O σ H G1 d l u x Q' E r ⟨ds, e1, q⟩ k => by
    subst e1
    obtain ⟨t, xs, rfl, ht, ra⟩ := Rep.tup_inv r
    refine ⟨t, xs, rfl, ht, fun w => ?_, fun _ p hp => Co.newT k E hp (cut_rep ra l u) q⟩
    rw [ra.1] at w
    rw [cut_whole w] at q
    exact Co.at k E (.tupAll ht ra) q
theorem ef_slL {lo hi : Option Expr} (h : Ef C X a G fun v1 G1 => ∃ d, v1 = .d d ∧ Eo C X lo G1 fun l G2 => Eo C X hi G2 fun u G3 => ∃ ds, d = .list ds ∧ Q (.d (.list (cutD ds l u))) G3) : Ef C X (.Subscript a (.Slice lo hi none p) pos) G Q :=
  ef_sl sl_list h fun O σ H G1 d l u x Q' E r ⟨ds, e1, q⟩ k => by
    subst e1
    obtain ⟨t, xs, rfl, ht, _, ra⟩ := Rep.lst_inv r
    exact ⟨t, xs, rfl, .inl (.inl ht), fun p hp => Co.newL k E hp (cut_rep ra l u) q⟩
theorem ef_slS {lo hi : Option Expr} (h : Ef C X a G fun v1 G1 => ∃ d, v1 = .d d ∧ Eo C X lo G1 fun l G2 => Eo C X hi G2 fun u G3 => ∃ z : Str, d = .str z ∧ z.length ≤ sizeLine ∧ Q (.d (.str (cutS z l u))) G3) : Ef C X (.Subscript a (.Slice lo hi none p) pos) G Q :=
  ef_sl sl_str h fun O σ H G1 d l u x Q' E r ⟨z, e1, hz, q⟩ k => by
    subst e1
    exact ⟨z, Rep.str_inv r, hz, Co.at k E (.str _) q⟩

/-! ### built-in functions -/
/-- the built-in names that the program uses are its own -/
structure Bt (mg : Str → Option Value) : Prop where
  len : mg "len" = none
  isi : mg "isinstance" = none
  all : mg "all" = none
  any : mg "any" = none
  sum : mg "sum" = none
  abs : mg "abs" = none
  max : mg "max" = none
  min : mg "min" = none
  int : mg "int" = none
  bool : mg "bool" = none
  str : mg "str" = none
  tuple : mg "tuple" = none
  list : mg "list" = none
  set : mg "set" = none
  sorted : mg "sorted" = none
  range : mg "range" = none
  zip : mg "zip" = none
  enum : mg "enumerate" = none
  repr : mg "repr" = none
theorem ef_cb1 {id : String} {r : List V → Hp → VK → Prop} {Z : Vl → Ga → Prop} (hc : CallR X (.builtin id) r) (hm : X.mg x = none) (hv : bootBuiltins x = some (.builtin id)) (h : Ef C X a G Z)
    (hz : ∀ (O : List Addr) (σ : L2.St) (H : Hp) (G1 : Ga) (v1 : Vl) (x : V) (Q' : VK), Env X.K C O H σ G1 → RepV X.K C O H σ G1 x v1 → Z v1 G1 → Co C X σ G1 O H Q Q' → r [x] H Q')
    (hg : Gl X x) (hn : x ≠ "__name__") (hdb : (x == ("__debug__" : Str)) = false) (he : starEach [a] X.env = (false, eval a X.env) :: starEach [] X.env) : Ef C X (.Call (.Name x p) [a] [] pos) G Q := by
  intro O σ H E Q' q
  refine tW_of (pe_callB hc hg hm hv (pa_cons (pe_W a) pa_nil he) hn hdb he rfl) ?_
  refine h O σ H E _ fun v1 vl1 G1 H1 E1 K1 R1 z => ?_
  exact hz O σ H1 G1 vl1 v1 Q' E1 R1 z (Co.step q E K1)
theorem ef_ct1 {T : String} {r : List V → Hp → VK → Prop} {Z : Vl → Ga → Prop} (hc : CallR X (.type T) r) (hm : X.mg x = none) (hv : bootBuiltins x = some (.type T)) (h : Ef C X a G Z)
    (hz : ∀ (O : List Addr) (σ : L2.St) (H : Hp) (G1 : Ga) (v1 : Vl) (x : V) (Q' : VK), Env X.K C O H σ G1 → RepV X.K C O H σ G1 x v1 → Z v1 G1 → Co C X σ G1 O H Q Q' → r [x] H Q')
    (hg : Gl X x) (hn : x ≠ "__name__") (hdb : (x == ("__debug__" : Str)) = false) (he : starEach [a] X.env = (false, eval a X.env) :: starEach [] X.env) : Ef C X (.Call (.Name x p) [a] [] pos) G Q := by
  intro O σ H E Q' q
  refine tW_of (pe_callTy hc hg hm hv (pa_cons (pe_W a) pa_nil he) hn hdb he rfl) ?_
  refine h O σ H E _ fun v1 vl1 G1 H1 E1 K1 R1 z => ?_
  exact hz O σ H1 G1 vl1 v1 Q' E1 R1 z (Co.step q E K1)
theorem boot_len' : bootBuiltins "len" = some (.builtin "len") := by decide +kernel
theorem boot_isi' : bootBuiltins "isinstance" = some (.builtin "isinstance") := by decide +kernel
theorem boot_all' : bootBuiltins "all" = some (.builtin "all") := by decide +kernel
theorem boot_any' : bootBuiltins "any" = some (.builtin "any") := by decide +kernel
theorem boot_sum' : bootBuiltins "sum" = some (.builtin "sum") := by decide +kernel
theorem boot_abs' : bootBuiltins "abs" = some (.builtin "abs") := by decide +kernel
theorem boot_max' : bootBuiltins "max" = some (.builtin "max") := by decide +kernel
theorem boot_min' : bootBuiltins "min" = some (.builtin "min") := by decide +kernel
theorem boot_sorted' : bootBuiltins "sorted" = some (.builtin "sorted") := by decide +kernel
theorem boot_repr' : bootBuiltins "repr" = some (.builtin "repr") := by decide +kernel
theorem boot_int' : bootBuiltins "int" = some (.type "int") := by decide +kernel
theorem boot_str' : bootBuiltins "str" = some (.type "str") := by decide +kernel
theorem boot_bool' : bootBuiltins "bool" = some (.type "bool") := by decide +kernel
theorem boot_tuple' : bootBuiltins "tuple" = some (.type "tuple") := by decide +kernel
theorem boot_list' : bootBuiltins "list" = some (.type "list") := by decide +kernel
theorem boot_set' : bootBuiltins "set" = some (.type "set") := by decide +kernel

/-- a row's items: data of a list or a tuple, an owned list -/
def RowOf (G : Ga) (ds : List PyData) : Vl → Prop
  | .d d => d = .list ds ∨ d = .tuple ds
  | .o i => ∃ s, G[i]? = some s ∧ s.held = some ds
theorem RowOf.at {O : List Addr} (E : Env X.K C O H σ G) {v : V} {vl : Vl} {ds : List PyData} (r : RepV X.K C O H σ G v vl) (h : RowOf G ds vl) : ∃ a xs, v = .ref a ∧ (SqL X.K H a xs ∨ SqT X.K H a xs) ∧ RepAll X.K C O H xs ds := by
  cases vl with
  | d d =>
    rcases h with e | e
    · subst e
      obtain ⟨a, xs, e, h, _, q⟩ := Rep.lst_inv r
      exact ⟨a, xs, e, .inl (.inl (.inl h)), q⟩
    · subst e
      obtain ⟨a, xs, e, h, q⟩ := Rep.tup_inv r
      exact ⟨a, xs, e, .inr h, q⟩
  | o i =>
    obtain ⟨s, h1, h2⟩ := h
    obtain ⟨a, xs, e, _, h, q⟩ := E.own_at r.1 h1 h2
    exact ⟨a, xs, e, .inl (.inl (.inl h)), q⟩
section
variable (B : Bt X.mg)
include B
theorem ef_len (h : Ef C X a G fun v G1 => ∃ ds, RowOf G1 ds v ∧ Q (.d (.int ds.length)) G1) (hg : Gl X "len" := by rfl) (he : starEach [a] X.env = (false, eval a X.env) :: starEach [] X.env := by rfl) : Ef C X (.Call (.Name "len" p) [a] [] pos) G Q :=
  ef_cb1 call_len_seq B.len boot_len' h (fun O σ H G1 v1 x Q' E r ⟨ds, e1, q⟩ k => by
    obtain ⟨t, xs, rfl, ht, ra⟩ := e1.at E r
    refine ⟨t, xs, rfl, ht, ?_⟩
    rw [ra.1]
    exact Co.at k E (.int _) q) hg (by decide) (by decide) he
theorem ef_lenS (h : Ef C X a G fun v G1 => ∃ z : Str, v = .d (.str z) ∧ z.length ≤ sizeLine ∧ Q (.d (.int z.length)) G1) (hg : Gl X "len" := by rfl) (he : starEach [a] X.env = (false, eval a X.env) :: starEach [] X.env := by rfl) : Ef C X (.Call (.Name "len" p) [a] [] pos) G Q :=
  ef_cb1 call_len_str B.len boot_len' h (fun O σ H G1 v1 x Q' E r ⟨z, e1, hz, q⟩ k => by
    subst e1
    exact ⟨z, by rw [Rep.str_inv r], hz, Co.at k E (.int _) q⟩) hg (by decide) (by decide) he
theorem ef_all (h : Ef C X a G fun v G1 => ∃ bs : List Bool, v = .d (.list (bs.map .bool)) ∧ Q (.d (.bool (bs.all id))) G1) (hc : X.calm = true := by rfl) (hg : Gl X "all" := by rfl) (he : starEach [a] X.env = (false, eval a X.env) :: starEach [] X.env := by rfl) : Ef C X (.Call (.Name "all" p) [a] [] pos) G Q :=
  ef_cb1 (cr_all hc) B.all boot_all' h (fun O σ H G1 v1 x Q' E r ⟨bs, e1, q⟩ k => by
    subst e1
    obtain ⟨t, xs, rfl, ht, _, ra⟩ := Rep.lst_inv r
    rw [repAll_bls ra] at ht
    exact ⟨t, bs, rfl, .inl (.inl ht), Co.at k E (.bl _) q⟩) hg (by decide) (by decide) he
theorem ef_any (h : Ef C X a G fun v G1 => ∃ bs : List Bool, v = .d (.list (bs.map .bool)) ∧ Q (.d (.bool (bs.any id))) G1) (hc : X.calm = true := by rfl) (hg : Gl X "any" := by rfl) (he : starEach [a] X.env = (false, eval a X.env) :: starEach [] X.env := by rfl) : Ef C X (.Call (.Name "any" p) [a] [] pos) G Q :=
  ef_cb1 (cr_any hc) B.any boot_any' h (fun O σ H G1 v1 x Q' E r ⟨bs, e1, q⟩ k => by
    subst e1
    obtain ⟨t, xs, rfl, ht, _, ra⟩ := Rep.lst_inv r
    rw [repAll_bls ra] at ht
    exact ⟨t, bs, rfl, .inl (.inl ht), Co.at k E (.bl _) q⟩) hg (by decide) (by decide) he
theorem ef_sum (h : Ef C X a G fun v G1 => ∃ ns : List Int, v = .d (.list (ns.map .int)) ∧ Q (.d (.int ns.sum)) G1) (hc : X.calm = true := by rfl) (hg : Gl X "sum" := by rfl) (he : starEach [a] X.env = (false, eval a X.env) :: starEach [] X.env := by rfl) : Ef C X (.Call (.Name "sum" p) [a] [] pos) G Q :=
  ef_cb1 (cr_sum hc) B.sum boot_sum' h (fun O σ H G1 v1 x Q' E r ⟨bs, e1, q⟩ k => by
    subst e1
    obtain ⟨t, xs, rfl, ht, _, ra⟩ := Rep.lst_inv r
    rw [repAll_ints ra] at ht
    exact ⟨t, bs, rfl, .inl (.inl ht), Co.at k E (.int _) q⟩) hg (by decide) (by decide) he
theorem ef_abs (h : Ef C X a G fun v G1 => ∃ n : Int, v = .d (.int n) ∧ Q (.d (.int (if n < 0 then -n else n))) G1) (hg : Gl X "abs" := by rfl) (he : starEach [a] X.env = (false, eval a X.env) :: starEach [] X.env := by rfl) : Ef C X (.Call (.Name "abs" p) [a] [] pos) G Q :=
  ef_cb1 call_abs B.abs boot_abs' h (fun O σ H G1 v1 x Q' E r ⟨n, e1, q⟩ k => by
    subst e1
    exact ⟨n, by rw [Rep.int_inv r], Co.at k E (.int _) q⟩) hg (by decide) (by decide) he
theorem ef_sortedS (h : Ef C X a G fun v G1 => ∃ ss : List Str, v = .d (.list (ss.map .str)) ∧ ss.length < 64 ∧ ∀ ys : List Str, ys.Perm ss → sortedS ys = true → Q (.d (.list (ys.map .str))) G1) (hg : Gl X "sorted" := by rfl) (he : starEach [a] X.env = (false, eval a X.env) :: starEach [] X.env := by rfl) : Ef C X (.Call (.Name "sorted" p) [a] [] pos) G Q :=
  ef_cb1 cr_sortedS B.sorted boot_sorted' h (fun O σ H G1 v1 x Q' E r ⟨ss, e1, hl, q⟩ k => by
    subst e1
    obtain ⟨t, xs, rfl, ht, _, ra⟩ := Rep.lst_inv r
    rw [repAll_strs ra] at ht
    refine ⟨t, ss, rfl, .inl (.inl ht), hl, fun ys p h1 h2 hp => Co.newL k E hp (RepAll.map fun y _ => .str y) (q ys h1 h2)⟩) hg (by decide) (by decide) he
theorem ef_sortedT (h : Ef C X a G fun v G1 => ∃ ss : List Str, v = .d (.tuple (ss.map .str)) ∧ False) (hg : Gl X "sorted" := by rfl) (he : starEach [a] X.env = (false, eval a X.env) :: starEach [] X.env := by rfl) : Ef C X (.Call (.Name "sorted" p) [a] [] pos) G Q :=
  ef_cb1 cr_sortedS B.sorted boot_sorted' h (fun O σ H G1 v1 x Q' E r ⟨ss, e1, hl⟩ k => hl.elim) hg (by decide) (by decide) he
theorem ef_intI (h : Ef C X a G fun v G1 => ∃ n : Int, v = .d (.int n) ∧ Q (.d (.int n)) G1) (hg : Gl X "int" := by rfl) (he : starEach [a] X.env = (false, eval a X.env) :: starEach [] X.env := by rfl) : Ef C X (.Call (.Name "int" p) [a] [] pos) G Q :=
  ef_ct1 call_int1 B.int boot_int' h (fun O σ H G1 v1 x Q' E r ⟨n, e1, q⟩ k => by
    subst e1
    exact .inl ⟨n, by rw [Rep.int_inv r], Co.at k E (.int _) q⟩) hg (by decide) (by decide) he
theorem ef_intS (h : Ef C X a G fun v G1 => ∃ (z : Str) (n : Int), v = .d (.str z) ∧ PySem.intText? z = some n ∧ z.length ≤ 640 ∧ Q (.d (.int n)) G1) (hg : Gl X "int" := by rfl) (he : starEach [a] X.env = (false, eval a X.env) :: starEach [] X.env := by rfl) : Ef C X (.Call (.Name "int" p) [a] [] pos) G Q :=
  ef_ct1 call_int_str B.int boot_int' h (fun O σ H G1 v1 x Q' E r ⟨z, n, e1, e2, e3, q⟩ k => by
    subst e1
    exact ⟨z, n, by rw [Rep.str_inv r], e2, e3, Co.at k E (.int _) q⟩) hg (by decide) (by decide) he
theorem ef_strI (h : Ef C X a G fun v G1 => ∃ n : Int, v = .d (.int n) ∧ n.natAbs.log2 < 1920 ∧ Q (.d (.str (toString n))) G1) (hg : Gl X "str" := by rfl) (he : starEach [a] X.env = (false, eval a X.env) :: starEach [] X.env := by rfl) : Ef C X (.Call (.Name "str" p) [a] [] pos) G Q :=
  ef_ct1 call_str_int B.str boot_str' h (fun O σ H G1 v1 x Q' E r ⟨n, e1, e2, q⟩ k => by
    subst e1
    exact ⟨n, by rw [Rep.int_inv r], e2, Co.at k E (.str _) q⟩) hg (by decide) (by decide) he
theorem ef_tuple (h : Ef C X a G fun v G1 => ∃ ds, LsOf G1 ds v ∧ Q (.d (.tuple ds)) G1) (hg : Gl X "tuple" := by rfl) (he : starEach [a] X.env = (false, eval a X.env) :: starEach [] X.env := by rfl) : Ef C X (.Call (.Name "tuple" p) [a] [] pos) G Q :=
  ef_ct1 call_tuple_of B.tuple boot_tuple' h (fun O σ H G1 v1 x Q' E r ⟨ds, e1, q⟩ k => by
    obtain ⟨t, xs, rfl, ht, ra⟩ := e1.at E r
    exact ⟨t, xs, rfl, .inl ⟨.inl (.inl ht), fun l hl => Co.newT k E hl ra q⟩⟩) hg (by decide) (by decide) he
theorem ef_list (h : Ef C X a G fun v G1 => ∃ ds, RowOf G1 ds v ∧ Q (.d (.list ds)) G1) (hg : Gl X "list" := by rfl) (he : starEach [a] X.env = (false, eval a X.env) :: starEach [] X.env := by rfl) : Ef C X (.Call (.Name "list" p) [a] [] pos) G Q :=
  ef_ct1 call_list_of B.list boot_list' h (fun O σ H G1 v1 x Q' E r ⟨ds, e1, q⟩ k => by
    obtain ⟨t, xs, rfl, ht, ra⟩ := e1.at E r
    exact ⟨t, xs, rfl, ht, fun l hl => Co.newL k E hl ra q⟩) hg (by decide) (by decide) he
/-! isinstance -/
def tyN : PyData → String
  | .none => "NoneType"
  | .bool _ => "bool"
  | .int _ => "int"
  | .str _ => "str"
  | .list _ => "list"
  | .tuple _ => "tuple"
  | .dict _ => "dict"
/-- data of the built-in kinds -/
def isPl : PyData → Bool
  | .dict (_ :: _) => false
  | _ => true
end
theorem SqT.tyx {v : Addr} {xs : List V} (h : SqT X.K H v xs) : TyX X.K H (.ref v) (.type "tuple") := by
  rcases h with (h | ⟨o, h⟩) | h
  · exact .base (.tup h)
  · exact .fTuple h
  · obtain ⟨o, its, n, h1, h2, h3⟩ := h
    exact .kTuple h1 (by first | exact h2 | exact h3.1 | exact h2.1)
theorem Rep.tyx {O : List Addr} {v : V} {d : PyData} (h : Rep X.K C O H v d) (hp : isPl d = true) : TyX X.K H v (.type (tyN d)) := by
  cases h with
  | non => exact .base .non
  | bl b => exact .base (.bl b)
  | int i => exact .base (.int i)
  | str z => exact .base (.str z)
  | tup h hl hi => exact SqT.tyx h
  | lst h ho hl hi => exact .base (.lst h)
  | emp h => exact .base (.dK h)
  | cls => cases hp
  | scr h => cases hp
  | nig h h1 h2 h3 => cases hp
/-- isinstance of the four -/
def isInt : PyData → Bool
  | .int _ => true
  | .bool _ => true
  | _ => false
def isBool : PyData → Bool
  | .bool _ => true
  | _ => false
def isStr : PyData → Bool
  | .str _ => true
  | _ => false
def isTup : PyData → Bool
  | .tuple _ => true
  | _ => false
theorem kit_int (d : PyData) : PySem.W.kitOne X.K (.type (tyN d)) (.type "int") = some (isInt d) := by
  cases d <;> (refine kit_ty ?_; dsimp only [tyN, isInt, isBool, isStr, isTup]; decide +kernel)
theorem kit_bool (d : PyData) : PySem.W.kitOne X.K (.type (tyN d)) (.type "bool") = some (isBool d) := by
  cases d <;> (refine kit_ty ?_; dsimp only [tyN, isInt, isBool, isStr, isTup]; decide +kernel)
theorem kit_str (d : PyData) : PySem.W.kitOne X.K (.type (tyN d)) (.type "str") = some (isStr d) := by
  cases d <;> (refine kit_ty ?_; dsimp only [tyN, isInt, isBool, isStr, isTup]; decide +kernel)
theorem kit_tup (d : PyData) : PySem.W.kitOne X.K (.type (tyN d)) (.type "tuple") = some (isTup d) := by
  cases d <;> (refine kit_ty ?_; dsimp only [tyN, isInt, isBool, isStr, isTup]; decide +kernel)
theorem ef_isi {T : Str} {n : String} {f : PyData → Bool} (B : Bt X.mg) (hT : X.mg T = none) (hb : bootBuiltins T = some (.type n)) (hk : ∀ d, PySem.W.kitOne X.K (.type (tyN d)) (.type n) = some (f d)) (hgT : Gl X T) (hnT : T ≠ "__name__") (hdT : (T == ("__debug__" : Str)) = false)
    (h : Ef C X a G fun v G1 => ∃ d, v = .d d ∧ isPl d = true ∧ Q (.d (.bool (f d))) G1) (hg : Gl X "isinstance") (he : starEach [a, .Name T p] X.env = (false, eval a X.env) :: starEach [.Name T p] X.env) (he2 : starEach [.Name T p] X.env = (false, eval (.Name T p) X.env) :: starEach [] X.env)
    (hpl : (backTo pos (starEach [.Name T p] X.env)).any (·.1) = false) : Ef C X (.Call (.Name "isinstance" pos') [a, .Name T p] [] pos) G Q := by
  intro O σ H E Q' q
  refine tW_of (pe_callB call_isi hg B.isi boot_isi' (pa_cons (pe_W a) (pa_cons (pe_bltn (v := .ty n) hgT hT hb rfl hnT hdT) pa_nil he2) he) (by decide) (by decide) he hpl) ?_
  refine h O σ H E _ fun v1 vl1 G1 H1 E1 K1 R1 ⟨d, e1, hp, z⟩ => ?_
  subst e1
  exact ⟨v1, .ty n, .type (tyN d), .type n, f d, rfl, .ty n, Rep.tyx R1 hp, hk d, Co.at (Co.step q E K1) E1 (.bl _) z⟩
section
variable (B : Bt X.mg)
include B
theorem ef_isInt (h : Ef C X a G fun v G1 => ∃ d, v = .d d ∧ isPl d = true ∧ Q (.d (.bool (isInt d))) G1) (hg : Gl X "isinstance" := by rfl) (hgT : Gl X "int" := by rfl) (he : starEach [a, .Name "int" p] X.env = (false, eval a X.env) :: starEach [.Name "int" p] X.env := by rfl) : Ef C X (.Call (.Name "isinstance" pos') [a, .Name "int" p] [] pos) G Q :=
  ef_isi B B.int boot_int' kit_int hgT (by decide) (by decide) h hg he rfl rfl
theorem ef_isBool (h : Ef C X a G fun v G1 => ∃ d, v = .d d ∧ isPl d = true ∧ Q (.d (.bool (isBool d))) G1) (hg : Gl X "isinstance" := by rfl) (hgT : Gl X "bool" := by rfl) (he : starEach [a, .Name "bool" p] X.env = (false, eval a X.env) :: starEach [.Name "bool" p] X.env := by rfl) : Ef C X (.Call (.Name "isinstance" pos') [a, .Name "bool" p] [] pos) G Q :=
  ef_isi B B.bool boot_bool' kit_bool hgT (by decide) (by decide) h hg he rfl rfl
theorem ef_isStr (h : Ef C X a G fun v G1 => ∃ d, v = .d d ∧ isPl d = true ∧ Q (.d (.bool (isStr d))) G1) (hg : Gl X "isinstance" := by rfl) (hgT : Gl X "str" := by rfl) (he : starEach [a, .Name "str" p] X.env = (false, eval a X.env) :: starEach [.Name "str" p] X.env := by rfl) : Ef C X (.Call (.Name "isinstance" pos') [a, .Name "str" p] [] pos) G Q :=
  ef_isi B B.str boot_str' kit_str hgT (by decide) (by decide) h hg he rfl rfl
theorem ef_isTup (h : Ef C X a G fun v G1 => ∃ d, v = .d d ∧ isPl d = true ∧ Q (.d (.bool (isTup d))) G1) (hg : Gl X "isinstance" := by rfl) (hgT : Gl X "tuple" := by rfl) (he : starEach [a, .Name "tuple" p] X.env = (false, eval a X.env) :: starEach [.Name "tuple" p] X.env := by rfl) : Ef C X (.Call (.Name "isinstance" pos') [a, .Name "tuple" p] [] pos) G Q :=
  ef_isi B B.tuple boot_tuple' kit_tup hgT (by decide) (by decide) h hg he rfl rfl
/-- max, min of two -/
theorem ef_max2 (h : Ef C X a G fun v1 G1 => ∃ d1, v1 = .d d1 ∧ Ef C X b G1 fun v2 G2 => ∃ i j, d1 = .int i ∧ v2 = .d (.int j) ∧ Q (.d (.int (if j > i then j else i))) G2) (hc : X.calm = true := by rfl) (hg : Gl X "max" := by rfl)
    (he : starEach [a, b] X.env = (false, eval a X.env) :: starEach [b] X.env := by rfl) (he2 : starEach [b] X.env = (false, eval b X.env) :: starEach [] X.env := by rfl) (hpl : (backTo pos (starEach [b] X.env)).any (·.1) = false := by rfl) : Ef C X (.Call (.Name "max" p) [a, b] [] pos) G Q := by
  intro O σ H E Q' q
  refine tW_of (pe_callB (call_max2 hc) hg B.max boot_max' (pa_cons (pe_W a) (pa_cons (pe_W b) pa_nil he2) he) (by decide) (by decide) he hpl) ?_
  refine h O σ H E _ fun v1 vl1 G1 H1 E1 K1 R1 ⟨d, e1, h2⟩ => ?_
  subst e1
  refine h2 O σ H1 E1 _ fun v2 vl2 G2 H2 E2 K2 R2 ⟨i, j, e1, e2, z⟩ => ?_
  subst e1 e2
  exact ⟨i, j, by rw [Rep.int_inv R1, Rep.int_inv R2], Co.at (Co.step q E (K1.trans K2 E)) E2 (.int _) z⟩
theorem ef_min2 (h : Ef C X a G fun v1 G1 => ∃ d1, v1 = .d d1 ∧ Ef C X b G1 fun v2 G2 => ∃ i j, d1 = .int i ∧ v2 = .d (.int j) ∧ Q (.d (.int (if j < i then j else i))) G2) (hc : X.calm = true := by rfl) (hg : Gl X "min" := by rfl)
    (he : starEach [a, b] X.env = (false, eval a X.env) :: starEach [b] X.env := by rfl) (he2 : starEach [b] X.env = (false, eval b X.env) :: starEach [] X.env := by rfl) (hpl : (backTo pos (starEach [b] X.env)).any (·.1) = false := by rfl) : Ef C X (.Call (.Name "min" p) [a, b] [] pos) G Q := by
  intro O σ H E Q' q
  refine tW_of (pe_callB (call_min2 hc) hg B.min boot_min' (pa_cons (pe_W a) (pa_cons (pe_W b) pa_nil he2) he) (by decide) (by decide) he hpl) ?_
  refine h O σ H E _ fun v1 vl1 G1 H1 E1 K1 R1 ⟨d, e1, h2⟩ => ?_
  subst e1
  refine h2 O σ H1 E1 _ fun v2 vl2 G2 H2 E2 K2 R2 ⟨i, j, e1, e2, z⟩ => ?_
  subst e1 e2
  exact ⟨i, j, by rw [Rep.int_inv R1, Rep.int_inv R2], Co.at (Co.step q E (K1.trans K2 E)) E2 (.int _) z⟩
end

/-! ### methods of texts -/
theorem ef_m1 {id : String} {name : Str} {r : V → List V → Hp → VK → Prop} {Z : Str → Vl → Ga → Prop} (slot : Slot "str" name id) (ty : typeOf (.builtin id) = pure (.type "method_descriptor")) (rule : MtR X id r)
    (h : Ef C X a G fun v1 G1 => ∃ i : Str, v1 = .d (.str i) ∧ Ef C X b G1 fun v2 G2 => Z i v2 G2)
    (hz : ∀ (O : List Addr) (σ : L2.St) (H : Hp) (G1 : Ga) (i : Str) (v2 : Vl) (y : V) (Q' : VK), Env X.K C O H σ G1 → RepV X.K C O H σ G1 y v2 → Z i v2 G1 → Co C X σ G1 O H Q Q' → r (.str i) [y] H Q')
    (hs : starEach [b] X.env = [(false, eval b X.env)]) (hbase : attributeBase a name X.env (eval a X.env) = eval a X.env) (hline : (apos.endLine == cpos.line) = true) : Ef C X (.Call (.Attribute a name apos) [b] [] cpos) G Q := by
  intro O σ H E Q' q
  refine tW_of (pe_m1 slot ty rule (pe_W a) (pe_W b) hs hbase hline) ?_
  refine h O σ H E _ fun v1 vl1 G1 H1 E1 K1 R1 ⟨i, e1, h2⟩ => ?_
  subst e1
  obtain rfl := Rep.str_inv R1
  refine ⟨⟨i, rfl⟩, ?_⟩
  refine h2 O σ H1 E1 _ fun v2 vl2 G2 H2 E2 K2 R2 z => ?_
  exact hz O σ H2 G2 i vl2 v2 Q' E2 R2 z (Co.step q E (K1.trans K2 E))
theorem ef_split (h : Ef C X a G fun v1 G1 => ∃ i : Str, v1 = .d (.str i) ∧ Ef C X b G1 fun v2 G2 => ∃ j : Str, v2 = .d (.str j) ∧ (j.length == 0) = false ∧ i.length + 2 ≤ sizeLine ∧ Q (.d (.list ((Txt.split i j).map .str))) G2)
    (hs : starEach [b] X.env = [(false, eval b X.env)] := by rfl) (hbase : attributeBase a "split" X.env (eval a X.env) = eval a X.env := by rfl) (hline : (apos.endLine == cpos.line) = true := by rfl) :
    Ef C X (.Call (.Attribute a "split" apos) [b] [] cpos) G Q :=
  ef_m1 PySem.F.slot_str_split PySem.F.type_str_split mt_split h (fun O σ H G1 i v2 y Q' E r ⟨j, e2, hj, hi, q⟩ k => by
    subst e2
    exact ⟨i, j, rfl, by rw [Rep.str_inv r], hj, hi, fun p hp => Co.newL k E hp (RepAll.map fun y _ => .str y) q⟩) hs hbase hline
theorem ef_join (h : Ef C X a G fun v1 G1 => ∃ i : Str, v1 = .d (.str i) ∧ Ef C X b G1 fun v2 G2 => ∃ ys : List Str, StrsOf G2 ys v2 ∧ (ys.map (·.length)).sum + ys.length * i.length ≤ 16777216 ∧ Q (.d (.str (Txt.join i ys))) G2)
    (hs : starEach [b] X.env = [(false, eval b X.env)] := by rfl) (hbase : attributeBase a "join" X.env (eval a X.env) = eval a X.env := by rfl) (hline : (apos.endLine == cpos.line) = true := by rfl) :
    Ef C X (.Call (.Attribute a "join" apos) [b] [] cpos) G Q :=
  ef_m1 PySem.F.slot_str_join PySem.F.type_str_join mt_join h (fun O σ H G1 i v2 y Q' E r ⟨ys, e2, hz, q⟩ k => by
    obtain ⟨t, rfl, ht⟩ := e2.at E r
    exact ⟨i, t, ys, rfl, rfl, ht, hz, Co.at k E (.str _) q⟩) hs hbase hline
end
end DL
/-! DL4: statements, targets, loops, comprehensions. -/
namespace DL
open PySem PySem.Spec PyProof.Rows L2

section
variable {C : Addr} {X : Cx} {G G' : Ga} {T : Es} {O O' : List Addr} {σ σ' : L2.St} {H H' : Hp}
variable {x y z : Str} {pos pos' p : Pos} {a b e c tg iter : Expr} {es : List Expr} {st : Stmt} {rest body b1 b2 : List Stmt}

/-! ### slots stored -/
/-- a slot that may be stored to -/
def okSet (G : Ga) (i : Nat) : Bool := match G[i]? with
  | some (.urn _) => false
  | some _ => true
  | none => false
theorem Ow.of_set {i : Nat} {o : Option V} {s : Sl} (hs : s.held = none) {a : Addr} (h : Ow (σ.set i o) (G.set i s) a) : Ow σ G a := by
  obtain ⟨j, t, ds, h1, h2, h3⟩ := h
  by_cases e : i = j
  · subst e
    by_cases hi : i < G.length
    · rw [List.getElem?_set_self hi] at h2
      cases h2
      rw [hs] at h3
      cases h3
    · rw [List.getElem?_eq_none (by simpa using hi)] at h2
      cases h2
  · rw [List.getElem?_set_ne e] at h1 h2
    exact ⟨j, t, ds, h1, h2, h3⟩
theorem okSet_lt {i : Nat} (h : okSet G i = true) : i < G.length := by
  unfold okSet at h
  cases e : G[i]? with
  | none =>
    rw [e] at h
    cases h
  | some s => exact (List.getElem?_eq_some_iff.mp e).1
theorem okSet_urn {i : Nat} {ds : List PyData} (h : okSet G i = true) : G[i]? ≠ some (.urn ds) := fun e => by
  unfold okSet at h
  rw [e] at h
  cases h
/-- data stored -/
theorem Env.setD {i : Nat} {v : V} {d : PyData} (E : Env X.K C O H σ G) (r : Rep X.K C O H v d) : Env X.K C O H (σ.set i (some v)) (G.set i (.imm d)) := by
  refine ⟨by simp [E.len], fun j s h => ?_, fun j k s t ds es a h1 h2 h3 h4 h5 h6 => ?_, E.wo⟩
  · by_cases e : i = j
    · subst e
      by_cases hi : i < G.length
      · rw [List.getElem?_set_self hi] at h
        cases h
        exact ⟨some v, List.getElem?_set_self (by rw [E.len]; exact hi), v, rfl, r⟩
      · rw [List.getElem?_eq_none (by simpa using hi)] at h
        cases h
    · rw [List.getElem?_set_ne e] at h
      obtain ⟨o, h1, h2⟩ := E.sl j s h
      exact ⟨o, by rw [List.getElem?_set_ne e]; exact h1, h2⟩
  · have ne : ∀ {l : Nat} {u : Sl} {us : List PyData}, (G.set i (.imm d))[l]? = some u → u.held = some us → i ≠ l := fun {l u us} g1 g2 e => by
      subst e
      by_cases hi : i < G.length
      · rw [List.getElem?_set_self hi] at g1
        cases g1
        cases g2
      · rw [List.getElem?_eq_none (by simpa using hi)] at g1
        cases g1
    have n1 := ne h3 h5
    have n2 := ne h4 h6
    rw [List.getElem?_set_ne n1] at h1 h3
    rw [List.getElem?_set_ne n2] at h2 h4
    exact E.dj j k s t ds es a h1 h2 h3 h4 h5 h6
theorem Kp.setD {i : Nat} {v : V} {d : PyData} (hi : okSet G i = true) : Kp σ G O H (σ.set i (some v)) (G.set i (.imm d)) O H where
  obj := fun a o h _ => h
  stay := fun a h _ => h
  new := fun a h => .inl h
  own := fun a h => .inl (Ow.of_set rfl h)
  there := fun a h => h
  urn := fun j ds h => by
    have e : i ≠ j := fun e => okSet_urn hi (e ▸ h)
    exact ⟨List.getElem?_set_ne e, ds, by rw [List.getElem?_set_ne e]; exact h⟩
/-- a slot's list let go: it is data from now on -/
theorem Env.letGo {i : Nat} {ds : List PyData} (E : Env X.K C O H σ G) (hG : G[i]? = some (.own ds)) : ∃ a : Addr, σ[i]? = some (some (.ref a)) ∧ Env X.K C (O.filter (· ≠ a)) H σ (G.set i .un) ∧ Kp σ G O H σ (G.set i .un) (O.filter (· ≠ a)) H ∧ Rep X.K C (O.filter (· ≠ a)) H (.ref a) (.list ds) := by
  obtain ⟨o, h1, a, xs, rfl, hm, hH, hr⟩ := E.sl i _ hG
  have sub : ∀ b, b ∈ O.filter (· ≠ a) → b ∈ O := fun b h => (List.mem_filter.mp h).1
  have hi : i < G.length := (List.getElem?_eq_some_iff.mp hG).1
  have keep : ∀ {j : Nat} {s : Sl} {us : List PyData}, (G.set i .un)[j]? = some s → s.held = some us → i ≠ j := fun {j s us} g1 g2 e => by
    subst e
    rw [List.getElem?_set_self hi] at g1
    cases g1
    cases g2
  refine ⟨a, h1, ⟨by simp [E.len], fun j s h => ?_, fun j k s t ds' es b g1 g2 g3 g4 g5 g6 => ?_, fun b hb => E.wo b (sub b hb)⟩, ⟨fun b o e _ => e, fun b hb n => ?_, fun b hb => .inl (sub b hb), fun b hb => ?_, fun b h => h, fun j us h => ?_⟩, .lstAll hH (by simp) (hr.less sub)⟩
  · by_cases e : i = j
    · subst e
      rw [List.getElem?_set_self hi] at h
      cases h
      exact ⟨_, h1, trivial⟩
    · have hk := h
      rw [List.getElem?_set_ne e] at h
      obtain ⟨o, g1, g2⟩ := E.sl j s h
      refine ⟨o, g1, ?_⟩
      have ne : ∀ {b : Addr} {us : List PyData}, o = some (.ref b) → s.held = some us → b ≠ a := fun {b us} e1 e2 e3 => by
        subst e1 e3
        exact e (E.dj i j _ s ds us b h1 g1 hG h rfl e2)
      cases s with
      | un => trivial
      | imm d =>
        obtain ⟨v, q1, q2⟩ := g2
        exact ⟨v, q1, q2.less sub⟩
      | own us =>
        obtain ⟨b, ys, q1, q2, q3, q4⟩ := g2
        exact ⟨b, ys, q1, List.mem_filter.mpr ⟨q2, by simpa using ne q1 rfl⟩, q3, q4.less sub⟩
      | urn us =>
        obtain ⟨b, ys, q1, q2, q3, q4⟩ := g2
        exact ⟨b, ys, q1, List.mem_filter.mpr ⟨q2, by simpa using ne q1 rfl⟩, q3, q4.less sub⟩
  · have n1 := keep g3 g5
    have n2 := keep g4 g6
    rw [List.getElem?_set_ne n1] at g3
    rw [List.getElem?_set_ne n2] at g4
    exact E.dj j k s t ds' es b g1 g2 g3 g4 g5 g6
  · refine List.mem_filter.mpr ⟨hb, ?_⟩
    have : b ≠ a := fun e => n (by subst e; exact ⟨i, _, ds, h1, hG, rfl⟩)
    simpa using this
  · obtain ⟨j, s, us, g1, g2, g3⟩ := hb
    have n := keep g2 g3
    rw [List.getElem?_set_ne n] at g2
    exact .inl ⟨j, s, us, g1, g2, g3⟩
  · have e : i ≠ j := fun e => by
      subst e
      rw [hG] at h
      cases h
    exact ⟨rfl, us, by rw [List.getElem?_set_ne e]; exact h⟩
/-- a new list of one's own -/
theorem Env.newOwn {i : Nat} {q : Addr} {xs : List V} {ds : List PyData} (E : Env X.K C O H σ G) (hq : H q = none) (hr : RepAll X.K C O H xs ds) : Env X.K C (q :: O) (upd H q (.lst xs)) (σ.set i (some (.ref q))) (G.set i (.own ds)) := by
  have kk : Keep O H (q :: O) (upd H q (.lst xs)) := ⟨fun b o e _ => same_new hq b o e, fun b hb => by
    rcases List.mem_cons.mp hb with e | hb
    · exact .inr (by rw [e]; exact hq)
    · exact .inl hb⟩
  have fresh : ∀ {b : Addr} {o : HO}, H b = some o → b ≠ q := fun e z => by
    subst z
    rw [e] at hq
    cases hq
  refine ⟨by simp [E.len], fun j s h => ?_, fun j k s t ds' es b g1 g2 g3 g4 g5 g6 => ?_, fun b hb => ?_⟩
  · by_cases e : i = j
    · subst e
      by_cases hi : i < G.length
      · rw [List.getElem?_set_self hi] at h
        cases h
        exact ⟨_, List.getElem?_set_self (by rw [E.len]; exact hi), q, xs, rfl, List.mem_cons_self, upd_same, hr.keep kk E.wo⟩
      · rw [List.getElem?_eq_none (by simpa using hi)] at h
        cases h
    · rw [List.getElem?_set_ne e] at h
      obtain ⟨o, g1, g2⟩ := E.sl j s h
      refine ⟨o, by rw [List.getElem?_set_ne e]; exact g1, ?_⟩
      cases s with
      | un => trivial
      | imm d =>
        obtain ⟨v, q1, q2⟩ := g2
        exact ⟨v, q1, q2.keep kk E.wo⟩
      | own us =>
        obtain ⟨b, ys, q1, q2, q3, q4⟩ := g2
        exact ⟨b, ys, q1, List.mem_cons_of_mem _ q2, same_new hq _ _ q3, q4.keep kk E.wo⟩
      | urn us =>
        obtain ⟨b, ys, q1, q2, q3, q4⟩ := g2
        exact ⟨b, ys, q1, List.mem_cons_of_mem _ q2, same_new hq _ _ q3, q4.keep kk E.wo⟩
  · have old : ∀ {l : Nat} {u : Sl} {us : List PyData} {b : Addr}, i ≠ l → (σ.set i (some (.ref q)))[l]? = some (some (.ref b)) → (G.set i (.own ds))[l]? = some u → u.held = some us → b ≠ q := fun {l u us b} n k1 k2 k3 => by
      rw [List.getElem?_set_ne n] at k1 k2
      obtain ⟨w, ys, e1, _, e2, _⟩ := E.own_at k1 k2 k3
      cases e1
      exact fresh e2
    by_cases e1 : i = j
    · by_cases e2 : i = k
      · exact e1.symm.trans e2
      · subst e1
        have hi : i < σ.length := by
          by_cases hi : i < σ.length
          · exact hi
          · rw [List.getElem?_eq_none (by simpa using hi)] at g1
            cases g1
        rw [List.getElem?_set_self hi] at g1
        cases g1
        exact absurd rfl (old e2 g2 g4 g6)
    · by_cases e2 : i = k
      · subst e2
        have hi : i < σ.length := by
          by_cases hi : i < σ.length
          · exact hi
          · rw [List.getElem?_eq_none (by simpa using hi)] at g2
            cases g2
        rw [List.getElem?_set_self hi] at g2
        cases g2
        exact absurd rfl (old e1 g1 g3 g5)
      · rw [List.getElem?_set_ne e1] at g1 g3
        rw [List.getElem?_set_ne e2] at g2 g4
        exact E.dj j k s t ds' es b g1 g2 g3 g4 g5 g6
  · rcases List.mem_cons.mp hb with e | hb
    · subst e
      exact ⟨xs, upd_same⟩
    · obtain ⟨ys, e⟩ := E.wo b hb
      exact ⟨ys, same_new hq _ _ e⟩
theorem Kp.newOwn {i : Nat} {q : Addr} {xs : List V} {ds : List PyData} (hq : H q = none) (hi : okSet G i = true) : Kp σ G O H (σ.set i (some (.ref q))) (G.set i (.own ds)) (q :: O) (upd H q (.lst xs)) where
  obj := fun b o e _ => same_new hq b o e
  stay := fun b h _ => List.mem_cons_of_mem _ h
  new := fun b hb => by
    rcases List.mem_cons.mp hb with e | hb
    · exact .inr (by rw [e]; exact hq)
    · exact .inl hb
  own := fun b ⟨j, s, us, g1, g2, g3⟩ => by
    by_cases e : i = j
    · subst e
      have hi' : i < σ.length := by
        by_cases hi : i < σ.length
        · exact hi
        · rw [List.getElem?_eq_none (by simpa using hi)] at g1
          cases g1
      rw [List.getElem?_set_self hi'] at g1
      cases g1
      exact .inr hq
    · rw [List.getElem?_set_ne e] at g1 g2
      exact .inl ⟨j, s, us, g1, g2, g3⟩
  there := fun b h q' => by
    by_cases e : b = q
    · rw [e, upd_same] at q'
      cases q'
    · rw [upd_ne e] at q'
      exact h q'
  urn := fun j us h => by
    have e : i ≠ j := fun e => okSet_urn hi (e ▸ h)
    exact ⟨List.getElem?_set_ne e, us, by rw [List.getElem?_set_ne e]; exact h⟩
/-- an owned slot's list is written -/
def Sl.put (ds : List PyData) : Sl → Sl
  | .own _ => .own ds
  | .urn _ => .urn ds
  | s => s
theorem Sl.put_held {s : Sl} {ds es : List PyData} (h : s.held = some ds) : (s.put es).held = some es := by
  cases s <;> first | rfl | cases h
theorem Env.wr {i : Nat} {w : Addr} {xs : List V} {s : Sl} {ds es : List PyData} (E : Env X.K C O H σ G) (h1 : σ[i]? = some (some (.ref w))) (hG : G[i]? = some s) (hs : s.held = some ds) (hr : RepAll X.K C O H xs es) :
    Env X.K C O (upd H w (.lst xs)) σ (G.set i (s.put es)) ∧ Kp σ G O H σ (G.set i (s.put es)) O (upd H w (.lst xs)) := by
  obtain ⟨w', zs, e1, hm, hH, _⟩ := E.own_at h1 hG hs
  cases e1
  have kk : Keep O H O (upd H w (.lst xs)) := ⟨fun b o e n => by rw [upd_ne (fun z => n (by rw [z]; exact hm))]; exact e, fun b h => .inl h⟩
  have hi : i < G.length := (List.getElem?_eq_some_iff.mp hG).1
  refine ⟨⟨by simp [E.len], fun j t h => ?_, fun j k t u us vs b g1 g2 g3 g4 g5 g6 => ?_, fun b hb => ?_⟩, ⟨fun b o e n => ?_, fun b h _ => h, fun b h => .inl h, fun b ⟨j, t, us, g1, g2, g3⟩ => .inl ?_, fun b h q => ?_, fun j us h => ⟨rfl, ?_⟩⟩⟩
  · by_cases e : i = j
    · subst e
      rw [List.getElem?_set_self hi] at h
      cases h
      refine ⟨_, h1, ?_⟩
      cases s with
      | un => cases hs
      | imm d => cases hs
      | own ws => exact ⟨w, xs, rfl, hm, upd_same, hr.keep kk E.wo⟩
      | urn ws => exact ⟨w, xs, rfl, hm, upd_same, hr.keep kk E.wo⟩
    · rw [List.getElem?_set_ne e] at h
      obtain ⟨o, g1, g2⟩ := E.sl j t h
      refine ⟨o, g1, ?_⟩
      have ne : ∀ {b : Addr} {us : List PyData}, o = some (.ref b) → t.held = some us → b ≠ w := fun {b us} e1 e2 e3 => by
        subst e1 e3
        exact e (E.dj i j _ t ds us b h1 g1 hG h hs e2)
      cases t with
      | un => trivial
      | imm d =>
        obtain ⟨v, q1, q2⟩ := g2
        exact ⟨v, q1, q2.keep kk E.wo⟩
      | own us =>
        obtain ⟨b, ys, q1, q2, q3, q4⟩ := g2
        exact ⟨b, ys, q1, q2, by rw [upd_ne (ne q1 rfl)]; exact q3, q4.keep kk E.wo⟩
      | urn us =>
        obtain ⟨b, ys, q1, q2, q3, q4⟩ := g2
        exact ⟨b, ys, q1, q2, by rw [upd_ne (ne q1 rfl)]; exact q3, q4.keep kk E.wo⟩
  · have old : ∀ {l : Nat} {t : Sl} {us : List PyData}, (G.set i (s.put es))[l]? = some t → t.held = some us → ∃ t' us', G[l]? = some t' ∧ t'.held = some us' := fun {l t us} k1 k2 => by
      by_cases e : i = l
      · subst e
        exact ⟨s, ds, hG, hs⟩
      · rw [List.getElem?_set_ne e] at k1
        exact ⟨t, us, k1, k2⟩
    obtain ⟨t', us', a1, a2⟩ := old g3 g5
    obtain ⟨u', vs', b1, b2⟩ := old g4 g6
    exact E.dj j k t' u' us' vs' b g1 g2 a1 b1 a2 b2
  · by_cases e : b = w
    · subst e
      exact ⟨xs, upd_same⟩
    · obtain ⟨ys, e'⟩ := E.wo b hb
      exact ⟨ys, by rw [upd_ne e]; exact e'⟩
  · rw [upd_ne (fun z => n (by rw [z]; exact ⟨i, s, ds, h1, hG, hs⟩))]
    exact e
  · by_cases e : i = j
    · subst e
      exact ⟨i, s, ds, g1, hG, hs⟩
    · rw [List.getElem?_set_ne e] at g2
      exact ⟨j, t, us, g1, g2, g3⟩
  · by_cases e : b = w
    · rw [e, upd_same] at q
      cases q
    · rw [upd_ne e] at q
      exact h q
  · by_cases e : i = j
    · subst e
      rw [hG] at h
      cases h
      exact ⟨es, List.getElem?_set_self hi⟩
    · exact ⟨us, by rw [List.getElem?_set_ne e]; exact h⟩

/-! ### blocks -/
theorem ss_nil (q : T.N G) : SS C X [] G T := fun O σ H E D hN hR hB hJ => tSs_of pss_nil (hN O σ G H E (Kp.refl _ _ _ _) q)
/-- a statement ahead of the rest -/
theorem ss_cons {t : TS} (hp : PS X st t) (h : ∀ (O : List Addr) (σ : L2.St) (H : Hp), Env X.K C O H σ G → ∀ D : Ends, (∀ O' σ' G' H', Env X.K C O' H' σ' G' → Kp σ G O H σ' G' O' H' → SS C X rest G' T → D.nx σ' H') →
      (∀ O' σ' v d G' H', Env X.K C O' H' σ' G' → Kp σ G O H σ' G' O' H' → Rep X.K C O' H' v d → T.R d G' → D.rt v H') →
      (∀ O' σ' G' H', Env X.K C O' H' σ' G' → Kp σ G O H σ' G' O' H' → T.B G' → D.bk σ' H') → (∀ O' σ' G' H', Env X.K C O' H' σ' G' → Kp σ G O H σ' G' O' H' → T.J G' → D.ct σ' H') → t D σ H) : SS C X (st :: rest) G T := by
  intro O σ H E D hN hR hB hJ
  refine tSs_of (pss_cons hp (pss_W rest)) ?_
  refine h O σ H E _ (fun O1 σ1 G1 H1 E1 K1 h1 => ?_) hR hB hJ
  exact h1 O1 σ1 H1 E1 D (fun O' σ' G' H' E' K' q => hN O' σ' G' H' E' (K1.trans K' E) q) (fun O' σ' v d G' H' E' K' r q => hR O' σ' v d G' H' E' (K1.trans K' E) r q)
    (fun O' σ' G' H' E' K' q => hB O' σ' G' H' E' (K1.trans K' E) q) (fun O' σ' G' H' E' K' q => hJ O' σ' G' H' E' (K1.trans K' E) q)
theorem ss_expr (h : Ef C X e G fun _ G1 => SS C X rest G1 T) (hs : swapsWith e none pos.line X.env = pure false := by rfl) : SS C X (.Expr e pos :: rest) G T :=
  ss_cons (ps_expr (pe_W e) hs) fun O σ H E D hN hR hB hJ => h O σ H E _ fun v vl G1 H1 E1 K1 _ q => hN O σ G1 H1 E1 K1 q
theorem ss_ret (h : Ef C X e G fun v G1 => (∃ d, v = .d d ∧ T.R d G1) ∨ ∃ i ds, v = .o i ∧ G1[i]? = some (.own ds) ∧ T.R (.list ds) (G1.set i .un)) : SS C X (.Return (some e) pos :: rest) G T :=
  ss_cons (ps_ret (pe_W e)) fun O σ H E D hN hR hB hJ => h O σ H E _ fun v vl G1 H1 E1 K1 R1 q => by
    rcases q with ⟨d, e1, q⟩ | ⟨i, ds, e1, g, q⟩
    · subst e1
      exact hR O σ v d G1 H1 E1 K1 R1 q
    · subst e1
      obtain ⟨a, h1, E2, K2, r2⟩ := E1.letGo g
      have e2 : v = .ref a := by
        have := R1.1
        rw [h1] at this
        cases this
        rfl
      subst e2
      exact hR _ σ _ _ _ H1 E2 (K1.trans K2 E) r2 q
theorem ss_retD (h : Ef C X e G fun v G1 => ∃ d, v = .d d ∧ T.R d G1) : SS C X (.Return (some e) pos :: rest) G T := ss_ret (h.mono fun _ _ z => .inl z)
theorem ss_if (h : Et C X c G fun k G1 => (k = true → SS C X b1 G1 { T with N := fun G' => SS C X rest G' T }) ∧ (k = false → SS C X b2 G1 { T with N := fun G' => SS C X rest G' T })) : SS C X (.If c b1 b2 pos :: rest) G T :=
  ss_cons (ps_if (pt_W c) (pss_W b1) (pss_W b2)) fun O σ H E D hN hR hB hJ => h O σ H E _ fun k G1 H1 E1 K1 ⟨h1, h0⟩ => by
    have go : ∀ {bb : List Stmt}, SS C X bb G1 { T with N := fun G' => SS C X rest G' T } → tSs X bb D σ H1 := fun {bb} hb =>
      hb O σ H1 E1 D (fun O' σ' G' H' E' K' q => hN O' σ' G' H' E' (K1.trans K' E) q) (fun O' σ' v d G' H' E' K' r q => hR O' σ' v d G' H' E' (K1.trans K' E) r q)
        (fun O' σ' G' H' E' K' q => hB O' σ' G' H' E' (K1.trans K' E) q) (fun O' σ' G' H' E' K' q => hJ O' σ' G' H' E' (K1.trans K' E) q)
    cases k with
    | true => exact iteT (go (h1 rfl))
    | false => exact iteF (go (h0 rfl))
theorem ss_brk (q : T.B G) : SS C X (.Break pos :: rest) G T := ss_cons ps_break fun O σ H E D hN hR hB hJ => hB O σ G H E (Kp.refl _ _ _ _) q
theorem ss_cont (q : T.J G) : SS C X (.Continue pos :: rest) G T := ss_cons ps_continue fun O σ H E D hN hR hB hJ => hJ O σ G H E (Kp.refl _ _ _ _) q
theorem ss_pass (q : SS C X rest G T) : SS C X (.Pass pos :: rest) G T := ss_cons ps_pass fun O σ H E D hN hR hB hJ => hN O σ G H E (Kp.refl _ _ _ _) q
/-- x = e: data, or another slot's list moved -/
theorem ss_set (i : Nat) (h : Ef C X e G fun v G1 => ∃ d, v = .d d ∧ okSet G1 i = true ∧ SS C X rest (G1.set i (.imm d)) T) (hi : X.N[i]? = some x := by rfl) (hN' : X.N.Nodup) (hx : Loc X.env.scope x := by first | exact Or.inl rfl | exact Or.inr rfl)
    (hs : swapsWith e (some (.Name x pos')) pos.line X.env = pure false := by rfl) (hf : X.fn x = true ∨ X.env.scope.names.lookup x = some .local := by first | exact .inl rfl | exact .inr rfl) : SS C X (.Assign [.Name x pos'] e pos :: rest) G T :=
  ss_cons (ps_set hN' hi hx (pe_W e) hs hf) fun O σ H E D hN hR hB hJ => h O σ H E _ fun v vl G1 H1 E1 K1 R1 ⟨d, e1, ok, q⟩ => by
    subst e1
    exact hN O _ _ H1 (E1.setD R1) (K1.trans (Kp.setD ok) E) q
theorem ss_mv (i j : Nat) {ds : List PyData} (h : Ef C X e G fun v G1 => v = .o j ∧ G1[j]? = some (.own ds) ∧ okSet (G1.set j .un) i = true ∧ SS C X rest ((G1.set j .un).set i (.imm (.list ds))) T) (hi : X.N[i]? = some x := by rfl) (hN' : X.N.Nodup) (hx : Loc X.env.scope x := by first | exact Or.inl rfl | exact Or.inr rfl)
    (hs : swapsWith e (some (.Name x pos')) pos.line X.env = pure false := by rfl) (hf : X.fn x = true ∨ X.env.scope.names.lookup x = some .local := by first | exact .inl rfl | exact .inr rfl) : SS C X (.Assign [.Name x pos'] e pos :: rest) G T :=
  ss_cons (ps_set hN' hi hx (pe_W e) hs hf) fun O σ H E D hN hR hB hJ => h O σ H E _ fun v vl G1 H1 E1 K1 R1 ⟨e1, g, ok, q⟩ => by
    subst e1
    obtain ⟨a, h1, E2, K2, r2⟩ := E1.letGo g
    have e2 : v = .ref a := by
      have := R1.1
      rw [h1] at this
      cases this
      rfl
    subst e2
    exact hN _ _ _ H1 (E2.setD r2) ((K1.trans K2 E).trans (Kp.setD ok) E) q
/-- x = [..]: a list of one's own -/
theorem ss_own (i : Nat) {k : List Expr} (h : Ea C X k G fun vls G1 => ∃ ds, vls = ds.map Vl.d ∧ ds.length ≤ sizeLine ∧ okSet G1 i = true ∧ SS C X rest (G1.set i (.own ds)) T) (hi : X.N[i]? = some x := by rfl) (hN' : X.N.Nodup) (hx : Loc X.env.scope x := by first | exact Or.inl rfl | exact Or.inr rfl)
    (hs : swapsWith (.List k p) (some (.Name x pos')) pos.line X.env = pure false := by rfl) (hf : X.fn x = true ∨ X.env.scope.names.lookup x = some .local := by first | exact .inl rfl | exact .inr rfl) : SS C X (.Assign [.Name x pos'] (.List k p) pos :: rest) G T :=
  ss_cons (ps_set hN' hi hx (pe_lst (pa_W k)) hs hf) fun O σ H E D hN hR hB hJ => h O σ H E _ fun vs vls G1 H1 E1 K1 hl R1 ⟨ds, e1, hz, ok, q⟩ => by
    subst e1
    have ra := repAll_of hl R1
    exact ⟨by rw [ra.1]; exact hz, fun p hp => hN _ _ _ _ (E1.newOwn hp ra) (K1.trans (Kp.newOwn hp ok) E) q⟩

/-! ### targets -/
def tG (X : Cx) (tg : Expr) : TG := fun v σ H Q => ∀ pins s u, Inv X pins σ H s → RelV v u → wpAny (model X.prog X.w) X.A (assign tg X.env u) (fun _ s' => ∃ σ' H', Inv X pins σ' H' s' ∧ Q σ' H') X.xe s
theorem pg_W (tg : Expr) : PG X tg (tG X tg) := ⟨fun pins s σ H v u Q I r h => h pins s u I r⟩
theorem tG_of {tg : Expr} {g : TG} (h : PG X tg g) {v : V} {σ : L2.St} {H : Hp} {Q : L2.St → Hp → Prop} (q : g v σ H Q) : tG X tg v σ H Q := fun pins s u I r => h.run pins s σ H v u Q I r q
/-- d is stored to a target -/
def Sg (C : Addr) (X : Cx) (tg : Expr) (d : PyData) (G : Ga) (ts : List Nat) (Q : Ga → Prop) : Prop := ∀ (O : List Addr) (σ : L2.St) (H : Hp) (v : V), Env X.K C O H σ G → Rep X.K C O H v d → ∀ Q' : L2.St → Hp → Prop,
  (∀ σ' G', (σ'.length = σ.length ∧ ∀ j : Nat, j ∉ ts → σ'[j]? = σ[j]?) → Env X.K C O H σ' G' → Kp σ G O H σ' G' O H → Q G' → Q' σ' H) → tG X tg v σ H Q'
theorem sg_n (i : Nat) {d : PyData} {Q : Ga → Prop} (ok : okSet G i = true) (q : Q (G.set i (.imm d))) (hN : X.N.Nodup) (hi : X.N[i]? = some x := by rfl) (hx : Loc X.env.scope x := by first | exact Or.inl rfl | exact Or.inr rfl)
    (hf : X.fn x = true ∨ X.env.scope.names.lookup x = some .local := by first | exact .inl rfl | exact .inr rfl) : Sg C X (.Name x pos) d G [i] Q := fun O σ H v E r Q' k => tG_of (pg_name hN hi hx hf) (k _ _ ⟨by simp, fun j hj => List.getElem?_set_ne (fun e => hj (by simp [e]))⟩ (E.setD r) (Kp.setD ok) q)
end
end DL
/-! DL5: targets in a row, loops, comprehensions, own defs. -/
namespace DL
open PySem PySem.Spec PyProof.Rows L2

section
variable {C : Addr} {X : Cx} {G G' : Ga} {T : Es} {O O' : List Addr} {σ σ' : L2.St} {H H' : Hp}
variable {x y z : Str} {pos pos' p pt pa pb pc : Pos} {a b e c tg iter elt : Expr} {es : List Expr} {st : Stmt} {rest body b1 b2 : List Stmt}

/-! ### targets in a row -/
def tGs (X : Cx) (es : List Expr) : TGs := fun vs σ H Q => ∀ pins s us, Inv X pins σ H s → Vals vs us → wpAny (model X.prog X.w) X.A (assignInOrder ((assignEach es X.env).map (·.2)) us) (fun _ s' => ∃ σ' H', Inv X pins σ' H' s' ∧ Q σ' H') X.xe s
theorem pgs_W (es : List Expr) : PGs X es (tGs X es) := ⟨fun pins s σ H vs us Q I r h => h pins s us I r⟩
theorem tGs_of {g : TGs} (h : PGs X es g) {vs : List V} {σ : L2.St} {H : Hp} {Q : L2.St → Hp → Prop} (q : g vs σ H Q) : tGs X es vs σ H Q := fun pins s us I r => h.run pins s σ H vs us Q I r q
def Sr (C : Addr) (X : Cx) (es : List Expr) (ds : List PyData) (G : Ga) (ts : List Nat) (Q : Ga → Prop) : Prop := ∀ (O : List Addr) (σ : L2.St) (H : Hp) (vs : List V), Env X.K C O H σ G → RepAll X.K C O H vs ds → ∀ Q' : L2.St → Hp → Prop,
  (∀ σ' G', (σ'.length = σ.length ∧ ∀ j : Nat, j ∉ ts → σ'[j]? = σ[j]?) → Env X.K C O H σ' G' → Kp σ G O H σ' G' O H → Q G' → Q' σ' H) → tGs X es vs σ H Q'
theorem sr_nil {Q : Ga → Prop} (q : Q G) : Sr C X [] [] G [] Q := fun O σ H vs E r Q' k => tGs_of pgs_nil ⟨r.nil_inv, k σ G ⟨rfl, fun _ _ => rfl⟩ E (Kp.refl _ _ _ _) q⟩
theorem sr_cons {d : PyData} {ds : List PyData} {t1 t2 : List Nat} {Q : Ga → Prop} (h : Sg C X e d G t1 fun G1 => Sr C X es ds G1 t2 Q) (hs : (assignEach (e :: es) X.env).map (·.2) = assign e X.env :: (assignEach es X.env).map (·.2) := by rfl) : Sr C X (e :: es) (d :: ds) G (t1 ++ t2) Q := by
  intro O σ H vs E r Q' k
  obtain ⟨v, ws, rfl, r1, rt⟩ := r.cons_inv
  refine tGs_of (pgs_cons (pg_W e) (pgs_W es) hs) ⟨v, ws, rfl, ?_⟩
  exact h O σ H v E r1 _ fun σ1 G1 f1 E1 K1 h2 => h2 O σ1 H ws E1 rt Q' fun σ2 G2 f2 E2 K2 q => k σ2 G2 ⟨f2.1.trans f1.1, fun j hj => (f2.2 j fun z => hj (List.mem_append_right _ z)).trans (f1.2 j fun z => hj (List.mem_append_left _ z))⟩ E2 (K1.trans K2 E) q
/-- a tuple taken apart -/
theorem sg_t {k : Nat} {ds : List PyData} {ts : List Nat} {Q : Ga → Prop} (h : Sr C X es ds G ts Q) (hn : (assignEach es X.env).length = ds.length := by rfl) (hst : (assignEach es X.env).findIdx? (·.1) = none := by rfl) (hc : X.calm = true := by rfl) : Sg C X (.Tuple es k pos) (.tuple ds) G ts Q := by
  intro O σ H v E r Q' q
  obtain ⟨t, xs, rfl, ht, ra⟩ := Rep.tup_inv r
  exact tG_of (pg_tup (n := ds.length) hc (pgs_W es) hn hst) ⟨t, xs, rfl, ht, ra.1, h O σ H xs E ra Q' q⟩
/-- target = e -/
theorem ss_asg {ts : List Nat} (h : Ef C X e G fun v G1 => ∃ d, v = .d d ∧ Sg C X tg d G1 ts fun G2 => SS C X rest G2 T) (hs : swapsWithSole [tg] e pos.line X.env = pure false := by rfl) (hw : swappedStores [tg] e X.env = pure none := by rfl)
    (h1 : (assignEach [tg] X.env).map (·.2) = [assign tg X.env] := by rfl) : SS C X (.Assign [tg] e pos :: rest) G T :=
  ss_cons (ps_asg (pe_W e) (pg_W tg) hs hw h1) fun O σ H E D hN hR hB hJ => h O σ H E _ fun v vl G1 H1 E1 K1 R1 ⟨d, e1, q⟩ => by
    subst e1
    exact q O σ H1 v E1 R1 _ fun σ2 G2 _ E2 K2 q2 => hN O σ2 G2 H1 E2 (K1.trans K2 E) q2
/-- a, b = e1, e2, both plain locals -/
theorem ss_par2 (i j : Nat) {kt k2 : Nat} {px py pt2 : Pos} (h : Ea C X [a, b] G fun vls G1 => ∃ d1 d2, vls = [.d d1, .d d2] ∧ okSet G1 i = true ∧ okSet G1 j = true ∧ SS C X rest ((G1.set i (.imm d1)).set j (.imm d2)) T) (hN' : X.N.Nodup) (hij : i ≠ j := by decide) (hi : X.N[i]? = some x := by rfl) (hj : X.N[j]? = some y := by rfl)
    (hx : X.env.scope.names.lookup x = some .local := by rfl) (hy : X.env.scope.names.lookup y = some .local := by rfl) (hw : swappedStores [.Tuple [.Name x px, .Name y py] kt pt] (.Tuple [a, b] k2 pt2) X.env = pure (some [x, y]) := by rfl)
    (hs : swapsWithSole [.Tuple [.Name x px, .Name y py] kt pt] (.Tuple [a, b] k2 pt2) pos.line X.env = pure false := by rfl) (hc : X.calm = true := by rfl) : SS C X (.Assign [.Tuple [.Name x px, .Name y py] kt pt] (.Tuple [a, b] k2 pt2) pos :: rest) G T :=
  ss_cons (ps_par hc hN' hi hj hij hx hy (pa_W [a, b]) hw hs) fun O σ H E D hN hR hB hJ => h O σ H E _ fun vs vls G1 H1 E1 K1 hl R1 ⟨d1, d2, e1, o1, o2, q⟩ => by
    subst e1
    match vs, hl with
    | [v, w], _ =>
      have r1 : Rep X.K C O H1 v d1 := R1 0 v (.d d1) rfl rfl
      have r2 : Rep X.K C O H1 w d2 := R1 1 w (.d d2) rfl rfl
      refine ⟨v, w, rfl, hN O _ _ H1 ((E1.setD (i := i) r1).setD (i := j) r2) ((K1.trans (Kp.setD o1) E).trans (Kp.setD ?_) E) q⟩
      unfold okSet at o2 ⊢
      rw [List.getElem?_set_ne hij]
      exact o2
/-- an owned list's item stored -/
theorem ss_item (i : Nat) {o ix : Expr} (h : Ef C X e G fun v G1 => ∃ d, v = .d d ∧ Ef C X o G1 fun v2 G2 => v2 = .o i ∧ Ef C X ix G2 fun v3 G3 => ∃ (s : Sl) (ds : List PyData) (j : Nat), v3 = .d (.int (j : Int)) ∧ G3[i]? = some s ∧ s.held = some ds ∧ j < ds.length ∧ SS C X rest (G3.set i (s.put (ds.set j d))) T)
    (hs : swapsWithSole [.Subscript o ix p] e pos.line X.env = pure false := by rfl) (hw : swappedStores [.Subscript o ix p] e X.env = pure none := by rfl)
    (h1 : (assignEach [.Subscript o ix p] X.env).map (·.2) = [assign (.Subscript o ix p) X.env] := by rfl)
    (ha : ∀ v, assign (.Subscript o ix p) X.env v = (do
      let ov ← holding [v] (eval o X.env)
      let iv ← holding [v, ov] (eval ix X.env)
      standAt p
      holding [v, ov, iv] (setItem ov iv v)
      release [v, ov, iv] []) := by intro _; rfl) : SS C X (.Assign [.Subscript o ix p] e pos :: rest) G T :=
  ss_cons (ps_asg (pe_W e) (pg_sub (pe_W o) (pe_W ix) set_list ha) hs hw h1) fun O σ H E D hN hR hB hJ => h O σ H E _ fun v vl G1 H1 E1 K1 R1 ⟨d, e1, h2⟩ => by
    subst e1
    refine h2 O σ H1 E1 _ fun v2 vl2 G2 H2 E2 K2 R2 ⟨e2, h3⟩ => ?_
    subst e2
    refine h3 O σ H2 E2 _ fun v3 vl3 G3 H3 E3 K3 R3 ⟨s, ds, j, e3, g1, g2, hj, q⟩ => ?_
    subst e3
    obtain ⟨w, xs, rfl, _, hw', ra⟩ := E3.own_at R2.1 g1 g2
    have rd : Rep X.K C O H3 v d := Rep.keep (K3.keep E2) E2.wo (Rep.keep (K2.keep E1) E1.wo R1)
    have hjx : j < xs.length := by rw [ra.1]; exact hj
    have ra2 : RepAll X.K C O H3 (xs.set j v) (ds.set j d) := by
      refine ⟨by simp [ra.1], fun k y f e1 e2 => ?_⟩
      by_cases ek : j = k
      · subst ek
        rw [List.getElem?_set_self hjx] at e1
        rw [List.getElem?_set_self hj] at e2
        cases e1
        cases e2
        exact rd
      · rw [List.getElem?_set_ne ek] at e1 e2
        exact ra.2 k y f e1 e2
    obtain ⟨E4, K4⟩ := E3.wr (xs := xs.set j v) R2.1 g1 g2 ra2
    refine ⟨w, xs, (j : Int), j, rfl, Rep.int_inv R3, hw', ?_, hN O σ _ _ E4 ((K1.trans (K2.trans (K3.trans K4 E2) E1) E)) q⟩
    unfold ixN
    rw [if_pos (by omega), if_pos (by omega)]
    simp

/-! ### what is walked -/
structure DWk (K : PySem.W.Frag) (C : Addr) (O : List Addr) (J : It) (H0 : Hp) (ds : List PyData) : Prop where
  ex : ∃ (Gd : Hp → Prop) (Y : Nat → Hp → V → Hp → Prop), Walk J ds.length Gd Y ∧ (∀ O' H, Keep O H0 O' H → Gd H) ∧
    ∀ i H v H' O', i < ds.length → Keep O H0 O' H → Own O' H → Y i H v H' → (∀ a o, H a = some o → H' a = some o) ∧ ∃ d, ds[i]? = some d ∧ Rep K C O' H' v d
def tI (X : Cx) (tg iter : Expr) : TI := fun σ H R => ∀ pins s, Inv X pins σ H s → wpAny (model X.prog X.w) X.A (eval iter X.env) (fun v s1 => wpAny (model X.prog X.w) X.A (pyIter v) (PIE X pins σ tg R) X.xe s1) X.xe s
theorem pi_W (tg iter : Expr) : PI X tg iter (tI X tg iter) := ⟨fun pins s _ _ _ I h => h pins s I⟩
theorem tI_of {wi : TI} (h : PI X tg iter wi) {σ : L2.St} {H : Hp} {R : It → Hp → Prop} (q : wi σ H R) : tI X tg iter σ H R := fun pins s I => h.run pins s σ H R I q
def Ei (C : Addr) (X : Cx) (tg iter : Expr) (G : Ga) (Q : List PyData → Ga → Prop) : Prop := ∀ (O : List Addr) (σ : L2.St) (H : Hp), Env X.K C O H σ G → ∀ R : It → Hp → Prop,
  (∀ J ds G1 H1, Env X.K C O H1 σ G1 → Kp σ G O H σ G1 O H1 → DWk X.K C O J H1 ds → Q ds G1 → R J H1) → tI X tg iter σ H R
theorem dwk_list {a : Addr} {xs : List V} {ds : List PyData} (w : Own O H) (h : H a = some (.lst xs)) (ho : a ∉ O) (r : RepAll X.K C O H xs ds) : DWk X.K C O (Itl X.K a) H ds := by
  refine ⟨fun H => SqL X.K H a xs, YAt xs, by rw [← r.1]; exact walk_list, fun O' H' k => .inl (.inl (k.obj _ _ h ho)), fun i H' v H2 O' hi k w' y => ?_⟩
  obtain ⟨rfl, e⟩ := y
  obtain ⟨d, hd, rd⟩ := r.getV e
  exact ⟨fun _ _ z => z, d, hd, rd.keep k w⟩
theorem dwk_tup {a : Addr} {xs : List V} {ds : List PyData} (w : Own O H) (h : SqT X.K H a xs) (r : RepAll X.K C O H xs ds) : DWk X.K C O (Itt X.K a) H ds := by
  refine ⟨fun H => SqT X.K H a xs, YAt xs, by rw [← r.1]; exact walk_tup, fun O' H' k => k.sqT w h, fun i H' v H2 O' hi k w' y => ?_⟩
  obtain ⟨rfl, e⟩ := y
  obtain ⟨d, hd, rd⟩ := r.getV e
  exact ⟨fun _ _ z => z, d, hd, rd.keep k w⟩
theorem ei_l {Q : List PyData → Ga → Prop} (h : Ef C X iter G fun v G1 => ∃ ds, v = .d (.list ds) ∧ Q ds G1) : Ei C X tg iter G Q := fun O σ H E R q => tI_of (pi_list (pe_W iter)) (h O σ H E _ fun v vl G1 H1 E1 K1 R1 ⟨ds, e1, z⟩ => by
  subst e1
  obtain ⟨t, xs, rfl, ht, ho, ra⟩ := Rep.lst_inv R1
  exact ⟨t, rfl, ⟨xs, .inl (.inl ht)⟩, q _ ds G1 H1 E1 K1 (dwk_list E1.wo ht ho ra) z⟩)
theorem ei_t {Q : List PyData → Ga → Prop} (h : Ef C X iter G fun v G1 => ∃ ds, v = .d (.tuple ds) ∧ Q ds G1) : Ei C X tg iter G Q := fun O σ H E R q => tI_of (pi_tup (pe_W iter)) (h O σ H E _ fun v vl G1 H1 E1 K1 R1 ⟨ds, e1, z⟩ => by
  subst e1
  obtain ⟨t, xs, rfl, ht, ra⟩ := Rep.tup_inv R1
  exact ⟨t, rfl, ⟨xs, ht⟩, q _ ds G1 H1 E1 K1 (dwk_tup E1.wo ht ra) z⟩)
/-- 0, 1, .. as data -/
def rngD (n : Nat) : List PyData := (List.range n).map fun (i : Nat) => PyData.int (i : Int)
theorem rngD_len (n : Nat) : (rngD n).length = n := by simp [rngD]
theorem rngD_get {n i : Nat} {d : PyData} (h : (rngD n)[i]? = some d) : i < n ∧ d = .int (i : Int) := by
  have hi : i < n := by
    have := (List.getElem?_eq_some_iff.mp h).1
    rw [rngD_len] at this
    exact this
  unfold rngD at h
  rw [List.getElem?_map, List.getElem?_range hi] at h
  cases h
  exact ⟨hi, rfl⟩
theorem ei_r (B : Bt X.mg) {Q : List PyData → Ga → Prop} (h : Ef C X a G fun v G1 => ∃ n : Int, v = .d (.int n) ∧ n ≤ 100000 ∧ -100000 ≤ n ∧ Q (rngD n.toNat) G1) (hg : Gl X "range" := by rfl) (hs : starEach [a] X.env = [(false, eval a X.env)] := by rfl) : Ei C X tg (.Call (.Name "range" p) [a] [] pos) G Q :=
  fun O σ H E R q => tI_of (pi_range1 hg B.range (pa_cons (pe_W a) pa_nil hs) hs) (h O σ H E _ fun v vl G1 H1 E1 K1 R1 ⟨n, e1, h1, h2, z⟩ => by
    subst e1
    refine ⟨n, by rw [Rep.int_inv R1], by omega, by omega, q _ _ G1 H1 E1 K1 ⟨_, _, by rw [rngD_len]; exact walk_range, fun _ _ _ => trivial, fun i H' v H2 O' hi k w y => ?_⟩ z⟩
    obtain ⟨rfl, e⟩ := y
    rw [rngD_len] at hi
    refine ⟨fun _ _ z => z, .int (i : Int), ?_, ?_⟩
    · unfold rngD
      rw [List.getElem?_map, List.getElem?_range hi]
      rfl
    · have e2 : v = .int (0 + (i : Int)) := e
      rw [e2, Int.zero_add]
      exact .int _)

/-! ### for -/
theorem ss_for {ts : List Nat} (h : Ei C X tg iter G fun ds G1 => ∃ P : Nat → Ga → Prop, P 0 G1 ∧
      (∀ i d G', ds[i]? = some d → P i G' → Sg C X tg d G' ts fun G2 => SS C X body G2 { N := P (i + 1), R := T.R, B := fun G3 => SS C X rest G3 T, J := P (i + 1) }) ∧ ∀ G', P ds.length G' → SS C X rest G' T)
    (hp : PassesOwn (model X.prog X.w) X.A X.env X.xe := by exact PassesOwn.never) (hc : X.calm = true := by rfl) (hs : ∀ x, foldedSetIterable iter X.env x = pure x := by intro _; rfl) : SS C X (.For tg iter body [] pos :: rest) G T :=
  ss_cons (ps_for hp hc (pi_W tg iter) (pg_W tg) (pss_W body) hs) fun O σ H E D hN hR hB hJ => h O σ H E _ fun J ds G1 H1 E1 K1 ⟨Gd, Y, W, hG, hY⟩ ⟨P, p0, ps, pd⟩ => by
    refine for_it W (fun i σ' H' => ∃ O' G', Env X.K C O' H' σ' G' ∧ Kp σ G1 O H1 σ' G' O' H' ∧ P i G') ⟨O, G1, E1, Kp.refl _ _ _ _, p0⟩ (fun i σ' H' _ ⟨O', G', E', K', _⟩ => hG O' H' (K'.keep E1)) (fun i v σ' H' H2 hi ⟨O', G', E', K', q⟩ y => ?_) fun σ' H' ⟨O', G', E', K', q⟩ => hN O' σ' G' H' E' (K1.trans K' E) (pd G' q)
    obtain ⟨k2, d, hd, rd⟩ := hY i H' v H2 O' hi (K'.keep E1) E'.wo y
    have E2 := E'.ext k2
    have K2 : Kp σ G O H σ' G' O' H2 := (K1.trans K' E).trans (Kp.ext k2) E
    have K2' : Kp σ G1 O H1 σ' G' O' H2 := K'.trans (Kp.ext k2) E1
    refine ps i d G' hd q O' σ' H2 v E2 rd _ fun σ3 G3 _ E3 K3 hb => ?_
    have nx : ∀ (O4 : List Addr) (σ4 : L2.St) (G4 : Ga) (H4 : Hp), Env X.K C O4 H4 σ4 G4 → Kp σ3 G3 O' H2 σ4 G4 O4 H4 → P (i + 1) G4 → ∃ O' G', Env X.K C O' H4 σ4 G' ∧ Kp σ G1 O H1 σ4 G' O' H4 ∧ P (i + 1) G' := fun O4 σ4 G4 H4 E4 K4 q4 => ⟨O4, G4, E4, (K2'.trans K3 E1).trans K4 E1, q4⟩
    exact hb O' σ3 H2 E3 _ nx (fun O4 σ4 v4 d4 G4 H4 E4 K4 r4 q4 => hR O4 σ4 v4 d4 G4 H4 E4 ((K2.trans K3 E).trans K4 E) r4 q4) (fun O4 σ4 G4 H4 E4 K4 q4 => hN O4 σ4 G4 H4 E4 ((K2.trans K3 E).trans K4 E) q4) nx
/-- while: a word and a measure -/
theorem ss_while (P : Nat → Ga → Prop) (m0 : Nat) (p0 : P m0 G) (h : ∀ m G', P m G' → Et C X c G' fun k G2 => (k = true → SS C X body G2 { N := fun G3 => ∃ m', m' < m ∧ P m' G3, R := T.R, B := fun G3 => SS C X rest G3 T, J := fun G3 => ∃ m', m' < m ∧ P m' G3 }) ∧ (k = false → SS C X rest G2 T))
    (hp : PassesOwn (model X.prog X.w) X.A X.env X.xe := by exact PassesOwn.never) : SS C X (.While c body [] pos :: rest) G T :=
  ss_cons (ps_while hp (pt_W c) (pss_W body)) fun O σ H E D hN hR hB hJ => by
    refine ⟨fun m σ' H' => ∃ O' G', Env X.K C O' H' σ' G' ∧ Kp σ G O H σ' G' O' H' ∧ P m G', ⟨m0, O, G, E, Kp.refl _ _ _ _, p0⟩, fun m σ' H' ⟨O', G', E', K', q⟩ => ?_⟩
    refine h m G' q O' σ' H' E' _ fun k G2 H2 E2 K2 ⟨h1, h0⟩ => ?_
    have K3 := K'.trans K2 E
    cases k with
    | false => exact iteF (hN O' σ' G2 H2 E2 K3 (h0 rfl))
    | true =>
      refine iteT ⟨_, fun σ4 H4 z => z, ?_⟩
      have nx : ∀ (O4 : List Addr) (σ4 : L2.St) (G4 : Ga) (H4 : Hp), Env X.K C O4 H4 σ4 G4 → Kp σ' G2 O' H2 σ4 G4 O4 H4 → (∃ m', m' < m ∧ P m' G4) → ∃ m', m' < m ∧ ∃ O' G', Env X.K C O' H4 σ4 G' ∧ Kp σ G O H σ4 G' O' H4 ∧ P m' G' := fun O4 σ4 G4 H4 E4 K4 ⟨m', hm, q4⟩ => ⟨m', hm, O4, G4, E4, K3.trans K4 E, q4⟩
      exact h1 rfl O' σ' H2 E2 _ nx (fun O4 σ4 v4 d4 G4 H4 E4 K4 r4 q4 => hR O4 σ4 v4 d4 G4 H4 E4 (K3.trans K4 E) r4 q4) (fun O4 σ4 G4 H4 E4 K4 q4 => hN O4 σ4 G4 H4 E4 (K3.trans K4 E) q4) nx

/-! ### comprehensions -/
def wipeG (G : Ga) : List Nat → Ga
  | [] => G
  | v :: vs => (wipeG G vs).set v .un
/-- nothing owned is forgotten -/
def okWipe (G : Ga) (vs : List Nat) : Bool := vs.all fun i => match G[i]? with
  | some (.own _) => false
  | some (.urn _) => false
  | _ => true
theorem wipeG_len (G : Ga) : ∀ vs : List Nat, (wipeG G vs).length = G.length
  | [] => rfl
  | v :: vs => by
    unfold wipeG
    rw [List.length_set, wipeG_len G vs]
theorem wipeG_at (G : Ga) : ∀ {vs : List Nat} {i : Nat}, i ∉ vs → (wipeG G vs)[i]? = G[i]?
  | [], _, _ => rfl
  | v :: vs, i, h => by
    unfold wipeG
    rw [List.getElem?_set_ne (fun e => h (by simp [e]))]
    exact wipeG_at G fun z => h (List.mem_cons_of_mem _ z)
theorem wipeG_in (G : Ga) : ∀ {vs : List Nat} {i : Nat}, i ∈ vs → ∀ {s : Sl}, (wipeG G vs)[i]? = some s → s = .un
  | v :: vs, i, h, s, e => by
    unfold wipeG at e
    by_cases hv : v = i
    · subst hv
      by_cases hl : v < (wipeG G vs).length
      · rw [List.getElem?_set_self hl] at e
        cases e
        rfl
      · rw [List.getElem?_eq_none (by simpa using hl)] at e
        cases e
    · rw [List.getElem?_set_ne hv] at e
      rcases List.mem_cons.mp h with z | z
      · exact absurd z.symm hv
      · exact wipeG_in G z e
theorem wipe_at (σ : L2.St) : ∀ {vs : List Nat} {i : Nat}, i ∉ vs → (wipe σ vs)[i]? = σ[i]?
  | [], _, _ => rfl
  | v :: vs, i, h => by
    unfold wipe
    rw [List.getElem?_set_ne (fun e => h (by simp [e]))]
    exact wipe_at σ fun z => h (List.mem_cons_of_mem _ z)
theorem okWipe_held {vs : List Nat} (h : okWipe G vs = true) {i : Nat} (hi : i ∈ vs) {s : Sl} (e : G[i]? = some s) : s.held = none := by
  unfold okWipe at h
  rw [List.all_eq_true] at h
  have q := h i hi
  rw [e] at q
  cases s <;> first | rfl | cases q
/-- into the block: the slots forgotten, the new list at q owned by nobody here -/
theorem Env.inBlk {vs : List Nat} {q : Addr} {xs : List V} (E : Env X.K C O H σ G) (hq : H q = none) : Env X.K C (q :: O) (upd H q (.lst xs)) (wipe σ vs) (wipeG G vs) := by
  have kk : Keep O H (q :: O) (upd H q (.lst xs)) := ⟨fun b o e _ => same_new hq b o e, fun b hb => by
    rcases List.mem_cons.mp hb with e | hb
    · exact .inr (by rw [e]; exact hq)
    · exact .inl hb⟩
  refine ⟨by rw [wipe_length, wipeG_len, E.len], fun j s h => ?_, fun j k s t ds es b g1 g2 g3 g4 g5 g6 => ?_, fun b hb => ?_⟩
  · by_cases hj : j ∈ vs
    · rw [wipeG_in G hj h]
      have hlt : j < (wipe σ vs).length := by
        have := (List.getElem?_eq_some_iff.mp h).1
        rw [wipeG_len, ← E.len] at this
        rw [wipe_length]
        exact this
      exact ⟨_, List.getElem?_eq_getElem hlt, trivial⟩
    · rw [wipeG_at G hj] at h
      obtain ⟨o, g1, g2⟩ := E.sl j s h
      refine ⟨o, by rw [wipe_at σ hj]; exact g1, ?_⟩
      cases s with
      | un => trivial
      | imm d =>
        obtain ⟨v, q1, q2⟩ := g2
        exact ⟨v, q1, q2.keep kk E.wo⟩
      | own us =>
        obtain ⟨b, ys, q1, q2, q3, q4⟩ := g2
        exact ⟨b, ys, q1, List.mem_cons_of_mem _ q2, same_new hq _ _ q3, q4.keep kk E.wo⟩
      | urn us =>
        obtain ⟨b, ys, q1, q2, q3, q4⟩ := g2
        exact ⟨b, ys, q1, List.mem_cons_of_mem _ q2, same_new hq _ _ q3, q4.keep kk E.wo⟩
  · have n1 : j ∉ vs := fun z => by
      rw [wipeG_in G z g3] at g5
      cases g5
    have n2 : k ∉ vs := fun z => by
      rw [wipeG_in G z g4] at g6
      cases g6
    rw [wipe_at σ n1] at g1
    rw [wipe_at σ n2] at g2
    rw [wipeG_at G n1] at g3
    rw [wipeG_at G n2] at g4
    exact E.dj j k s t ds es b g1 g2 g3 g4 g5 g6
  · rcases List.mem_cons.mp hb with e | hb
    · subst e
      exact ⟨xs, upd_same⟩
    · obtain ⟨ys, e⟩ := E.wo b hb
      exact ⟨ys, same_new hq _ _ e⟩
end
end DL
/-! DL6: comprehensions, own defs. -/
namespace DL
open PySem PySem.Spec PyProof.Rows L2

section
variable {C : Addr} {X : Cx} {G G' : Ga} {T : Es} {Q : Vl → Ga → Prop} {O O' : List Addr} {σ σ' : L2.St} {H H' : Hp}
variable {x y z : Str} {pos pos' p pt pa pb pc : Pos} {a b e c tg iter elt : Expr} {es : List Expr} {st : Stmt} {rest body b1 b2 : List Stmt} {scope : Scope}

/-- another owned object is written: no slot holds it -/
theorem Env.wrX {q : Addr} {xs : List V} (E : Env X.K C O H σ G) (hm : q ∈ O) (hn : ¬ Ow σ G q) : Env X.K C O (upd H q (.lst xs)) σ G := by
  have kk : Keep O H O (upd H q (.lst xs)) := ⟨fun b o e n => by rw [upd_ne (fun z => n (by rw [z]; exact hm))]; exact e, fun b h => .inl h⟩
  refine ⟨E.len, fun j s h => ?_, E.dj, fun b hb => ?_⟩
  · obtain ⟨o, g1, g2⟩ := E.sl j s h
    refine ⟨o, g1, ?_⟩
    have ne : ∀ {b : Addr} {us : List PyData}, o = some (.ref b) → s.held = some us → b ≠ q := fun {b us} e1 e2 e3 => by
      subst e1 e3
      exact hn ⟨j, s, us, g1, h, e2⟩
    cases s with
    | un => trivial
    | imm d =>
      obtain ⟨v, q1, q2⟩ := g2
      exact ⟨v, q1, q2.keep kk E.wo⟩
    | own us =>
      obtain ⟨b, ys, q1, q2, q3, q4⟩ := g2
      exact ⟨b, ys, q1, q2, by rw [upd_ne (ne q1 rfl)]; exact q3, q4.keep kk E.wo⟩
    | urn us =>
      obtain ⟨b, ys, q1, q2, q3, q4⟩ := g2
      exact ⟨b, ys, q1, q2, by rw [upd_ne (ne q1 rfl)]; exact q3, q4.keep kk E.wo⟩
  · by_cases e : b = q
    · subst e
      exact ⟨xs, upd_same⟩
    · obtain ⟨ys, e'⟩ := E.wo b hb
      exact ⟨ys, by rw [upd_ne e]; exact e'⟩

/-! ### comprehensions -/
abbrev blkX (X : Cx) (scope : Scope) (s : Shared) (H : Hp) (Cc : Addr) (cl : List (Str × Addr)) (fp : List Addr) : Cx := X.blk s H scope (compEnvC scope cl Cc X.env) fp
def bE (X : Cx) (scope : Scope) (e : Expr) : TE := fun σ H Q => ∀ s H0 Cc cl fp, tW (blkX X scope s H0 Cc cl fp) e σ H Q
def bT (X : Cx) (scope : Scope) (e : Expr) : TT := fun σ H Q => ∀ s H0 Cc cl fp, tT (blkX X scope s H0 Cc cl fp) e σ H Q
def bG (X : Cx) (scope : Scope) (e : Expr) : TG := fun v σ H Q => ∀ s H0 Cc cl fp, tG (blkX X scope s H0 Cc cl fp) e v σ H Q
theorem pe_bE (e : Expr) (s : Shared) (H : Hp) (Cc : Addr) (cl : List (Str × Addr)) (fp : List Addr) : PE (blkX X scope s H Cc cl fp) e (bE X scope e) := ⟨fun pins s' _ _ _ I h => h s H Cc cl fp pins s' I⟩
theorem pt_bT (e : Expr) (s : Shared) (H : Hp) (Cc : Addr) (cl : List (Str × Addr)) (fp : List Addr) : PT (blkX X scope s H Cc cl fp) e (bT X scope e) := ⟨fun pins s' _ _ _ I h => h s H Cc cl fp pins s' I⟩
theorem pg_bG (e : Expr) (s : Shared) (H : Hp) (Cc : Addr) (cl : List (Str × Addr)) (fp : List Addr) : PG (blkX X scope s H Cc cl fp) e (bG X scope e) := ⟨fun pins s' σ' H' v u Q I r h => h s H Cc cl fp pins s' u I r⟩
theorem wipe_eq {σ σ2 : L2.St} {vs ts : List Nat} (hl : σ2.length = σ.length) (h : ∀ j : Nat, j ∉ ts → σ2[j]? = (wipe σ vs)[j]?) (hs : ∀ t ∈ ts, t ∈ vs) : wipe σ2 vs = wipe σ vs := by
  have z : ∀ (us : List Nat) (τ : L2.St) (j : Nat), j ∈ us → j < τ.length → (wipe τ us)[j]? = some none := by
    intro us
    induction us with
    | nil => intro τ j hj; cases hj
    | cons u us ih =>
      intro τ j hj hlt
      unfold wipe
      by_cases e : u = j
      · subst e
        rw [List.getElem?_set_self (by rw [wipe_length]; exact hlt)]
      · rw [List.getElem?_set_ne e]
        rcases List.mem_cons.mp hj with q | q
        · exact absurd q.symm e
        · exact ih τ j q hlt
  apply List.ext_getElem?
  intro j
  by_cases hj : j ∈ vs
  · by_cases hlt : j < σ.length
    · rw [z vs σ2 j hj (by rw [hl]; exact hlt), z vs σ j hj hlt]
    · rw [List.getElem?_eq_none (by rw [wipe_length, hl]; omega), List.getElem?_eq_none (by rw [wipe_length]; omega)]
  · rw [wipe_at σ2 hj]
    exact h j fun q => hj (hs j q)
/-- what holds ahead of the i-th turn: the list so far is acc -/
structure Cst (X : Cx) (C : Addr) (vs : List Nat) (O : List Addr) (H1 : Hp) (σ : L2.St) (G1 : Ga) (D : Addr) (P : Nat → List PyData → Ga → Prop) (i : Nat) (H : Hp) : Prop where
  ex : ∃ G' acc xs, Env X.K C (D :: O) H (wipe σ vs) G' ∧ Kp (wipe σ vs) (wipeG G1 vs) O H1 (wipe σ vs) G' (D :: O) H ∧ H D = some (.lst xs) ∧ RepAll X.K C (D :: O) H xs acc ∧ acc.length ≤ i ∧ (∀ j ∈ vs, ∀ s, G'[j]? = some s → s = .un) ∧ ¬ Ow (wipe σ vs) G' D ∧ P i acc G'
/-- a clause's tests -/
def ETs (C : Addr) (X : Cx) (scope : Scope) : List Expr → Ga → (Bool → Ga → Prop) → Prop
  | [], G, QT => QT true G
  | [c], G, QT => ∀ s H0 Cc cl fp, Et C (blkX X scope s H0 Cc cl fp) c G QT
  | _, _, _ => False
def tTs (X : Cx) (scope : Scope) : List Expr → TT
  | [] => tYes
  | [c] => bT X scope c
  | _ => fun _ _ _ => False
theorem pts_bT : ∀ (ifs : List Expr) (s : Shared) (H : Hp) (Cc : Addr) (cl : List (Str × Addr)) (fp : List Addr), PTs (blkX X scope s H Cc cl fp) ifs (tTs X scope ifs)
  | [], _, _, _, _, _ => pts_nil
  | [c], s, H, Cc, cl, fp => pts_one (pt_bT c s H Cc cl fp)
  | _ :: _ :: _, _, _, _, _, _ => ⟨fun _ _ _ _ _ _ h => h.elim⟩
theorem ETs.go : ∀ {ifs : List Expr} {QT : Bool → Ga → Prop}, ETs C X scope ifs G QT → ∀ {O : List Addr} {σ : L2.St} {H : Hp}, Env X.K C O H σ G → ∀ {Q' : Bool → Hp → Prop}, CoT C X σ G O H QT Q' → tTs X scope ifs σ H Q'
  | [], _, h, _, _, _, E, _, k => k true _ _ E (Kp.refl _ _ _ _) h
  | [c], _, h, _, _, _, E, _, k => fun s H0 Cc cl fp => h s H0 Cc cl fp _ _ _ E _ k
  | _ :: _ :: _, _, h, _, _, _, _, _, _ => h.elim
theorem Ow.of_wipe {vs : List Nat} {a : Addr} (h : Ow (wipe σ vs) (wipeG G vs) a) : Ow σ G a := by
  obtain ⟨j, s, ds, h1, h2, h3⟩ := h
  have n : j ∉ vs := fun z => by
    rw [wipeG_in G z h2] at h3
    cases h3
  rw [wipe_at σ n] at h1
  rw [wipeG_at G n] at h2
  exact ⟨j, s, ds, h1, h2, h3⟩
theorem Ow.to_wipe {vs : List Nat} (ok : okWipe G vs = true) {a : Addr} (h : Ow σ G a) : Ow (wipe σ vs) (wipeG G vs) a := by
  obtain ⟨j, s, ds, h1, h2, h3⟩ := h
  have n : j ∉ vs := fun z => by
    rw [okWipe_held ok z h2] at h3
    cases h3
  exact ⟨j, s, ds, by rw [wipe_at σ n]; exact h1, by rw [wipeG_at G n]; exact h2, h3⟩
/-- slots forgotten -/
theorem Env.wiped {vs : List Nat} (E : Env X.K C O H σ G) : Env X.K C O H (wipe σ vs) (wipeG G vs) := by
  refine ⟨by rw [wipe_length, wipeG_len, E.len], fun j s h => ?_, fun j k s t ds es b g1 g2 g3 g4 g5 g6 => ?_, E.wo⟩
  · by_cases hj : j ∈ vs
    · rw [wipeG_in G hj h]
      have hlt : j < (wipe σ vs).length := by
        have := (List.getElem?_eq_some_iff.mp h).1
        rw [wipeG_len, ← E.len] at this
        rw [wipe_length]
        exact this
      exact ⟨_, List.getElem?_eq_getElem hlt, trivial⟩
    · rw [wipeG_at G hj] at h
      obtain ⟨o, g1, g2⟩ := E.sl j s h
      exact ⟨o, by rw [wipe_at σ hj]; exact g1, g2⟩
  · have n1 : j ∉ vs := fun z => by
      rw [wipeG_in G z g3] at g5
      cases g5
    have n2 : k ∉ vs := fun z => by
      rw [wipeG_in G z g4] at g6
      cases g6
    rw [wipe_at σ n1] at g1
    rw [wipe_at σ n2] at g2
    rw [wipeG_at G n1] at g3
    rw [wipeG_at G n2] at g4
    exact E.dj j k s t ds es b g1 g2 g3 g4 g5 g6
theorem Kp.wiped {vs : List Nat} {G1 : Ga} {σ1 : L2.St} (k : Kp σ G O H σ1 G1 O' H') (un : ∀ j ∈ vs, ∀ s, G[j]? = some s → s = .un) (same : wipe σ1 vs = wipe σ vs) : Kp σ G O H (wipe σ1 vs) (wipeG G1 vs) O' H' := by
  refine ⟨k.obj, k.stay, k.new, fun a h => k.own a (Ow.of_wipe h), k.there, fun j ds h => ?_⟩
  have n : j ∉ vs := fun z => by
    have := un j z _ h
    cases this
  obtain ⟨e, ds', h'⟩ := k.urn j ds h
  exact ⟨by rw [wipe_at σ1 n]; exact e, ds', by rw [wipeG_at G1 n]; exact h'⟩
theorem ef_lc {ifs : List Expr} {ts : List Nat} (own : List (Str × Nat)) (ok : blkC X.N X.env.scope scope own = true) (hN : X.N.Nodup)
    (h : Ei C X tg iter G fun ds G1 => okWipe G1 (own.map (·.2)) = true ∧ ds.length ≤ 100000 ∧ (∀ t ∈ ts, t ∈ own.map (·.2)) ∧ ∃ P : Nat → List PyData → Ga → Prop, P 0 [] (wipeG G1 (own.map (·.2))) ∧
      (∀ i d acc G', ds[i]? = some d → P i acc G' → ∀ s H0 Cc cl fp, Sg C (blkX X scope s H0 Cc cl fp) tg d G' ts fun G2 => ETs C X scope ifs G2 fun k G3 =>
        (k = true → ∀ s H0 Cc cl fp, Ef C (blkX X scope s H0 Cc cl fp) elt G3 fun v G4 => ∃ d', v = .d d' ∧ P (i + 1) (acc ++ [d']) (wipeG G4 (own.map (·.2)))) ∧ (k = false → P (i + 1) acc (wipeG G3 (own.map (·.2))))) ∧
      ∀ acc G', P ds.length acc G' → Q (.d (.list acc)) G')
    (hc : X.calm = true := by rfl) (hs : ∀ x, foldedSetIterable iter X.env x = pure x := by intro _; rfl) : Ef C X (.ListComp elt [⟨tg, iter, ifs, 0⟩] scope pos) G Q := by
  intro O σ H E Q' q
  refine tW_of (pe_lc hc hN (pi_W tg iter) (blkOk_by ok) (pg_bG tg) (pts_bT ifs) (pe_bE elt) hs) ?_
  refine h O σ H E _ fun J ds G1 H1 E1 K1 ⟨Gd, Y, W, hG, hY⟩ ⟨okw, hlen, hts, P, p0, ps, pd⟩ => ?_
  intro D hD
  generalize own.map (·.2) = vs at *
  have fresh : ¬ Ow (wipe σ vs) (wipeG G1 vs) D := fun z => by
    obtain ⟨xs, e⟩ := E1.wo D (E1.ow_mem (Ow.of_wipe z))
    rw [hD] at e
    cases e
  have un1 : ∀ j ∈ vs, ∀ s, (wipeG G1 vs)[j]? = some s → s = .un := fun j hj s e => wipeG_in G1 hj e
  refine lc_it W (fun i H' => Cst X C vs O H1 σ G1 D P i H') ?_ (fun i H' _ ⟨G', acc, xs, E', K', _⟩ => hG (D :: O) H' ⟨fun a o e n => K'.obj a o e fun z => n (E1.ow_mem (Ow.of_wipe z)), K'.new⟩) (fun i v H' H2 hi ⟨G', acc, xs, E', K', hd', ra, hl, un, nO, hp⟩ y => ?_) fun H' ⟨G', acc, xs, E', K', hd', ra, hl, un, nO, hp⟩ => ?_
  · refine ⟨wipeG G1 vs, [], [], E1.inBlk hD, ?_, upd_same, .nil, Nat.le_refl _, un1, fresh, p0⟩
    exact ⟨fun a o e _ => same_new hD a o e, fun a m _ => List.mem_cons_of_mem _ m, fun a m => by
      rcases List.mem_cons.mp m with z | z
      · exact .inr (by rw [z]; exact hD)
      · exact .inl z, fun a z => .inl z, fun a z z' => by
      by_cases e : a = D
      · rw [e, upd_same] at z'
        cases z'
      · rw [upd_ne e] at z'
        exact z z', fun j us e => ⟨rfl, us, e⟩⟩
  · have kk : Keep O H1 (D :: O) H' := ⟨fun a o e n => K'.obj a o e fun z => n (E1.ow_mem (Ow.of_wipe z)), K'.new⟩
    obtain ⟨k2, d, hd, rd⟩ := hY i H' v H2 (D :: O) hi kk E'.wo y
    have E2 := E'.ext k2
    intro s H0 Cc cl fp
    refine ps i d acc G' hd hp s H0 Cc cl fp (D :: O) (wipe σ vs) H2 v E2 rd _ fun σ3 G3 f3 E3 K3 hb => ?_
    have sl : wipe σ3 vs = wipe σ vs := wipe_eq (f3.1.trans (wipe_length σ vs)) f3.2 hts
    have K2 : Kp (wipe σ vs) G' (D :: O) H' σ3 G3 (D :: O) H2 := (Kp.ext k2).trans K3 E'
    have KA : Kp (wipe σ vs) (wipeG G1 vs) O H1 σ3 G3 (D :: O) H2 := (K'.trans K2 E1.wiped)
    refine ⟨sl, ?_⟩
    refine ETs.go hb E3 fun k G4 H4 E4 K4 ⟨g1, g0⟩ => ?_
    have K5 : Kp (wipe σ vs) G' (D :: O) H' σ3 G4 (D :: O) H4 := K2.trans K4 E'
    have KB : Kp (wipe σ vs) (wipeG G1 vs) O H1 σ3 G4 (D :: O) H4 := KA.trans K4 E1.wiped
    have back : ∀ {G6 : Ga} {H6 : Hp} {ys : List V} {ac : List PyData}, Env X.K C (D :: O) H6 σ3 G6 → Kp (wipe σ vs) G' (D :: O) H' σ3 G6 (D :: O) H6 → Kp (wipe σ vs) (wipeG G1 vs) O H1 σ3 G6 (D :: O) H6 → RepAll X.K C (D :: O) H6 ys ac → ac.length ≤ i + 1 → P (i + 1) ac (wipeG G6 vs) →
        Cst X C vs O H1 σ G1 D P (i + 1) (upd H6 D (.lst ys)) := fun {G6 H6 ys ac} E6 K6 KC rr hl6 hp6 => by
      have nD : ¬ Ow σ3 G6 D := fun z => (K6.own D z).elim nO fun q => by
        rw [hd'] at q
        cases q
      have nD2 : ¬ Ow (wipe σ vs) (wipeG G6 vs) D := fun z => nD (Ow.of_wipe (sl ▸ z))
      have E7 : Env X.K C (D :: O) H6 (wipe σ vs) (wipeG G6 vs) := by
        have := E6.wiped (vs := vs)
        rw [sl] at this
        exact this
      have K7 : Kp (wipe σ vs) (wipeG G1 vs) O H1 (wipe σ vs) (wipeG G6 vs) (D :: O) H6 := by
        have := KC.wiped (vs := vs) un1 (by rw [sl]; exact (wipe_eq (wipe_length σ vs) (ts := []) (fun _ _ => rfl) (fun t ht => by cases ht)).symm)
        rw [sl] at this
        exact this
      refine ⟨wipeG G6 vs, ac, ys, E7.wrX List.mem_cons_self nD2, ⟨fun a o e n => ?_, K7.stay, K7.new, K7.own, fun a z q => ?_, K7.urn⟩, upd_same, rr.keep ⟨fun b o e n => by rw [upd_ne (fun z => n (by rw [z]; exact List.mem_cons_self))]; exact e, fun b h => .inl h⟩ E7.wo, hl6, fun j hj s e => wipeG_in G6 hj e, nD2, hp6⟩
      · rw [upd_ne (ne_of_none e hD)]
        exact K7.obj a o e n
      · by_cases e : a = D
        · rw [e, upd_same] at q
          cases q
        · rw [upd_ne e] at q
          exact K7.there a z q
    have hD4 : ∀ {G6 : Ga} {H6 : Hp}, Kp (wipe σ vs) G' (D :: O) H' σ3 G6 (D :: O) H6 → H6 D = some (.lst xs) := fun {G6 H6} K6 => K6.obj D _ hd' nO
    have ra4 : ∀ {G6 : Ga} {H6 : Hp}, Kp (wipe σ vs) G' (D :: O) H' σ3 G6 (D :: O) H6 → RepAll X.K C (D :: O) H6 xs acc := fun {G6 H6} K6 => ra.keep (K6.keep E') E'.wo
    cases k with
    | false =>
      refine iteF ?_
      have z := back E4 K5 KB (ra4 K5) (Nat.le_succ_of_le hl) (g0 rfl)
      have e : upd H4 D (.lst xs) = H4 := by
        funext b
        by_cases hb' : b = D
        · rw [hb', upd_same, hD4 K5]
        · rw [upd_ne hb']
      rw [e] at z
      exact z
    | true =>
      refine iteT ?_
      intro s' H0' Cc' cl' fp'
      refine g1 rfl s' H0' Cc' cl' fp' (D :: O) σ3 H4 E4 _ fun y vl G6 H6 E6 K6 R6 ⟨d', e6, hp6⟩ => ?_
      subst e6
      have K7 := K5.trans K6 E'
      refine ⟨xs, hD4 K7, sz' _ ?_, back E6 K7 (KB.trans K6 E1.wiped) ((ra4 K7).append (.cons R6 .nil)) (by simp; omega) hp6⟩
      rw [ra.1]
      omega
  · have nD := nO
    have E5 : Env X.K C O H' σ G' := by
      refine ⟨?_, fun j s h => ?_, fun j k s t ds es b g1 g2 g3 g4 g5 g6 => ?_, fun b hb => E'.wo b (List.mem_cons_of_mem _ hb)⟩
      · have := E'.len
        rw [wipe_length] at this
        exact this
      · by_cases hj : j ∈ vs
        · rw [un j hj s h]
          have hlt : j < σ.length := by
            have := (List.getElem?_eq_some_iff.mp h).1
            have e := E'.len
            rw [wipe_length] at e
            omega
          exact ⟨_, List.getElem?_eq_getElem hlt, trivial⟩
        · obtain ⟨o, g1, g2⟩ := E'.sl j s h
          rw [wipe_at σ hj] at g1
          refine ⟨o, g1, ?_⟩
          have ne : ∀ {b : Addr} {us : List PyData}, o = some (.ref b) → s.held = some us → b ≠ D := fun {b us} e1 e2 e3 => by
            subst e1 e3
            exact nO ⟨j, s, us, by rw [wipe_at σ hj]; exact g1, h, e2⟩
          have sub : ∀ b, b ∈ O → b ∈ D :: O := fun b => List.mem_cons_of_mem _
          cases s with
          | un => trivial
          | imm d =>
            obtain ⟨v, q1, q2⟩ := g2
            exact ⟨v, q1, q2.less sub⟩
          | own us =>
            obtain ⟨b, ys, q1, q2, q3, q4⟩ := g2
            exact ⟨b, ys, q1, (List.mem_cons.mp q2).resolve_left (ne q1 rfl), q3, q4.less sub⟩
          | urn us =>
            obtain ⟨b, ys, q1, q2, q3, q4⟩ := g2
            exact ⟨b, ys, q1, (List.mem_cons.mp q2).resolve_left (ne q1 rfl), q3, q4.less sub⟩
      · have n1 : j ∉ vs := fun z => by
          rw [un j z s g3] at g5
          cases g5
        have n2 : k ∉ vs := fun z => by
          rw [un k z t g4] at g6
          cases g6
        exact E'.dj j k s t ds es b (by rw [wipe_at σ n1]; exact g1) (by rw [wipe_at σ n2]; exact g2) g3 g4 g5 g6
    have back : ∀ {a : Addr}, Ow σ G' a → Ow (wipe σ vs) G' a := fun {a} ⟨j, s, us, g1, g2, g3⟩ => by
      have n1 : j ∉ vs := fun z => by
        rw [un j z s g2] at g3
        cases g3
      exact ⟨j, s, us, by rw [wipe_at σ n1]; exact g1, g2, g3⟩
    have K5 : Kp σ G1 O H1 σ G' O H' := by
      refine ⟨fun a o e n => K'.obj a o e fun z => n (Ow.of_wipe z), fun a m n => m, fun a m => .inl m, fun a z => (K'.own a (back z)).imp (fun z => Ow.of_wipe z) id, K'.there, fun j us e => ?_⟩
      have n1 : j ∉ vs := fun z => by
        have := okWipe_held okw z e
        cases this
      obtain ⟨_, ds', e'⟩ := K'.urn j us (by rw [wipeG_at G1 n1]; exact e)
      exact ⟨rfl, ds', e'⟩
    refine Co.at (Co.step q E (K1.trans K5 E)) E5 (.lstAll hd' (fun m => ?_) (ra.less fun b => List.mem_cons_of_mem _)) (pd acc G' hp)
    obtain ⟨ys, e⟩ := E1.wo D m
    rw [hD] at e
    cases e
end
end DL
/-! DL7: pure comprehensions, own defs called, own defs kept. -/
namespace DL
open PySem PySem.Spec PyProof.Rows L2

section
variable {C : Addr} {X : Cx} {G G' : Ga} {T : Es} {Q : Vl → Ga → Prop} {O O' : List Addr} {σ σ' : L2.St} {H H' : Hp}
variable {x y z : Str} {pos pos' p pt pa pb pc : Pos} {a b e c tg iter elt : Expr} {es : List Expr} {st : Stmt} {rest body b1 b2 : List Stmt} {scope : Scope}

/-- a comprehension that leaves everything as it is -/
theorem ef_lcP {ifs : List Expr} {ts : List Nat} (own : List (Str × Nat)) (f : PyData → PyData) (pr : PyData → Bool) (ok : blkC X.N X.env.scope scope own = true) (hN : X.N.Nodup)
    (h : Ei C X tg iter G fun ds G1 => okWipe G1 (own.map (·.2)) = true ∧ ds.length ≤ 100000 ∧ (∀ t ∈ ts, t ∈ own.map (·.2)) ∧
      (∀ d ∈ ds, ∀ s H0 Cc cl fp, Sg C (blkX X scope s H0 Cc cl fp) tg d (wipeG G1 (own.map (·.2))) ts fun G2 => ETs C X scope ifs G2 fun k G3 =>
        k = pr d ∧ G3 = G2 ∧ wipeG G2 (own.map (·.2)) = wipeG G1 (own.map (·.2)) ∧ (k = true → ∀ s H0 Cc cl fp, Ef C (blkX X scope s H0 Cc cl fp) elt G2 fun v G4 => v = .d (f d) ∧ G4 = G2)) ∧
      Q (.d (.list ((ds.filter pr).map f))) (wipeG G1 (own.map (·.2))))
    (hc : X.calm = true := by rfl) (hs : ∀ x, foldedSetIterable iter X.env x = pure x := by intro _; rfl) : Ef C X (.ListComp elt [⟨tg, iter, ifs, 0⟩] scope pos) G Q := by
  refine ef_lc (ts := ts) own ok hN ?_ hc hs
  intro O σ H E R q
  refine h O σ H E R fun J ds G1 H1 E1 K1 W ⟨h1, h2, h3, h4, h5⟩ => q J ds G1 H1 E1 K1 W ⟨h1, h2, h3, fun i acc G' => G' = wipeG G1 (own.map (·.2)) ∧ acc = ((ds.take i).filter pr).map f, ⟨rfl, by simp⟩, fun i d acc G' hd ⟨e1, e2⟩ s H0 Cc cl fp => ?_, fun acc G' ⟨e1, e2⟩ => ?_⟩
  · subst e1
    have hm : d ∈ ds := List.mem_of_getElem? hd
    have tk : ds.take (i + 1) = ds.take i ++ [d] := by rw [List.take_add_one, hd]; rfl
    intro O2 σ2 H2 v E2 r2 Q' k2
    refine h4 d hm s H0 Cc cl fp O2 σ2 H2 v E2 r2 Q' fun σ3 G3 f3 E3 K3 hb => k2 σ3 G3 f3 E3 K3 ?_
    have fin : ∀ (k : Bool) (G3' : Ga), (k = pr d ∧ G3' = G3 ∧ wipeG G3 (own.map (·.2)) = wipeG G1 (own.map (·.2)) ∧ (k = true → ∀ s H0 Cc cl fp, Ef C (blkX X scope s H0 Cc cl fp) elt G3 fun v G4 => v = .d (f d) ∧ G4 = G3)) →
        (k = true → ∀ s H0 Cc cl fp, Ef C (blkX X scope s H0 Cc cl fp) elt G3' fun v G4 => ∃ d', v = .d d' ∧ wipeG G4 (own.map (·.2)) = wipeG G1 (own.map (·.2)) ∧ acc ++ [d'] = ((ds.take (i + 1)).filter pr).map f) ∧ (k = false → wipeG G3' (own.map (·.2)) = wipeG G1 (own.map (·.2)) ∧ acc = ((ds.take (i + 1)).filter pr).map f) := by
      rintro k G3' ⟨ek, eG, ew, hh⟩
      subst eG
      refine ⟨fun kt s H0 Cc cl fp => (hh kt s H0 Cc cl fp).mono fun v G4 ⟨e3, e4⟩ => ⟨f d, e3, by rw [e4]; exact ew, ?_⟩, fun kf => ⟨ew, ?_⟩⟩
      · rw [e2, tk, List.filter_append, List.map_append, List.filter_cons, if_pos (by rw [← ek]; exact kt)]
        rfl
      · rw [e2, tk, List.filter_append, List.map_append, List.filter_cons, if_neg (by rw [← ek, kf]; decide)]
        simp
    match ifs, hb with
    | [], hb => exact fin true G3 hb
    | [c], hb => exact fun s H0 Cc cl fp O4 σ4 H4 E4 Q4 k4 => hb s H0 Cc cl fp O4 σ4 H4 E4 Q4 fun b G' H' E' K' z => k4 b G' H' E' K' (fin b G' z)
    | _ :: _ :: _, hb => exact hb.elim
  · subst e1 e2
    rw [List.take_length]
    exact h5
/-- .. without tests -/
theorem ef_lcM {ts : List Nat} (own : List (Str × Nat)) (f : PyData → PyData) (ok : blkC X.N X.env.scope scope own = true) (hN : X.N.Nodup)
    (h : Ei C X tg iter G fun ds G1 => okWipe G1 (own.map (·.2)) = true ∧ ds.length ≤ 100000 ∧ (∀ t ∈ ts, t ∈ own.map (·.2)) ∧
      (∀ d ∈ ds, ∀ s H0 Cc cl fp, Sg C (blkX X scope s H0 Cc cl fp) tg d (wipeG G1 (own.map (·.2))) ts fun G2 =>
        wipeG G2 (own.map (·.2)) = wipeG G1 (own.map (·.2)) ∧ ∀ s H0 Cc cl fp, Ef C (blkX X scope s H0 Cc cl fp) elt G2 fun v G4 => v = .d (f d) ∧ G4 = G2) ∧
      Q (.d (.list (ds.map f))) (wipeG G1 (own.map (·.2))))
    (hc : X.calm = true := by rfl) (hs : ∀ x, foldedSetIterable iter X.env x = pure x := by intro _; rfl) : Ef C X (.ListComp elt [⟨tg, iter, [], 0⟩] scope pos) G Q := by
  refine ef_lcP (ts := ts) own f (fun _ => true) ok hN ?_ hc hs
  intro O σ H E R q
  refine h O σ H E R fun J ds G1 H1 E1 K1 W ⟨h1, h2, h3, h4, h5⟩ => q J ds G1 H1 E1 K1 W ⟨h1, h2, h3, fun d hd s H0 Cc cl fp => ?_, ?_⟩
  · intro O2 σ2 H2 v E2 r2 Q' k2
    exact h4 d hd s H0 Cc cl fp O2 σ2 H2 v E2 r2 Q' fun σ3 G3 f3 E3 K3 hb => k2 σ3 G3 f3 E3 K3 ⟨rfl, rfl, hb.1, fun _ => hb.2⟩
  · have : ds.filter (fun _ => true) = ds := by simp
    rw [this]
    exact h5
/-! ### promises -/
/-- a def over data: pre, post -/
def spP (K : PySem.W.Frag) (C : Addr) (pre : List PyData → Prop) (post : List PyData → PyData → Prop) : Sp := fun vs H Q _ => ∃ (O : List Addr) (ds : List PyData), Own O H ∧ RepAll K C O H vs ds ∧ pre ds ∧
  ∀ v H' d, (∀ a o, H a = some o → H' a = some o) → post ds d → Rep K C O H' v d → Q v H'
/-- a def whose first argument is an owned list -/
def spU (K : PySem.W.Frag) (C : Addr) (pre : List PyData → List PyData → Prop) (post : List PyData → List PyData → PyData → List PyData → Prop) : Sp := fun vs H Q _ => ∃ (O : List Addr) (u : Addr) (us xs : List V) (cs ds : List PyData),
  vs = .ref u :: us ∧ u ∈ O ∧ Own O H ∧ H u = some (.lst xs) ∧ RepAll K C O H xs cs ∧ RepAll K C O H us ds ∧ pre cs ds ∧
  ∀ v H' d cs' xs', (∀ a o, H a = some o → a ≠ u → H' a = some o) → (∀ a, H a ≠ none → H' a ≠ none) → H' u = some (.lst xs') → RepAll K C O H' xs' cs' → post cs ds d cs' → Rep K C O H' v d → Q v H'
/-- a def that is known by its name -/
structure Kn (P : Program) (w : World) (K : PySem.W.Frag) (mg : Str → Option Value) (base : Heap) (n : Nat) (x : Str) (ps : List Str) (sp : Sp) : Prop where
  ex : ∃ f fd, FnOk P w K mg base CX0 n f fd ps sp ∧ mg x = some (.ref f) ∧ PySem.W.keepIn K (.ref f) = true ∧ Binds K fd ps []
theorem Kn.mono {P : Program} {w : World} {K : PySem.W.Frag} {mg : Str → Option Value} {base : Heap} {n m : Nat} {x : Str} {ps : List Str} {sp : Sp} (k : Kn P w K mg base n x ps sp) (h : n ≤ m) : Kn P w K mg base m x ps sp := by
  obtain ⟨f, fd, F, r⟩ := k.ex
  exact ⟨f, fd, F.mono h, r⟩
theorem Own.keepNew (w : Own O H) {H' : Hp} (k : ∀ a o, H a = some o → H' a = some o) : Own O H' := fun a m => by
  obtain ⟨xs, e⟩ := w a m
  exact ⟨xs, k _ _ e⟩
theorem ef_call {n : Nat} {ps : List Str} {pre : List PyData → Prop} {post : List PyData → PyData → Prop} (F : Kn X.prog X.w X.K X.mg X.base n x ps (spP X.K C pre post)) (hr : Room n X.A)
    (h : Ea C X (e :: es) G fun vls G1 => ∃ ds, vls = ds.map Vl.d ∧ pre ds ∧ ∀ d, post ds d → Q (.d d) G1) (hg : Gl X x := by rfl) (hdb : (x == ("__debug__" : Str)) = false := by decide)
    (he : starEach (e :: es) X.env = (false, eval e X.env) :: starEach es X.env := by rfl) (hpl : (backTo pos (starEach es X.env)).any (·.1) = false := by rfl) : Ef C X (.Call (.Name x p) (e :: es) [] pos) G Q := by
  intro O σ H E Q' q
  obtain ⟨f, fd, F, hm, hk, hb⟩ := F.ex
  refine tW_of (pe_call F hr hg hm hk hb .nil pass0 (pa_W (e :: es)) hdb he hpl) ?_
  refine h O σ H E _ fun vs vls G1 H1 E1 K1 hl R1 ⟨ds, e1, hp, z⟩ => ?_
  subst e1
  refine ⟨O, ds, E1.wo, ?_, hp, fun v H' d k hpost r => Co.ext (Co.step q E K1) E1 k r (z d hpost)⟩
  rw [List.append_nil]
  exact repAll_of hl R1
/-- a def with an owned first argument, the list of slot i -/
theorem ef_callU (i : Nat) {n : Nat} {ps : List Str} {pre : List PyData → List PyData → Prop} {post : List PyData → List PyData → PyData → List PyData → Prop} (F : Kn X.prog X.w X.K X.mg X.base n x ps (spU X.K C pre post)) (hr : Room n X.A)
    (h : Ea C X (e :: es) G fun vls G1 => ∃ s cs ds, vls = .o i :: ds.map Vl.d ∧ G1[i]? = some s ∧ s.held = some cs ∧ pre cs ds ∧ ∀ d cs', post cs ds d cs' → Q (.d d) (G1.set i (s.put cs'))) (hg : Gl X x := by rfl) (hdb : (x == ("__debug__" : Str)) = false := by decide)
    (he : starEach (e :: es) X.env = (false, eval e X.env) :: starEach es X.env := by rfl) (hpl : (backTo pos (starEach es X.env)).any (·.1) = false := by rfl) : Ef C X (.Call (.Name x p) (e :: es) [] pos) G Q := by
  intro O σ H E Q' q
  obtain ⟨f, fd, F, hm, hk, hb⟩ := F.ex
  refine tW_of (pe_call F hr hg hm hk hb .nil pass0 (pa_W (e :: es)) hdb he hpl) ?_
  refine h O σ H E _ fun vs vls G1 H1 E1 K1 hl R1 ⟨s, cs, ds, e1, g1, g2, hp, z⟩ => ?_
  subst e1
  match vs, hl, R1 with
  | [], hl, _ => simp at hl
  | v0 :: vr, hl, R1 =>
    have r0 := R1 0 v0 (.o i) rfl rfl
    obtain ⟨u, xs, rfl, hu, hH, ra⟩ := E1.own_at r0.1 g1 g2
    have rr : RepAll X.K C O H1 vr ds := repAll_of (by simpa using hl) fun j v vl e1 e2 => R1 (j + 1) v vl (by simpa using e1) (by simpa using e2)
    refine ⟨O, u, vr, xs, cs, ds, by rw [List.append_nil], hu, E1.wo, hH, ra, rr, hp, fun v H' d cs' xs' k k2 hH' ra' hpost r => ?_⟩
    -- the heap behind it is the old one, grown, and the list at u written
    have ne : ∀ {j : Nat} {t : Sl} {us : List PyData} {b : Addr}, i ≠ j → σ[j]? = some (some (.ref b)) → G1[j]? = some t → t.held = some us → b ≠ u := fun {j t us b} n k1 k2 k3 e => by
      subst e
      exact n (E1.dj i j s t cs us b r0.1 k1 g1 k2 g2 k3)
    have hi : i < G1.length := (List.getElem?_eq_some_iff.mp g1).1
    have kk : Keep O H1 O H' := ⟨fun b o e n => k b o e fun z => n (by rw [z]; exact hu), fun b m => .inl m⟩
    have E2 : Env X.K C O H' σ (G1.set i (s.put cs')) := by
      refine ⟨by simp [E1.len], fun j t e => ?_, fun j k t t' us us' b a1 a2 a3 a4 a5 a6 => ?_, fun b m => ?_⟩
      · by_cases ej : i = j
        · subst ej
          rw [List.getElem?_set_self hi] at e
          cases e
          refine ⟨_, r0.1, ?_⟩
          cases s with
          | un => cases g2
          | imm d => cases g2
          | own _ => exact ⟨u, xs', rfl, hu, hH', ra'⟩
          | urn _ => exact ⟨u, xs', rfl, hu, hH', ra'⟩
        · rw [List.getElem?_set_ne ej] at e
          obtain ⟨o, b1, b2⟩ := E1.sl j t e
          refine ⟨o, b1, ?_⟩
          cases t with
          | un => trivial
          | imm d =>
            obtain ⟨w, c1, c2⟩ := b2
            exact ⟨w, c1, c2.keep kk E1.wo⟩
          | own us =>
            obtain ⟨b, ys, c1, c2, c3, c4⟩ := b2
            subst c1
            exact ⟨b, ys, rfl, c2, k _ _ c3 (ne ej b1 e rfl), c4.keep kk E1.wo⟩
          | urn us =>
            obtain ⟨b, ys, c1, c2, c3, c4⟩ := b2
            subst c1
            exact ⟨b, ys, rfl, c2, k _ _ c3 (ne ej b1 e rfl), c4.keep kk E1.wo⟩
      · have old : ∀ {l : Nat} {t : Sl} {us : List PyData}, (G1.set i (s.put cs'))[l]? = some t → t.held = some us → ∃ t' us', G1[l]? = some t' ∧ t'.held = some us' := fun {l t us} k1 k2 => by
          by_cases e : i = l
          · subst e
            exact ⟨s, cs, g1, g2⟩
          · rw [List.getElem?_set_ne e] at k1
            exact ⟨t, us, k1, k2⟩
        obtain ⟨t1, u1, b1, b2⟩ := old a3 a5
        obtain ⟨t2, u2, b3, b4⟩ := old a4 a6
        exact E1.dj j k t1 t2 u1 u2 b a1 a2 b1 b3 b2 b4
      · by_cases e : b = u
        · subst e
          exact ⟨xs', hH'⟩
        · obtain ⟨ys, e'⟩ := E1.wo b m
          exact ⟨ys, k _ _ e' e⟩
    have K2 : Kp σ G1 O H1 σ (G1.set i (s.put cs')) O H' := by
      refine ⟨fun b o e n => k b o e fun z => n (by rw [z]; exact ⟨i, s, cs, r0.1, g1, g2⟩), fun b m _ => m, fun b m => .inl m, fun b ⟨j, t, us, a1, a2, a3⟩ => .inl ?_, k2, fun j us e => ⟨rfl, ?_⟩⟩
      · by_cases e : i = j
        · subst e
          exact ⟨i, s, cs, a1, g1, g2⟩
        · rw [List.getElem?_set_ne e] at a2
          exact ⟨j, t, us, a1, a2, a3⟩
      · by_cases ej : i = j
        · subst ej
          rw [g1] at e
          cases e
          exact ⟨cs', List.getElem?_set_self hi⟩
        · exact ⟨us, by rw [List.getElem?_set_ne ej]; exact e⟩
    exact q v (.d d) _ H' E2 ((K1.trans K2 E)) r (z d cs' hpost)
end

/-! ### a def keeps its promise -/
section
variable {P : Program} {w : World} {K : PySem.W.Frag} {mg : Str → Option Value} {base : Heap} {C : Addr}
/-- a def of the text as the top leaves it -/
structure At (K : PySem.W.Frag) (mg : Str → Option Value) (x : Str) (st : Stmt) : Prop where
  ex : ∃ f fd, Fun K x x st f fd ∧ mg x = some (.ref f)
/-- the context of a def's body -/
abbrev bX (P : Program) (w : World) (K : PySem.W.Frag) (mg : Str → Option Value) (base : Heap) (N : List Str) (x : Str) (st : Stmt) (f : Addr) (cdv : Value) (A : Around) (outer : List PySem.Env) (s : Shared) (H : Hp) (E : XK) : Cx := (cxOf CX0 P w K mg base N x (defScope st) f cdv A outer s H E).nox
theorem env_start {N : List Str} {O : List Addr} {H : Hp} {vs : List V} {ds : List PyData} (w : Own O H) (r : RepAll K C O H vs ds) (hl : ds.length ≤ N.length) : Env K C O H (L2.start N vs) (ds.map Sl.imm ++ List.replicate (N.length - ds.length) .un) := by
  have hv := r.1
  refine ⟨?_, fun i s h => ?_, fun i j s t ds1 es a h1 h2 h3 h4 h5 h6 => ?_, w⟩
  · unfold L2.start
    simp [hv]
  · by_cases hi : i < ds.length
    · rw [List.getElem?_append_left (by simpa using hi), List.getElem?_map, List.getElem?_eq_getElem hi] at h
      cases h
      have hi' : i < vs.length := by omega
      refine ⟨some vs[i], ?_, vs[i], rfl, r.2 i _ _ (List.getElem?_eq_getElem hi') (List.getElem?_eq_getElem hi)⟩
      unfold L2.start
      rw [List.getElem?_append_left (by simpa using hi'), List.getElem?_map, List.getElem?_eq_getElem hi']
      rfl
    · rw [List.getElem?_append_right (by simpa using hi), List.getElem?_replicate] at h
      split at h
      · cases h
        rename_i hh
        have : i < (L2.start N vs).length := by
          unfold L2.start
          simp at hh ⊢
          omega
        exact ⟨_, List.getElem?_eq_getElem this, trivial⟩
      · cases h
  · exfalso
    by_cases hi : i < ds.length
    · rw [List.getElem?_append_left (by simpa using hi), List.getElem?_map, List.getElem?_eq_getElem hi] at h3
      cases h3
      cases h5
    · rw [List.getElem?_append_right (by simpa using hi), List.getElem?_replicate] at h3
      split at h3 <;> cases h3
      cases h5
theorem no_ow {ds : List PyData} {n : Nat} {σ : L2.St} {a : Addr} : ¬ Ow σ (ds.map Sl.imm ++ List.replicate n .un) a := fun ⟨i, s, us, _, h, hs⟩ => by
  by_cases hi : i < ds.length
  · rw [List.getElem?_append_left (by simpa using hi), List.getElem?_map, List.getElem?_eq_getElem hi] at h
    cases h
    cases hs
  · rw [List.getElem?_append_right (by simpa using hi), List.getElem?_replicate] at h
    split at h <;> cases h
    cases hs
theorem kn_P {x : Str} {st : Stmt} {N ps : List Str} {n : Nat} {pre : List PyData → Prop} {post : List PyData → PyData → Prop} (A : At K mg x st) (S : FnScope N ps (defScope st)) (hpre : ∀ ds, pre ds → ds.length = ps.length) (hb : ∀ f fd, Fun K x x st f fd → Binds K fd ps [])
    (body : ∀ (f : Addr) (cdv : Value) (A : Around) (outer : List PySem.Env) (s : Shared) (H : Hp) (E : XK) (ds : List PyData), Room n (A.deeper (envOfC x (defScope st) s.heap.objs.size f cdv)) → pre ds →
      SS C (bX P w K mg base N x st f cdv A outer s H E) (defBody st) (ds.map Sl.imm ++ List.replicate (N.length - ds.length) .un) { N := fun _ => post ds .none, R := fun d _ => post ds d }) :
    Kn P w K mg base (n + 1) x ps (spP K C pre post) := by
  obtain ⟨f, fd, F, hm⟩ := A.ex
  refine ⟨f, fd, F.ok S (fun vs H Q E ⟨O, ds, _, r, hp, _⟩ => by rw [r.1]; exact hpre ds hp) (fun cdv A outer s H vs Q E hr ⟨O, ds, ow, r, hp, k⟩ => ⟨_, pss_W (defBody st), ?_⟩), hm, F.kp, hb f fd F⟩
  have hpl : ps.length ≤ N.length := by
    have := congrArg List.length S.pre
    rw [List.length_take] at this
    omega
  have E0 := env_start (N := N) ow r (by rw [hpre ds hp]; exact hpl)
  refine body f cdv A outer s H E ds hr hp O (L2.start N vs) H E0 _ (fun O' σ' G' H' E' K' z => ?_) (fun O' σ' v d G' H' E' K' rv z => ?_) (fun _ _ _ _ _ _ z => z.elim) (fun _ _ _ _ _ _ z => z.elim)
  · exact k .non H' .none (fun a o e => K'.obj a o e no_ow) z .non
  · exact k v H' d (fun a o e => K'.obj a o e no_ow) z (rv.less fun a m => K'.stay a m no_ow)
end
end DL
/-! DL8: zip of any two rows, enumerate of a tuple. -/
namespace DL
open PySem PySem.Spec PyProof.Rows L2

/-! ### rows of either kind: true a tuple, false a list -/
def SqB (k : Bool) (K : PySem.W.Frag) (H : Hp) (a : Addr) (xs : List V) : Prop := if k = true then SqT K H a xs else SqL K H a xs
def RwB (k : Bool) (h : Heap) (a : Addr) (its : Array Value) : Prop := if k = true then h.IsTuple a its else h.IsList a its
def InB (k : Bool) (h : Heap) (i a : Addr) (n : Nat) : Prop := if k = true then h.IsTupleIter i a n else h.IsListIter i a n
def obB (k : Bool) (a : Addr) : Obj := if k = true then { cls := .type "tuple_iterator", data := .fields #[.ref a, .int 0 0] } else { cls := .type "list_iterator", data := .fields #[.ref a, .int 0 0] }
section
variable {X : Cx} {pins : List (Addr × Obj)} {σ : L2.St} {H : Hp} {s : Shared} {k : Bool} {a b i : Addr} {xs ys : List V} {its : Array Value} {n : Nat}
theorem inv_rowB (I : Inv X pins σ H s) (h : SqB k X.K H a xs) : ∃ its : List Value, Vals xs its ∧ RwB k s.heap a its.toArray ∧ a < s.heap.objs.size ∧ xs.length ≤ sizeLine := by
  cases k with
  | true =>
    obtain ⟨its, r, p, z⟩ := I.tuple (show SqT X.K H a xs from h)
    obtain ⟨o, e, _⟩ := id p
    exact ⟨its, r, p, Heap.lt_size e, z⟩
  | false =>
    obtain ⟨its, r, p, z⟩ := I.list (show SqL X.K H a xs from h)
    exact ⟨its, r, p.isList, p.lt, z⟩
theorem inv_rowB_inj (I : Inv X pins σ H s) (h : SqB k X.K H a xs) (h' : SqB k X.K H a ys) : xs = ys := by
  cases k with
  | true => exact I.tuple_inj h h'
  | false => exact I.list_inj h h'
theorem drawsB {prog : Program} {w : World} {A : Around} (hh : A.handled = none) (k : Bool) (it t : Addr) (hne : t ≠ it) (items : Array Value) :
    Draws prog w A it [it, t] items.size (fun i v => items[i]? = some v) (fun i h => InB k h it t i ∧ RwB k h t items) := by
  cases k with
  | true => exact Draws.tuple hh it t hne items
  | false => exact Draws.list hh it t hne items
theorem begB (k : Bool) (t : Addr) (items : Array Value) : Begins (.ref t) (obB k t) fun h => RwB k h t items := by
  cases k with
  | true => exact begins_tuple t items
  | false => exact begins_list t items
theorem InB.at {h h' : Heap} (q : InB k h i a n) (e : ∀ o, h.get? i = some o → h'.get? i = some o) : InB k h' i a n := by
  cases k with
  | true => exact Heap.IsTupleIter.at q e
  | false => exact Heap.IsListIter.at q e
theorem InB.obj {h : Heap} (q : InB k h i a n) : ∃ o, h.get? i = some o ∧ ∀ v, o.data ≠ .cell v := by
  cases k with
  | true =>
    obtain ⟨o, e, _, d⟩ := q
    exact ⟨o, e, fun v z => by rw [d] at z; cases z⟩
  | false =>
    obtain ⟨o, e, _, d⟩ := q
    exact ⟨o, e, fun v z => by rw [d] at z; cases z⟩
theorem InB.new {h : Heap} (e : h.get? i = some (obB k a)) : InB k h i a 0 := by
  cases k with
  | true => exact ⟨_, e, rfl, rfl⟩
  | false => exact ⟨_, e, rfl, rfl⟩
end

/-- the rows at a and b as they stand at each turn, the items in new pairs -/
def ItzB (k l : Bool) (K : PySem.W.Frag) (a b : Addr) : It :=
  ⟨fun i H => ∃ (xs ys : List V) (x y : V), SqB k K H a xs ∧ SqB l K H b ys ∧ xs[i]? = some x ∧ ys[i]? = some y,
    fun i H v H' => ∃ T x y, v = .ref T ∧ H T = none ∧ H' = upd H T (.tup [x, y]) ∧ (∀ xs, SqB k K H a xs → xs[i]? = some x) ∧ ∀ ys, SqB l K H b ys → ys[i]? = some y,
    fun i H => ∃ xs ys : List V, SqB k K H a xs ∧ SqB l K H b ys ∧ i ≤ xs.length ∧ i ≤ ys.length ∧ (xs.length ≤ i ∨ ys.length ≤ i)⟩
theorem turn_zipB {P : Program} {w : World} {K : PySem.W.Frag} {elts : List Expr} {kk : Nat} {tpos : Pos} {k l : Bool} {a b z TI TO i1 i2 : Addr} (S : ZipSep2 z TI TO i1 i2 [i1, a] [i2, b]) (ha : a ≠ i1) (hb : b ≠ i2) :
    Turn P w K (.Tuple elts kk tpos) (ItzB k l K a b) [z, TI, TO, i1, i2] z (fun i h => IsZip h z TI TO .none ∧ IsPair h TI (.ref i1) (.ref i2) ∧ (∃ x y, IsPair h TO x y) ∧ InB k h i1 a i ∧ InB l h i2 b i) where
  mem := by simp
  obj := fun i h st c hc => by
    obtain ⟨hz, hTI, ⟨x, y, hTO⟩, h1, h2⟩ := st
    have e' : c = z ∨ c = TI ∨ c = TO ∨ c = i1 ∨ c = i2 := by simpa using hc
    rcases e' with q | q | q | q | q
    · rw [q]; exact ⟨_, hz, fun v q => nomatch q⟩
    · rw [q]; exact ⟨_, hTI, fun v q => nomatch q⟩
    · rw [q]; exact ⟨_, hTO, fun v q => nomatch q⟩
    · rw [q]; exact h1.obj
    · rw [q]; exact h2.obj
  keep := fun i h h' st k => by
    obtain ⟨hz, hTI, ⟨x, y, hTO⟩, h1, h2⟩ := st
    exact ⟨k z (by simp) _ hz, k TI (by simp) _ hTI, ⟨x, y, k TO (by simp) _ hTO⟩, h1.at fun o q => k i1 (by simp) o q, h2.at fun o q => k i2 (by simp) o q⟩
  item := by
    intro X hP hw hK hc i pins s σ H E I hf st hg
    subst hP hw hK
    obtain ⟨hz, hTI, ⟨x0, y0, hTO⟩, h1, h2⟩ := st
    obtain ⟨xs, ys, x, y, hqx, hqy, hx, hy⟩ := hg
    obtain ⟨its, rv, p, _⟩ := inv_rowB I hqx
    obtain ⟨its2, rv2, p2, _⟩ := inv_rowB I hqy
    obtain ⟨u, hu, ru⟩ := rv.get hx
    obtain ⟨u2, hu2, ru2⟩ := rv2.get hy
    have hzl : z < s.heap.objs.size := Heap.lt_size hz
    have hh : X.A.in1.handled = none := I.ok.hd hc
    have l1 : i < its.toArray.size := by
      have := (List.getElem?_eq_some_iff.mp hu).1
      simpa using this
    have l2 : i < its2.toArray.size := by
      have := (List.getElem?_eq_some_iff.mp hu2).1
      simpa using this
    refine wpAny_pyNext_zipD2_item S (drawsB hh k i1 a ha its.toArray) (drawsB hh l i2 b hb its2.toArray) hz hTI hTO ⟨h1, p⟩ ⟨h2, p2⟩ l1 l2 fun v1 v2 h' tk P1 P2 z' TO' h1' h2' hT hsz hk => ?_
    have e1 : v1 = u := by
      have := P1
      simp at this
      rw [hu] at this
      cases this
      rfl
    have e2 : v2 = u2 := by
      have := P2
      simp at this
      rw [hu2] at this
      cases this
      rfl
    subst e1 e2
    refine ⟨_, rfl, wpAny_letOwnedTupleGo_zip (s := { s with heap := h', toks := tk }) z' fun h'' z'' sb => ?_⟩
    have hT2 : h''.get? s.heap.objs.size = some { cls := .type "tuple", data := .seq #[v1, v2] } := (sb.2 _ (Nat.ne_of_gt hzl)).trans hT
    have new : ObjOk X.prog X.w (upd H s.heap.objs.size (.tup [x, y])) h'' s.heap.objs.size (.tup [x, y]) :=
      ⟨by show 2 ≤ sizeLine; decide, [v1, v2], .cons ru (.cons ru2 .nil), ⟨_, hT2, rfl, _, rfl⟩⟩
    have I1 : Inv X pins σ (upd H s.heap.objs.size (.tup [x, y])) { s with heap := h'', toks := tk } :=
      I.turnedNew (t' := tk) (ch := [z, TI, TO, i1, i2]) (fun c o hb q => (sb.2 c (fun q' => hb (by simp [q']))).trans (hk c o (fun q' => hb (by simp [q'])) (fun q' => hb (by simp [q'])) (fun q' => hb (by simp [q'])) (fun q' => hb (by simp [q'])) q)) hf (Nat.le_refl _) new
    refine ⟨.ref s.heap.objs.size, _, I1, rfl, ⟨_, x, y, rfl, I.hok.fresh (Nat.le_refl _), rfl, fun l hl => by rw [inv_rowB_inj I hl hqx]; exact hx, fun l hl => by rw [inv_rowB_inj I hl hqy]; exact hy⟩, ⟨z'', ?_, ⟨v1, v2, ?_⟩, ?_, ?_⟩, fun c hcm => ?_⟩
    · exact (sb.2 _ S.TIz).trans (hk _ _ S.TIz S.TITO S.TIi1 S.TIi2 hTI)
    · exact (sb.2 _ S.TOz).trans TO'
    · exact h1'.1.at fun o q => (sb.2 _ S.zi1.symm).trans q
    · exact h2'.1.at fun o q => (sb.2 _ S.zi2.symm).trans q
    · have hlt : c < s.heap.objs.size := by
        have e' : c = z ∨ c = TI ∨ c = TO ∨ c = i1 ∨ c = i2 := by simpa using hcm
        rcases e' with q | q | q | q | q
        · rw [q]; exact hzl
        · rw [q]; exact Heap.lt_size hTI
        · rw [q]; exact Heap.lt_size hTO
        · rw [q]; obtain ⟨_, e1, _⟩ := h1.obj; exact Heap.lt_size e1
        · rw [q]; obtain ⟨_, e2, _⟩ := h2.obj; exact Heap.lt_size e2
      rw [upd_ne (Nat.ne_of_lt hlt)]
      exact (hf c hcm).1
  done := by
    intro X hP hw hK hc i pins s σ H E I hf st hg
    subst hP hw hK
    obtain ⟨hz, hTI, ⟨x0, y0, hTO⟩, h1, h2⟩ := st
    obtain ⟨xs, ys, hqx, hqy, le1, le2, hend⟩ := hg
    obtain ⟨its, rv, p, _⟩ := inv_rowB I hqx
    obtain ⟨its2, rv2, p2, _⟩ := inv_rowB I hqy
    have l1 := rv.length
    have l2 := rv2.length
    have hh : X.A.in1.handled = none := I.ok.hd hc
    refine wpAny_pyNext_zipD2_end S (drawsB hh k i1 a ha its.toArray) (drawsB hh l i2 b hb its2.toArray) hz hTI hTO ⟨h1, p⟩ ⟨h2, p2⟩ (by simp; omega) (by simp; omega) (by simp; omega) fun h' tk hk => ⟨rfl, I.turnedL (t' := tk) (ch := [z, TI, TO, i1, i2]) (fun c o hb q =>
      hk c o (fun q' => hb (by simp [q'])) (fun q' => hb (by simp [q'])) (fun q' => hb (by simp [q'])) (fun q' => hb (by simp [q'])) q) hf⟩
  self := fun A i s Q E st h => wpAny_pyIter_zip st.1 h

def iZipB (k l : Bool) (K : PySem.W.Frag) (ta : TA) : TI := fun σ H R => ta σ H fun vs H1 => ∃ a b xs ys, vs = [.ref a, .ref b] ∧ SqB k K H1 a xs ∧ SqB l K H1 b ys ∧ R (ItzB k l K a b) H1
theorem pi_zipB {X : Cx} {e e2 : Expr} {ta : TA} {p pos tpos : Pos} {elts : List Expr} {kk : Nat} (k l : Bool) (hg : Gl X "zip") (hm : X.mg "zip" = none) (ha : PA X [e, e2] ta)
    (hs : starEach [e, e2] X.env = (false, eval e X.env) :: starEach [e2] X.env := by rfl) (hpl : (backTo pos (starEach [e2] X.env)).any (·.1) = false := by rfl) :
    PI X (.Tuple elts kk tpos) (.Call (.Name "zip" p) [e, e2] [] pos) (iZipB k l X.K ta) := by
  refine ⟨fun pins s σ H R I h => ?_⟩
  refine Call_ (ld_blt I hg hm PyProof.Rows.boot_zip (PyProof.Rows.callWith_type1 (thn (ha.run pos pins s σ H _ I h) fun us s1 ⟨vs, H1, I1, r1, q1⟩ => ?_) hs hpl))
  obtain ⟨a, b, xs, ys, ex, hqx, hqy, q⟩ := q1
  subst ex
  cases r1 with
  | cons r rr =>
    cases rr with
    | cons r' rr =>
      cases rr
      cases r
      cases r'
      have fresh5 : ∀ c, c ∈ [s1.heap.objs.size + 4, s1.heap.objs.size + 2, s1.heap.objs.size + 3, s1.heap.objs.size, s1.heap.objs.size + 1] → FpOk X pins H1 c := fun c hcm => by
        have e' : c = s1.heap.objs.size + 4 ∨ c = s1.heap.objs.size + 2 ∨ c = s1.heap.objs.size + 3 ∨ c = s1.heap.objs.size ∨ c = s1.heap.objs.size + 1 := by simpa using hcm
        have hle : s1.heap.objs.size ≤ c := by
          rcases e' with z | z | z | z | z
          · rw [z]; exact Nat.le_add_right _ _
          · rw [z]; exact Nat.le_add_right _ _
          · rw [z]; exact Nat.le_add_right _ _
          · rw [z]; exact Nat.le_refl _
          · rw [z]; exact Nat.le_add_right _ _
        exact I1.fpOk hle (I1.hok.fresh hle)
      obtain ⟨its, rv, p1, lt1, _⟩ := inv_rowB I1 hqx
      obtain ⟨its2, rv2, p2, lt2, _⟩ := inv_rowB I1 hqy
      refine zip_begins2 (begB k a its.toArray) (begB l b its2.toArray) p1 p2 fun h' hz hTI hTO h1 h2 hsz hk => wpAny_pyIter_zip hz ?_
      have I2 : Inv X pins σ H1 { s1 with heap := h' } := I1.kept (t' := s1.toks) hk
      have S := zip_sep2 (N := s1.heap.objs.size) (fp1 := [a]) (fp2 := [b]) (fun c hc => by
        have : c = a := by simpa using hc
        subst this
        exact lt1) (fun c hc => by
        have : c = b := by simpa using hc
        subst this
        exact lt2)
      exact ⟨s1.heap.objs.size + 4, [s1.heap.objs.size + 4, s1.heap.objs.size + 2, s1.heap.objs.size + 3, s1.heap.objs.size, s1.heap.objs.size + 1], _, _, H1, rfl, I2, turn_zipB S (Nat.ne_of_lt lt1) (Nat.ne_of_lt (Nat.lt_succ_of_lt lt2)), ⟨hz, hTI, ⟨_, _, hTO⟩, .new h1, .new h2⟩, fresh5, q⟩
theorem walk_zipB {K : PySem.W.Frag} {k l : Bool} {a b : Addr} {xs ys : List V} {n : Nat} (hn : n = min xs.length ys.length) : Walk (ItzB k l K a b) n (fun H => SqB k K H a xs ∧ SqB l K H b ys) (YPair (fun i => xs[i]?) (fun i => ys[i]?)) := by
  subst hn
  refine ⟨fun i _ hi q => ?_, fun _ q => ⟨xs, ys, q.1, q.2, by omega, by omega, by omega⟩, fun i H v H' _ q y => ?_⟩
  · have h1 : i < xs.length := by omega
    have h2 : i < ys.length := by omega
    exact ⟨xs, ys, xs[i], ys[i], q.1, q.2, by simp [h1], by simp [h2]⟩
  · obtain ⟨T, x, z, h1, h2, h3, h4, h5⟩ := y
    exact ⟨T, x, z, h1, h2, h3, h4 xs q.1, h5 ys q.2⟩

/-! ### enumerate of a tuple -/
def IteT (K : PySem.W.Frag) (a : Addr) : It :=
  ⟨fun i H => ∃ (xs : List V) (x : V), SqT K H a xs ∧ xs[i]? = some x, fun i H v H' => ∃ T x, v = .ref T ∧ H T = none ∧ H' = upd H T (.tup [.int (i : Nat), x]) ∧ ∀ xs, SqT K H a xs → xs[i]? = some x, fun i H => ∃ xs : List V, SqT K H a xs ∧ xs.length = i⟩
theorem turn_enumT {P : Program} {w : World} {K : PySem.W.Frag} {elts : List Expr} {kk : Nat} {tpos : Pos} (a e it : Addr) (hne0 : a ≠ it) (hea : e ≠ a) :
    Turn P w K (.Tuple elts kk tpos) (IteT K a) [e, it] e (fun i h => (∃ old, IsEnum h e it ((i : Nat) : Int) old) ∧ h.IsTupleIter it a i ∧ e ≠ it) where
  mem := by simp
  obj := fun i h st b hb => by
    obtain ⟨⟨old, he⟩, ⟨o, ho, hc, hd⟩, _⟩ := st
    have e' : b = e ∨ b = it := by simpa using hb
    rcases e' with z | z
    · rw [z]; exact ⟨_, he, fun v q => nomatch q⟩
    · rw [z]; exact ⟨o, ho, fun v q => by rw [hd] at q; cases q⟩
  keep := fun i h h' st k => let ⟨⟨old, he⟩, hi, hne⟩ := st; ⟨⟨old, k e (by simp) _ he⟩, hi.at fun o q => k it (by simp) o q, hne⟩
  item := by
    intro X hP hw hK hc i pins s σ H E I hf st hg
    subst hP hw hK
    obtain ⟨⟨old, he⟩, hit, hne⟩ := st
    obtain ⟨xs, x, hq, hx⟩ := hg
    obtain ⟨its, rv, p, hz⟩ := I.tuple hq
    obtain ⟨u, hu, ru⟩ := rv.get hx
    have hel : e < s.heap.objs.size := Heap.lt_size he
    have hil : it < s.heap.objs.size := by obtain ⟨_, q, _⟩ := hit; exact Heap.lt_size q
    have hh : X.A.in1.handled = none := I.ok.hd hc
    have l1 : i < its.toArray.size := by
      have := (List.getElem?_eq_some_iff.mp hu).1
      simpa using this
    refine wpAny_pyNext_enum_itemD (Draws.tuple hh it a hne0 its.toArray) he ⟨hit, p⟩ l1 hne (by simp [hne, hea]) fun v h' tk P1 ho hit' hT hsz hk => ?_
    have e1 : v = u := by
      have := P1
      simp at this
      rw [hu] at this
      cases this
      rfl
    subst e1
    refine ⟨_, rfl, wpAny_letOwnedTupleGo_enum (s := { s with heap := h', toks := tk + 1 }) ho fun h'' he' sb => ?_⟩
    have hT2 : h''.get? s.heap.objs.size = some { cls := .type "tuple", data := .seq #[.int i tk, v] } := (sb.2 _ (Nat.ne_of_gt hel)).trans hT
    have new : ObjOk X.prog X.w (upd H s.heap.objs.size (.tup [.int (i : Nat), x])) h'' s.heap.objs.size (.tup [.int (i : Nat), x]) :=
      ⟨by show 2 ≤ sizeLine; decide, [.int i tk, v], .cons ⟨_, rfl⟩ (.cons ru .nil), ⟨_, hT2, rfl, _, rfl⟩⟩
    have I1 : Inv X pins σ (upd H s.heap.objs.size (.tup [.int (i : Nat), x])) { s with heap := h'', toks := tk + 1 } :=
      I.turnedNew (t' := tk + 1) (ch := [e, it]) (fun b ob hb q => (sb.2 b (fun z => hb (by simp [z]))).trans (hk b ob (fun z => hb (by simp [z])) (fun z => hb (by simp [z])) q)) hf (Nat.le_refl _) new
    refine ⟨.ref s.heap.objs.size, _, I1, rfl, ⟨_, x, rfl, I.hok.fresh (Nat.le_refl _), rfl, fun ys hy => by rw [I.tuple_inj hy hq]; exact hx⟩, ⟨⟨v, ?_⟩, hit'.1.at fun o q => (sb.2 it (Ne.symm hne)).trans q, hne⟩, fun b hb => ?_⟩
    · have e1 : ((i + 1 : Nat) : Int) = (i : Int) + 1 := by omega
      rw [e1]; exact he'
    · have hb' : b < s.heap.objs.size := by
        have e' : b = e ∨ b = it := by simpa using hb
        rcases e' with z | z
        · rw [z]; exact hel
        · rw [z]; exact hil
      rw [upd_ne (Nat.ne_of_lt hb')]
      exact (hf b hb).1
  done := by
    intro X hP hw hK hc i pins s σ H E I hf st hg
    subst hP hw hK
    obtain ⟨⟨old, he⟩, hit, hne⟩ := st
    obtain ⟨xs, hq, hx⟩ := hg
    obtain ⟨its, rv, p, hz⟩ := I.tuple hq
    obtain ⟨f0, f1, f2, f3, f4, f5⟩ := hf it (by simp)
    have hl := rv.length
    have hh : X.A.in1.handled = none := I.ok.hd hc
    have e2 : its.toArray.size = i := by simp; omega
    refine wpAny_pyNext_enum_endD (Draws.tuple hh it a hne0 its.toArray) he (by rw [e2]; exact ⟨hit, p⟩) fun h' eb => ⟨rfl, I.turned (t' := s.toks) (fun b o hb q => eb b o hb q) f0 f1 f3 f4 f5⟩
  self := fun A i s Q E st h => let ⟨⟨_, he⟩, _⟩ := st; wpAny_pyIter_enum he h
theorem meets_enumerate_newT (l : Addr) (items : Array Value) :
    Meets (Builtin.«enumerate.__new__» ⟨[.type "enumerate", .ref l], []⟩) (fun _ R s => s.heap.IsTuple l items ∧
      R (.ok (.ret (.ref (s.heap.push { cls := .type "tuple_iterator", data := .fields #[.ref l, .int 0 0] }).objs.size)))
        { s with heap := (s.heap.push { cls := .type "tuple_iterator", data := .fields #[.ref l, .int 0 0] }).push { cls := .type "enumerate", data := .fields #[.none, .bool false, .ref s.heap.objs.size, rawInt 0, .none, .none] } }) :=
  .of_wp fun prog w A R s h => by
    obtain ⟨hp, g, d, tk, os⟩ := s; obtain ⟨hl, h⟩ := h
    have hsub := sub_enumerate
    have q1 : ∀ {A' : Around} {E : Value → Shared → Prop} {Q : Value → Shared → Prop}, Q (.ref hp.objs.size) ⟨(hp.push { cls := .type "tuple_iterator", data := .fields #[.ref l, .int 0 0] }), g, d, tk, os⟩ → wpAny (model prog w) A' (pyIter (.ref l)) Q E ⟨hp, g, d, tk, os⟩ :=
      fun q => wpAny_pyIter_tuple hl q
    wp_walk
    refine wpAny_stack_any fun st => wpAny_pure ?_
    split
    · rename_i c _ _ _ _ _
      cases (c == Value.type "enumerate")
      · wp_walk using q1
        exact ⟨_, rfl, h⟩
      · wp_walk using q1
        exact ⟨_, rfl, h⟩
    · wp_walk using q1
      exact ⟨_, rfl, h⟩

section
variable {prog : Program} {w : World} {A : Around} {E : Value → Shared → Prop} {s : Shared}
theorem call_enumerate_tuple {l : Addr} {items : Array Value} {Q : Value → Shared → Prop} (hL : s.heap.IsTuple l items)
    (h : ∀ h', IsEnum h' (s.heap.objs.size + 1) s.heap.objs.size 0 .none → h'.IsTupleIter s.heap.objs.size l 0 → h'.objs.size = s.heap.objs.size + 2 →
      (∀ b o, s.heap.get? b = some o → h'.get? b = some o) → Q (.ref (s.heap.objs.size + 1)) { s with heap := h' }) :
    wpAny (model prog w) A (call (.type "enumerate") [.ref l]) Q E s := by
  refine callType_new F.called_enumerate (by decide) (F.typeCall_enumerate_1 _) (F.newCall_enumerate_1 _) (fun obj => F.args_object_init_2 obj _) F.entry_enumerate_new
    (meets_enumerate_newT l items) ⟨hL, ?_⟩
  have hz : (s.heap.push { cls := .type "tuple_iterator", data := .fields #[.ref l, .int 0 0] }).objs.size = s.heap.objs.size + 1 := Heap.size_push ..
  show _ ∧ _
  rw [hz]
  have he : IsEnum ((s.heap.push { cls := .type "tuple_iterator", data := .fields #[.ref l, .int 0 0] }).push
      { cls := .type "enumerate", data := .fields #[.none, .bool false, .ref s.heap.objs.size, rawInt 0, .none, .none] }) (s.heap.objs.size + 1) s.heap.objs.size 0 .none := by
    have := Heap.get?_push_size (s.heap.push { cls := .type "tuple_iterator", data := .fields #[.ref l, .int 0 0] })
      (o := { cls := .type "enumerate", data := .fields #[.none, .bool false, .ref s.heap.objs.size, rawInt 0, .none, .none] }) rfl
    rw [hz] at this; exact this
  refine ⟨⟨_, he, rfl⟩, h _ he ⟨_, Heap.get?_push_of_some _ (Heap.get?_push_size _ rfl), rfl, rfl⟩ (by rw [Heap.size_push, hz]) fun b o x => Heap.get?_push_of_some _ (Heap.get?_push_of_some _ x)⟩
end
def iEnumT (K : PySem.W.Frag) (ta : TA) : TI := fun σ H R => ta σ H fun vs H1 => ∃ a xs, vs = [.ref a] ∧ SqT K H1 a xs ∧ R (IteT K a) H1
theorem pi_enumT {X : Cx} {e : Expr} {ta : TA} {p pos tpos : Pos} {elts : List Expr} {kk : Nat} (hg : Gl X "enumerate") (hm : X.mg "enumerate" = none) (ha : PA X [e] ta) (hs : starEach [e] X.env = [(false, eval e X.env)] := by rfl) :
    PI X (.Tuple elts kk tpos) (.Call (.Name "enumerate" p) [e] [] pos) (iEnumT X.K ta) := by
  refine ⟨fun pins s σ H R I h => ?_⟩
  refine Call_ (ld_blt I hg hm boot_enumerate (PyProof.Rows.callWith_type1 (thn (ha.run pos pins s σ H _ I h) fun us s1 ⟨vs, H1, I1, r1, q1⟩ => ?_) hs rfl))
  obtain ⟨a, xs, ex, hq, q⟩ := q1
  subst ex
  cases r1 with
  | cons r rr =>
    cases rr
    cases r
    obtain ⟨its, rv, p', hz⟩ := I1.tuple hq
    have hlt : a < s1.heap.objs.size := by obtain ⟨_, q, _⟩ := id p'; exact Heap.lt_size q
    refine call_enumerate_tuple p' fun h' he hit hsz hk => wpAny_pyIter_enum he ?_
    have I2 : Inv X pins σ H1 { s1 with heap := h' } := I1.kept (t' := s1.toks) hk
    refine ⟨s1.heap.objs.size + 1, [s1.heap.objs.size + 1, s1.heap.objs.size], _, _, H1, rfl, I2, turn_enumT a (s1.heap.objs.size + 1) s1.heap.objs.size (Nat.ne_of_lt hlt) (Nat.ne_of_gt (Nat.lt_succ_of_lt hlt)), ⟨⟨.none, he⟩, hit, Nat.succ_ne_self _⟩, fun b hb => ?_, q⟩
    have e' : b = s1.heap.objs.size + 1 ∨ b = s1.heap.objs.size := by simpa using hb
    have hle : s1.heap.objs.size ≤ b := by
      rcases e' with z | z
      · rw [z]; exact Nat.le_add_right _ _
      · rw [z]; exact Nat.le_refl _
    exact I1.fpOk hle (I1.hok.fresh hle)
theorem walk_enumT {K : PySem.W.Frag} {a : Addr} {xs : List V} : Walk (IteT K a) xs.length (fun H => SqT K H a xs) (YPair (fun i => some (.int (i : Nat))) (fun i => xs[i]?)) := by
  refine ⟨fun i _ hi q => ⟨xs, xs[i], q, by simp [hi]⟩, fun _ q => ⟨xs, q, rfl⟩, fun i H v H' _ q y => ?_⟩
  obtain ⟨T, x, h1, h2, h3, h4⟩ := y
  exact ⟨T, .int (i : Nat), x, h1, h2, h3, rfl, h4 xs q⟩
end DL
/-! DL9: more rules. -/
namespace DL
open PySem PySem.Spec PyProof.Rows L2

section
variable {C : Addr} {X : Cx} {G G' : Ga} {T : Es} {Q : Vl → Ga → Prop} {O O' : List Addr} {σ σ' : L2.St} {H H' : Hp} {Q' : VK}
variable {x y z : Str} {pos pos' p p2 p3 pt pa pb pc apos cpos : Pos} {a b e c e2 tg iter elt : Expr} {es : List Expr} {st : Stmt} {rest body b1 b2 : List Stmt} {scope : Scope}

/-! ### a ≤ b ≤ c -/
theorem ef_ch (h : Ef C X a G fun v1 G1 => ∃ i, v1 = .d (.int i) ∧ Ef C X b G1 fun v2 G2 => ∃ j, v2 = .d (.int j) ∧ (¬ i ≤ j → Q (.d (.bool false)) G2) ∧
      (i ≤ j → Ef C X c G2 fun v3 G3 => ∃ k, v3 = .d (.int k) ∧ Q (.d (.bool (decide (j ≤ k)))) G3))
    (hm : lastMarks [.LtE, .LtE] [b, c] = false := by with_unfolding_all rfl) : Ef C X (.Compare a [.LtE, .LtE] [b, c] pos) G Q := by
  intro O σ H E Q' q
  refine tW_of (pe_chain op_le op_le (pe_W a) (pe_W b) (pe_W c) hm) ?_
  refine h O σ H E _ fun v1 vl1 G1 H1 E1 K1 R1 ⟨i, e1, h2⟩ => ?_
  subst e1
  refine h2 O σ H1 E1 _ fun v2 vl2 G2 H2 E2 K2 R2 ⟨j, e2, h0, h3⟩ => ?_
  subst e2
  refine ⟨i, j, Rep.int_inv R1, Rep.int_inv R2, decide (i ≤ j), rfl, ?_⟩
  have KK := K1.trans K2 E
  by_cases hij : i ≤ j
  · rw [if_pos (by simpa using hij)]
    refine h3 hij O σ H2 E2 _ fun v3 vl3 G3 H3 E3 K3 R3 ⟨k, e3, z⟩ => ?_
    subst e3
    exact ⟨j, k, Rep.int_inv R2, Rep.int_inv R3, Co.at (Co.step q E (KK.trans K3 E)) E3 (.bl _) z⟩
  · rw [if_neg (by simpa using hij)]
    exact Co.at (Co.step q E KK) E2 (.bl _) (h0 hij)
theorem et_ch {QT : Bool → Ga → Prop} (h : Ef C X a G fun v1 G1 => ∃ i, v1 = .d (.int i) ∧ Ef C X b G1 fun v2 G2 => ∃ j, v2 = .d (.int j) ∧ (¬ i ≤ j → QT false G2) ∧
      (i ≤ j → Ef C X c G2 fun v3 G3 => ∃ k, v3 = .d (.int k) ∧ QT (decide (j ≤ k)) G3))
    (hm : lastMarks [.LtE, .LtE] [b, c] = false := by with_unfolding_all rfl) : Et C X (.Compare a [.LtE, .LtE] [b, c] pos) G QT := by
  intro O σ H E Q' q
  refine tT_of (pt_chain op_le op_le (pe_W a) (pe_W b) (pe_W c) hm) ?_
  refine h O σ H E _ fun v1 vl1 G1 H1 E1 K1 R1 ⟨i, e1, h2⟩ => ?_
  subst e1
  refine h2 O σ H1 E1 _ fun v2 vl2 G2 H2 E2 K2 R2 ⟨j, e2, h0, h3⟩ => ?_
  subst e2
  refine ⟨i, j, Rep.int_inv R1, Rep.int_inv R2, decide (i ≤ j), rfl, ?_⟩
  have KK := K1.trans K2 E
  by_cases hij : i ≤ j
  · rw [if_pos (by simpa using hij)]
    refine h3 hij O σ H2 E2 _ fun v3 vl3 G3 H3 E3 K3 R3 ⟨k, e3, z⟩ => ?_
    subst e3
    exact ⟨j, k, Rep.int_inv R2, Rep.int_inv R3, _, rfl, q _ _ _ E3 (KK.trans K3 E) z⟩
  · rw [if_neg (by simpa using hij)]
    exact ⟨_, rfl, q _ _ _ E2 KK (h0 hij)⟩

/-! ### zip, enumerate, texts walked -/
def zipD (ds es : List PyData) : List PyData := (ds.zip es).map fun p => .tuple [p.1, p.2]
theorem zipD_len (ds es : List PyData) : (zipD ds es).length = min ds.length es.length := by simp [zipD]
theorem zipD_get {ds es : List PyData} {i : Nat} {d e : PyData} (h1 : ds[i]? = some d) (h2 : es[i]? = some e) : (zipD ds es)[i]? = some (.tuple [d, e]) := by
  unfold zipD
  rw [List.getElem?_map, List.getElem?_zip_eq_some (z := (d, e)) |>.mpr ⟨h1, h2⟩]
  rfl
/-- a row as data: true a tuple, false a list -/
def rowD (k : Bool) (ds : List PyData) : PyData := if k = true then .tuple ds else .list ds
theorem rowD_at {k : Bool} {ds : List PyData} {v : V} (r : Rep X.K C O H v (rowD k ds)) : ∃ a xs, v = .ref a ∧ SqB k X.K H a xs ∧ RepAll X.K C O H xs ds ∧ ∀ O' H', Own O H → Keep O H O' H' → SqB k X.K H' a xs := by
  cases k with
  | true =>
    obtain ⟨a, xs, e, h, ra⟩ := Rep.tup_inv r
    exact ⟨a, xs, e, h, ra, fun O' H' w kk => kk.sqT w h⟩
  | false =>
    obtain ⟨a, xs, e, h, ho, ra⟩ := Rep.lst_inv r
    exact ⟨a, xs, e, .inl (.inl h), ra, fun O' H' w kk => .inl (.inl (kk.obj _ _ h ho))⟩
theorem ei_zip (k l : Bool) (B : Bt X.mg) {elts : List Expr} {kk : Nat} {Q : List PyData → Ga → Prop} (h : Ef C X e G fun v1 G1 => ∃ ds, v1 = .d (rowD k ds) ∧ Ef C X e2 G1 fun v2 G2 => ∃ fs, v2 = .d (rowD l fs) ∧ Q (zipD ds fs) G2)
    (hg : Gl X "zip" := by rfl) (hs : starEach [e, e2] X.env = (false, eval e X.env) :: starEach [e2] X.env := by rfl) (hs2 : starEach [e2] X.env = (false, eval e2 X.env) :: starEach [] X.env := by rfl) (hpl : (backTo pos (starEach [e2] X.env)).any (·.1) = false := by rfl) :
    Ei C X (.Tuple elts kk pt) (.Call (.Name "zip" p) [e, e2] [] pos) G Q :=
  fun O σ H E R q => tI_of (pi_zipB k l hg B.zip (pa_cons (pe_W e) (pa_cons (pe_W e2) pa_nil hs2) hs) hs hpl) (h O σ H E _ fun v1 vl1 G1 H1 E1 K1 R1 ⟨ds, e1, h2⟩ => by
    subst e1
    refine h2 O σ H1 E1 _ fun v2 vl2 G2 H2 E2 K2 R2 ⟨fs, e2, z⟩ => ?_
    subst e2
    obtain ⟨a, xs, rfl, ha, ra, ka⟩ := rowD_at (Rep.keep (K2.keep E1) E1.wo R1)
    obtain ⟨b, ys, rfl, hb, rb, kb⟩ := rowD_at R2
    refine ⟨a, b, xs, ys, rfl, ha, hb, q _ (zipD ds fs) G2 H2 E2 (K1.trans K2 E) ⟨_, _, walk_zipB (xs := xs) (ys := ys) (by rw [zipD_len, ra.1, rb.1]), fun O' H' kk => ⟨ka O' H' E2.wo kk, kb O' H' E2.wo kk⟩, fun i H' v H3 O' hi kk w y => ?_⟩ z⟩
    obtain ⟨T, u, v', rfl, hT, rfl, hx, hy⟩ := y
    refine ⟨fun _ _ z => same_new hT _ _ z, ?_⟩
    obtain ⟨d1, g1, r1⟩ := ra.getV hx
    obtain ⟨d2, g2, r2⟩ := rb.getV hy
    refine ⟨_, zipD_get g1 g2, .tupAll (.inl (.inl upd_same)) (RepAll.keep (Keep.upd hT) w (.cons (r1.keep kk E2.wo) (.cons (r2.keep kk E2.wo) .nil)))⟩)
def enumD (ds : List PyData) : List PyData := zipD (rngD ds.length) ds
theorem enumD_len (ds : List PyData) : (enumD ds).length = ds.length := by simp [enumD, zipD_len, rngD_len]
theorem enumD_get {ds : List PyData} {i : Nat} {d : PyData} (h : ds[i]? = some d) : (enumD ds)[i]? = some (.tuple [.int (i : Int), d]) := by
  refine zipD_get ?_ h
  unfold rngD
  rw [List.getElem?_map, List.getElem?_range (List.getElem?_eq_some_iff.mp h).1]
  rfl
theorem ei_enum (B : Bt X.mg) {elts : List Expr} {kk : Nat} {Q : List PyData → Ga → Prop} (h : Ef C X e G fun v1 G1 => ∃ ds, v1 = .d (.tuple ds) ∧ Q (enumD ds) G1)
    (hg : Gl X "enumerate" := by rfl) (hs : starEach [e] X.env = [(false, eval e X.env)] := by rfl) :
    Ei C X (.Tuple elts kk pt) (.Call (.Name "enumerate" p) [e] [] pos) G Q :=
  fun O σ H E R q => tI_of (pi_enumT hg B.enum (pa_cons (pe_W e) pa_nil hs) hs) (h O σ H E _ fun v1 vl1 G1 H1 E1 K1 R1 ⟨ds, e1, z⟩ => by
    subst e1
    obtain ⟨a, xs, rfl, ha, ra⟩ := Rep.tup_inv R1
    refine ⟨a, xs, rfl, ha, q _ (enumD ds) G1 H1 E1 K1 ⟨_, _, by rw [enumD_len, ← ra.1]; exact walk_enumT (xs := xs), fun O' H' kk => kk.sqT E1.wo ha, fun i H' v H3 O' hi kk w y => ?_⟩ z⟩
    obtain ⟨T, u, v', rfl, hT, rfl, hx, hy⟩ := y
    refine ⟨fun _ _ z => same_new hT _ _ z, ?_⟩
    cases hx
    obtain ⟨d2, g2, r2⟩ := ra.getV hy
    exact ⟨_, enumD_get g2, .tupAll (.inl (.inl upd_same)) (RepAll.keep (Keep.upd hT) w (.cons (.int _) (.cons (r2.keep kk E1.wo) .nil)))⟩)
def signsD (z : Str) : List PyData := z.cps.toList.map fun c => .str ⟨#[c]⟩
theorem ei_s {Q : List PyData → Ga → Prop} (h : Ef C X iter G fun v G1 => ∃ z : Str, v = .d (.str z) ∧ Q (signsD z) G1) : Ei C X tg iter G Q := fun O σ H E R q => tI_of (pi_str (pe_W iter)) (h O σ H E _ fun v vl G1 H1 E1 K1 R1 ⟨z, e1, w⟩ => by
  subst e1
  refine ⟨z, Rep.str_inv R1, q _ (signsD z) G1 H1 E1 K1 ⟨_, _, by rw [show (signsD z).length = z.cps.size by simp [signsD]]; exact walk_str, fun _ _ _ => trivial, fun i H' v H3 O' hi kk w y => ?_⟩ w⟩
  obtain ⟨rfl, c, hc, rfl⟩ := y
  refine ⟨fun _ _ z => z, .str ⟨#[c]⟩, ?_, .str _⟩
  unfold signsD
  rw [List.getElem?_map, Array.getElem?_toList, hc]
  rfl)

/-! ### sum of a tuple, t[::-1], list(text) -/
def rSumT (K : PySem.W.Frag) : List V → Hp → VK → Prop := fun vs H Q => ∃ (a : Addr) (ns : List Int), vs = [V.ref a] ∧ SqT K H a (ns.map V.int) ∧ Q (.int ns.sum) H
theorem cr_sumT (hc : X.calm = true) : CallR X (.builtin "sum") (rSumT X.K) := by
  intro pins s σ H vs us Q I r h
  obtain ⟨a, ns, rfl, hs, q⟩ := h
  obtain ⟨its, rv, hl, _⟩ := I.tuple hs
  rw [Vals.ref1 r]
  have hi := rv.ints
  obtain ⟨xs, hx⟩ := hi.allInts.items
  have hn : numsOf its.toArray.toList = ns := by rw [show its.toArray.toList = its from rfl, hi.numsOf]
  rw [hx] at hl hn
  rw [nums_intItems] at hn
  refine PySem.W.ktm_sumG (I.ok.hd hc) hl fun h' tk t' hk => ?_
  rw [preSum_eq, List.take_of_length_le (by simp), hn]
  exact ⟨.int _, H, I.kept hk, ⟨_, rfl⟩, q⟩
theorem ef_sumT (B : Bt X.mg) (h : Ef C X a G fun v G1 => ∃ ns : List Int, v = .d (.tuple (ns.map .int)) ∧ Q (.d (.int ns.sum)) G1) (hc : X.calm = true := by rfl) (hg : Gl X "sum" := by rfl) (he : starEach [a] X.env = (false, eval a X.env) :: starEach [] X.env := by rfl) : Ef C X (.Call (.Name "sum" p) [a] [] pos) G Q :=
  ef_cb1 (cr_sumT hc) B.sum boot_sum' h (fun O σ H G1 v1 x Q' E r ⟨bs, e1, q⟩ k => by
    subst e1
    obtain ⟨t, xs, rfl, ht, ra⟩ := Rep.tup_inv r
    rw [repAll_ints ra] at ht
    exact ⟨t, bs, rfl, ht, Co.at k E (.int _) q⟩) hg (by decide) (by decide) he
def rLstS : List V → Hp → VK → Prop := fun vs H Q => ∃ z : Str, vs = [V.str z] ∧ z.cps.size ≤ sizeLine ∧ ∀ q, H q = none → Q (.ref q) (upd H q (.lst (z.cps.toList.map fun c => V.str ⟨#[c]⟩)))
theorem cr_listS (hc : X.calm = true) : CallR X (.type "list") rLstS := by
  intro pins s σ H vs us Q I r h
  obtain ⟨z, rfl, hz, q⟩ := h
  obtain ⟨u, rfl, t, rfl⟩ := vals1 r
  refine PySem.call_list_str (I.ok.hd hc) z t (fun h' tk acc' c' hk ho hi => ?_) hz
  have hsz : acc'.size = z.cps.size := hi.1
  have rv : Vals (z.cps.toList.map fun c => V.str ⟨#[c]⟩) acc'.toList := by
    refine vals_of_at (by simp [hsz]) fun j x u e1 e2 => ?_
    have hj : j < acc'.size := by
      have := (List.getElem?_eq_some_iff.mp e2).1
      simpa using this
    obtain ⟨c, u', e4, e5⟩ := hi.2 j u (by rw [← Array.getElem?_toList]; exact e2)
    rw [List.getElem?_map, Array.getElem?_toList, e4] at e1
    cases e1
    exact ⟨u', e5⟩
  exact ⟨.ref _, _, I.laid (t' := tk) (o := .lst _) hk (Nat.le_refl _) ⟨by simp; exact hz, _, c', rv, ho⟩, rfl, q _ (I.hok.fresh (Nat.le_refl _))⟩
theorem ef_listS (B : Bt X.mg) (h : Ef C X a G fun v G1 => ∃ z : Str, v = .d (.str z) ∧ z.cps.size ≤ 100000 ∧ Q (.d (.list (signsD z))) G1) (hc : X.calm = true := by rfl) (hg : Gl X "list" := by rfl) (he : starEach [a] X.env = (false, eval a X.env) :: starEach [] X.env := by rfl) : Ef C X (.Call (.Name "list" p) [a] [] pos) G Q :=
  ef_ct1 (cr_listS hc) B.list boot_list' h (fun O σ H G1 v1 x Q' E r ⟨z, e1, hz, q⟩ k => by
    subst e1
    exact ⟨z, by rw [Rep.str_inv r], sz _ hz, fun l hl => Co.newL k E hl (RepAll.map fun y _ => .str _) q⟩) hg (by decide) (by decide) he
def tRevT (K : PySem.W.Frag) (te : TE) : TE := fun σ H Q => te σ H fun x H1 => ∃ a xs, x = .ref a ∧ SqT K H1 a xs ∧ ∀ p, H1 p = none → Q (.ref p) (upd H1 p (.tup xs.reverse))
end
section
variable {prog : Program} {w : World} {A : Around} {E : Value → Shared → Prop} {s : Shared}
theorem getItem_tuple_rev {t sl : Addr} {items : Array Value} {vl vu vs : Value} {Q : Value → Shared → Prop} (ht : IsTup s.heap t items) (hs : s.heap.IsSliceOf sl vl vu vs) (pl : IsPart vl none) (pu : IsPart vu none) (ps : IsPart vs (some (-1)))
    (h : Q (.ref s.heap.objs.size) { s with heap := s.heap.push { cls := .type "tuple", data := .seq items.toList.reverse.toArray } })
    (hsz : items.size ≤ sizeLine) : wpAny (model prog w) A (getItem (.ref t) (.ref sl)) Q E s := by
  have htake : sizeOk (.seq items.toList.reverse.toArray) := by
    show items.toList.reverse.toArray.size ≤ sizeLine
    simpa using hsz
  obtain ⟨os, hos, hcs, hds⟩ := id hs
  have hTs : s.TypeIs (.ref sl) "slice" := ⟨os, hos, hcs⟩
  unfold getItem
  try with_reducible refine wpAny_holding ?_
  first | refine wpAny_bind (wpAny_pure ?_) | skip
  refine wpAny_bind (wpAny_sequenceKey ht.typeIs (by decide) ?_)
  refine wpAny_bind (wpAny_callSpecial?_slot (name := Str.ofString "__getitem__") ht.typeIs PyProof.Rows.slot_tuple_getitem
    (wpAny_call_entry PyProof.Rows.slot_tuple_getitem ht.typeIs entry_tuple_getitem ?_ (args_tuple_getitem _ _)))
  show wpAny _ _ (Builtin.Tuple.tupleItemsOf (.ref t) >>= _) _ _ s
  refine wpAny_bind (tupleItemsOf_ ht ?_)
  refine wpAny_bind (wpAny_typeOf hTs ?_)
  rw [if_pos (by decide)]
  have happ : ∀ {A' : Around} {Q' : Int × Int × Nat → Shared → Prop}, Q' ((items.size : Int) - 1, -1, items.size) s → wpAny (model prog w) A' (Builtin.Slice.sliceApplied (.ref sl) (pure (items.size : Int))) Q' E s := fun {A' Q'} q => by
    unfold Builtin.Slice.sliceApplied Builtin.Slice.sliceFields
    refine wpAny_bind (wpAny_bind (wpAny_field hos hds (x := vl) rfl (wpAny_bind (wpAny_field hos hds (x := vu) rfl (wpAny_bind (wpAny_field hos hds (x := vs) rfl (wpAny_pure ?_)))))))
    refine wpAny_bind (HT.slicePart_ ps ?_)
    show wpAny _ _ (if ((-1 : Int) == 0) = true then _ else _) _ _ s
    rw [if_neg (by decide)]
    refine wpAny_bind (HT.slicePart_ pl (wpAny_bind (HT.slicePart_ pu (wpAny_bind (wpAny_pure ?_)))))
    have ad : Builtin.Slice.sliceAdjust none none (-1) (items.size : Int) = ((items.size : Int) - 1, -1) := by
      unfold Builtin.Slice.sliceAdjust
      simp
    have pp : Builtin.Slice.slicePlaces ((items.size : Int) - 1) (-1) (-1) = items.size := by
      unfold Builtin.Slice.slicePlaces
      have h1 : ¬ ((-1 : Int) > 0) := by decide
      have e1 : ((items.size : Int) - 1 - -1 - 1) / (- -1) = (items.size : Int) - 1 := by
        rw [show (- -1 : Int) = 1 by decide, Int.ediv_one]
        omega
      simp only [h1, if_false, e1]
      split <;> omega
    show wpAny _ _ (match Builtin.Slice.sliceAdjust none none (-1) (items.size : Int) with | (lo, hi) => pure (lo, (-1 : Int), Builtin.Slice.slicePlaces lo hi (-1))) _ _ s
    rw [ad]
    show wpAny _ _ (pure ((items.size : Int) - 1, (-1 : Int), Builtin.Slice.slicePlaces ((items.size : Int) - 1) (-1) (-1))) _ _ s
    rw [pp]
    exact wpAny_pure q
  refine wpAny_bind (happ ?_)
  have hno : ¬ ((((items.size : Int) - 1) == 0 && (-1 : Int) == 1 && items.size == items.size) = true) := by
    have : ((-1 : Int) == 1) = false := by decide
    simp
  show wpAny _ _ (if (((items.size : Int) - 1) == 0 && (-1 : Int) == 1 && items.size == items.size) = true then _ else _) _ _ s
  have pick : ((List.range items.size).filterMap fun (m : Nat) => items[(((items.size : Int) - 1) + (m : Int) * -1).toNat]?).toArray = items.toList.reverse.toArray := by
    have := PySem.W.krv_pick items
    rw [← this]
    unfold slicePick
    rw [PySem.W.krv_bounds]
    show _ = ((sliceRange ((items.size : Int) - 1) (-1) (-1)).filterMap (items[·]?)).toArray
    rw [PySem.W.krv_sliceRange, List.filterMap_map]
    have fc : ∀ l : List Nat, (∀ m ∈ l, m < items.size) → l.filterMap (fun (m : Nat) => items[(((items.size : Int) - 1) + (m : Int) * -1).toNat]?) = l.filterMap ((fun k => items[k]?) ∘ fun k => items.size - 1 - k) := fun l hl => by
      induction l with
      | nil => rfl
      | cons m l ih =>
        have hm := hl m List.mem_cons_self
        have e1 : (((items.size : Int) - 1) + (m : Int) * -1).toNat = items.size - 1 - m := by omega
        rw [List.filterMap_cons, List.filterMap_cons, ih fun k hk => hl k (List.mem_cons_of_mem _ hk), e1]
        rfl
    rw [fc _ fun m hm => List.mem_range.mp hm]
  rw [if_neg hno, pick]
  first
    | exact wpAny_bind (m := Builtin.Tuple.tupleExact _) (wpAny_newObj_type (wpAny_pure ⟨_, rfl, wpAny_pure h⟩) htake)
    | exact wpAny_bind (m := Builtin.Tuple.tupleExact _) (wpAny_newObj_type (wpAny_bind (wpAny_pure (wpAny_pure ⟨_, rfl, wpAny_pure h⟩))) htake)
    | exact wpAny_bind (wpAny_bind (m := Builtin.Tuple.tupleExact _) (wpAny_newObj_type (wpAny_pure (wpAny_pure ⟨_, rfl, wpAny_pure h⟩)) htake))
    | exact wpAny_bind (wpAny_bind (m := Builtin.Tuple.tupleExact _) (wpAny_newObj_type (wpAny_pure ⟨_, rfl, wpAny_pure h⟩) htake))
end
section
variable {C : Addr} {X : Cx} {G G' : Ga} {T : Es} {Q : Vl → Ga → Prop} {O O' : List Addr} {σ σ' : L2.St} {H H' : Hp} {Q' : VK}
variable {x y z : Str} {pos pos' p p2 p3 pt pa pb pc apos cpos : Pos} {a b e c e2 tg iter elt : Expr} {es : List Expr} {st : Stmt} {rest body b1 b2 : List Stmt} {scope : Scope}
theorem pe_revT {te : TE} {k : Nat} {p1 : Pos} (he : PE X e te) : PE X (.Subscript e (.Slice none none (some (.UnaryOp .USub (.Constant (.int 1) k p1) p2)) p3) pos) (tRevT X.K te) := by
  refine ⟨fun pins s σ H Q I h => ?_⟩
  refine Subscript_ (thn (he.run pins s σ H _ I h) fun v s1 ⟨x, H1, I1, r1, q1⟩ => ?_)
  obtain ⟨a, xs, ex, hx, q⟩ := q1
  subst ex
  cases r1
  have hst : PO X (some (.UnaryOp .USub (.Constant (.int 1) k p1) p2)) (tPart (tUn (rU fun i => .int (-i)) (tC (.int 1)))) := po_some (pe_un un_neg pe_int)
  refine wpAny_Slice (thn (po_none.run pins s1 σ H1 (fun o H2 => o = none ∧ H2 = H1) I1 ⟨rfl, rfl⟩) fun vl s2 ⟨l, H2, I2, pl, el, e2⟩ => ?_)
  subst el e2
  refine thn (po_none.run pins s2 σ H2 (fun o H3 => o = none ∧ H3 = H2) I2 ⟨rfl, rfl⟩) fun vu s3 ⟨u, H3, I3, pu, eu, e3⟩ => ?_
  subst eu e3
  refine thn (hst.run pins s3 σ H3 (fun o H4 => o = some (-1) ∧ H4 = H3) I3 ⟨1, rfl, -1, rfl, rfl, rfl⟩) fun vs s4 ⟨o, H4, I4, ps, eo, e4⟩ => ?_
  subst eo e4
  have I5 : Inv X pins σ H4 { s4 with heap := s4.heap.push { cls := .type "slice", data := .fields #[vl, vu, vs] } } := I4.kept (t' := s4.toks) fun b ob q => Heap.get?_push_of_some _ q
  obtain ⟨its, r, ht, hz⟩ := I5.tuple hx
  have hlen := r.length
  show wpAny (model X.prog X.w) X.A (subscriptTail e (.Slice none none (some (.UnaryOp .USub (.Constant (.int 1) k p1) p2)) p3) (.ref a) (.ref s4.heap.objs.size)) (EP X pins σ Q) X.xe { s4 with heap := s4.heap.push { cls := .type "slice", data := .fields #[vl, vu, vs] } }
  refine tail_any (ops := [.ref a, .ref s4.heap.objs.size]) ht.typeIs (PyProof.Rows.slot_tuple_getitem.lookup) ?_ (by with_unfolding_all rfl)
  refine getItem_tuple_rev ht (Heap.IsSliceOf.new _ vl vu vs) pl pu ps ?_ (by rw [List.size_toArray]; omega)
  refine ⟨.ref _, _, I5.laid (t' := s4.toks) (o := .tup xs.reverse) (fun b ob q => Heap.get?_push_of_some _ q) (Nat.le_refl _) ?_, rfl, q _ (I5.hok.fresh (Nat.le_refl _))⟩
  exact ⟨by rw [List.length_reverse]; exact hz, _, r.reverse, IsTup.new _ _⟩
theorem ef_rev {k : Nat} {p1 : Pos} (h : Ef C X e G fun v G1 => ∃ ds, v = .d (.tuple ds) ∧ Q (.d (.tuple ds.reverse)) G1) : Ef C X (.Subscript e (.Slice none none (some (.UnaryOp .USub (.Constant (.int 1) k p1) p2)) p3) pos) G Q := by
  intro O σ H E Q' q
  refine tW_of (pe_revT (pe_W e)) ?_
  refine h O σ H E _ fun v vl G1 H1 E1 K1 R1 ⟨ds, e1, z⟩ => ?_
  subst e1
  obtain ⟨a, xs, rfl, ha, ra⟩ := Rep.tup_inv R1
  exact ⟨a, xs, rfl, ha, fun p hp => Co.newT (Co.step q E K1) E1 hp ra.rev z⟩
theorem ef_neg (h : Ef C X a G fun v G1 => ∃ i : Int, v = .d (.int i) ∧ Q (.d (.int (-i))) G1) : Ef C X (.UnaryOp .USub a pos) G Q :=
  ef_op1 (r := rU fun i => .int (-i)) (fun _ h1 => pe_un un_neg h1) h fun O σ H G1 v1 x Q' E r ⟨i, e1, q⟩ k => by
    subst e1
    exact ⟨i, Rep.int_inv r, Co.at k E (.int _) q⟩
/-! ### == of data -/
/-- data without dicts -/
inductive NoD : PyData → Prop
  | non : NoD .none
  | bl (b : Bool) : NoD (.bool b)
  | int (i : Int) : NoD (.int i)
  | str (z : Str) : NoD (.str z)
  | lst {ds : List PyData} : (∀ d ∈ ds, NoD d) → NoD (.list ds)
  | tup {ds : List PyData} : (∀ d ∈ ds, NoD d) → NoD (.tuple ds)
theorem dpAll_of {xs : List V} {ds : List PyData} (hl : xs.length = ds.length) (h : ∀ (i : Nat) (x : V) (d : PyData), xs[i]? = some x → ds[i]? = some d → Dp X.K H x d) : DpAll X.K H xs ds := by
  induction ds generalizing xs with
  | nil =>
    have : xs = [] := by simpa using hl
    subst this
    exact .nil
  | cons d ds ih =>
    cases xs with
    | nil => simp at hl
    | cons y ys => exact .cons (h 0 y d rfl rfl) (ih (by simpa using hl) fun i x e h1 h2 => h (i + 1) x e (by simpa using h1) (by simpa using h2))
theorem Rep.dp {v : V} {d : PyData} (r : Rep X.K C O H v d) (n : NoD d) : Dp X.K H v d := by
  induction r with
  | non => exact .non
  | bl b => exact .bl b
  | int i => exact .int i
  | str x => exact .str x
  | tup h hl hi ih =>
    cases n with
    | tup n => exact .tup h (dpAll_of hl fun i x d h1 h2 => ih i x d h1 h2 (n d (List.mem_of_getElem? h2)))
  | lst h ho hl hi ih =>
    cases n with
    | lst n => exact .lst (.inl (.inl h)) (dpAll_of hl fun i x d h1 h2 => ih i x d h1 h2 (n d (List.mem_of_getElem? h2)))
  | emp h => cases n
  | cls => cases n
  | scr h =>
    unfold scD at n
    cases n
  | nig h h1 h2 h3 => cases n
/-- data of a value or of an owned list -/
def DatOf (G : Ga) (d : PyData) : Vl → Prop
  | .d e => e = d
  | .o i => ∃ s ds, G[i]? = some s ∧ s.held = some ds ∧ d = .list ds
theorem DatOf.dp (E : Env X.K C O H σ G) {v : V} {vl : Vl} {d : PyData} (r : RepV X.K C O H σ G v vl) (h : DatOf G d vl) (n : NoD d) : Dp X.K H v d := by
  cases vl with
  | d e =>
    subst h
    exact Rep.dp r n
  | o i =>
    obtain ⟨s, ds, h1, h2, rfl⟩ := h
    obtain ⟨a, xs, rfl, _, h, q⟩ := E.own_at r.1 h1 h2
    cases n with
    | lst n => exact .lst (.inl (.inl h)) (dpAll_of q.1 fun i x d h1 h2 => (q.2 i x d h1 h2).dp (n d (List.mem_of_getElem? h2)))
/-- data that == may meet -/
structure Cmp (d : PyData) : Prop where
  nd : NoD d
  sh : SeqAt.shaped d = true
theorem ec_eqD {n : Nat} (hr : Room n X.A) (h : Ef C X a G fun v1 G1 => Firm G1 v1 ∧ Ef C X b G1 fun v2 G2 => ∃ d1 d2, DatOf G2 d1 v1 ∧ DatOf G2 d2 v2 ∧ Cmp d1 ∧ Cmp d2 ∧ Q (.d (.bool (PyData.eqv d1 d2))) G2) : Ec C X .Eq a b G Q := by
  intro O σ H E Q' q
  refine tPC_of (pc_r (op_eqD hr.units) (pe_W a) (pe_W b)) ?_
  refine h O σ H E _ fun v1 vl1 G1 H1 E1 K1 R1 ⟨f, h2⟩ => ?_
  refine h2 O σ H1 E1 _ fun v2 vl2 G2 H2 E2 K2 R2 ⟨d1, d2, c1, c2, n1, n2, z⟩ => ?_
  exact ⟨d1, d2, c1.dp E2 (RepV.firm R1 f E1 K2) n1.nd, c2.dp E2 R2 n2.nd, n1.sh, n2.sh, Co.at (Co.step q E (K1.trans K2 E)) E2 (.bl _) z⟩
theorem ec_neD {n : Nat} (hr : Room n X.A) (h : Ef C X a G fun v1 G1 => Firm G1 v1 ∧ Ef C X b G1 fun v2 G2 => ∃ d1 d2, DatOf G2 d1 v1 ∧ DatOf G2 d2 v2 ∧ Cmp d1 ∧ Cmp d2 ∧ Q (.d (.bool (!PyData.eqv d1 d2))) G2) : Ec C X .NotEq a b G Q := by
  intro O σ H E Q' q
  refine tPC_of (pc_r (op_neD hr.units) (pe_W a) (pe_W b)) ?_
  refine h O σ H E _ fun v1 vl1 G1 H1 E1 K1 R1 ⟨f, h2⟩ => ?_
  refine h2 O σ H1 E1 _ fun v2 vl2 G2 H2 E2 K2 R2 ⟨d1, d2, c1, c2, n1, n2, z⟩ => ?_
  exact ⟨d1, d2, c1.dp E2 (RepV.firm R1 f E1 K2) n1.nd, c2.dp E2 R2 n2.nd, n1.sh, n2.sh, Co.at (Co.step q E (K1.trans K2 E)) E2 (.bl _) z⟩
/-- an owned list against [] -/
theorem ec_neO {n : Nat} (hr : Room n X.A) (i : Nat) {pl : Pos} {s : Sl} {ds : List PyData} (hi : X.N[i]? = some x) (hG : G[i]? = some s) (hs : s.held = some ds) (hc : Cmp (.list ds)) (q : Q (.d (.bool (!PyData.eqv (.list ds) (.list [])))) G) (hv : Vis X.env.scope x := by first | exact Or.inl rfl | exact Or.inr (Or.inl rfl) | exact Or.inr (Or.inr rfl))
    (hd : (x == ("__debug__" : Str)) = false := by decide) (hcd : (x == ("__classdict__" : Str)) = false := by decide) : Ec C X .NotEq (.Name x p) (.List [] pl) G Q := by
  intro O σ H E Q' k
  refine tPC_of (pc_r (op_neD hr.units) (pe_W _) (pe_W _)) ?_
  refine ef_o i hG hs (Q := fun v G1 => v = .o i ∧ G1 = G) ⟨rfl, rfl⟩ hi hv hd hcd O σ H E _ fun v1 vl1 G1 H1 E1 K1 R1 ⟨e1, e2⟩ => ?_
  subst e1 e2
  refine ef_lst (Q := fun v G3 => v = .d (.list []) ∧ G3 = G1) (ea_nil ⟨[], rfl, by decide, rfl, rfl⟩) O σ H1 E1 _ fun v2 vl2 G2 H2 E2 K2 R2 ⟨e3, e4⟩ => ?_
  subst e3 e4
  have hnl : Cmp (.list []) := ⟨.lst (fun d h => by cases h), by decide +kernel⟩
  have d1 : DatOf G2 (.list ds) (.o i) := ⟨s, ds, hG, hs, rfl⟩
  have d2 : DatOf G2 (.list []) (.d (.list [])) := rfl
  exact ⟨_, _, DatOf.dp (vl := .o i) E2 ⟨R1.1, s, ds, hG, hs⟩ d1 hc.nd, DatOf.dp E2 R2 d2 hnl.nd, hc.sh, hnl.sh, Co.at (Co.step k E (K1.trans K2 E)) E2 (.bl _) q⟩
end
end DL
/-! DL10: lists of one's own: methods, fresh ones; promises told by a word. -/
namespace DL
open PySem PySem.Spec PyProof.Rows L2

section
variable {C : Addr} {X : Cx} {G G' : Ga} {T : Es} {Q : Vl → Ga → Prop} {O O' : List Addr} {σ σ' : L2.St} {H H' : Hp} {Q' : VK}
variable {x y z nm : Str} {pos pos' p p2 p3 pt pa pb pc apos cpos : Pos} {a b e c e2 tg iter elt : Expr} {es : List Expr} {st : Stmt} {rest body b1 b2 : List Stmt} {scope : Scope}

/-! ### methods of an owned list -/
theorem ef_lm1 {id : String} {r : V → List V → Hp → VK → Prop} {Z : Sl → List PyData → Vl → Ga → Prop} (slot : Slot "list" nm id) (ty : typeOf (.builtin id) = pure (.type "method_descriptor")) (rule : MtR X id r) (i : Nat) {s : Sl} {ds : List PyData} (hG : G[i]? = some s) (hs : s.held = some ds)
    (h : Ef C X e G fun v G1 => ∃ s1 ds1, G1[i]? = some s1 ∧ s1.held = some ds1 ∧ Z s1 ds1 v G1)
    (hz : ∀ (O : List Addr) (σ : L2.St) (H : Hp) (G1 : Ga) (s1 : Sl) (ds1 : List PyData) (w : Addr) (xs : List V) (v : Vl) (y : V) (Q' : VK), Env X.K C O H σ G1 → σ[i]? = some (some (.ref w)) → G1[i]? = some s1 → s1.held = some ds1 → H w = some (.lst xs) → RepAll X.K C O H xs ds1 → RepV X.K C O H σ G1 y v → Z s1 ds1 v G1 → Co C X σ G1 O H Q Q' → r (.ref w) [y] H Q')
    (hi : X.N[i]? = some x) (hv : Vis X.env.scope x) (hd : (x == ("__debug__" : Str)) = false) (hcd : (x == ("__classdict__" : Str)) = false)
    (hbase : attributeBase (.Name x p) nm X.env (eval (.Name x p) X.env) = eval (.Name x p) X.env)
    (hfew : ((backTo cpos (starEach [e] X.env)).all (fun x => !x.1) && (backToKw cpos (keywordEach [] X.env)).all (fun x => x.1.isSome)
      && decide ([e].length + ([] : List Keyword).length + (if ([] : List Keyword).isEmpty then 0 else 1) < 30)) = true)
    (hline : (apos.endLine == cpos.line) = true) (hst : starEach [e] X.env = (false, eval e X.env) :: starEach [] X.env) : Ef C X (.Call (.Attribute (.Name x p) nm apos) [e] [] cpos) G Q := by
  intro O σ H E Q' q
  refine tW_of (pe_bm F.plainAttrs_list slot ty rule (pe_W _) (pa_cons (pe_W e) pa_nil hst) hbase hfew hline hst rfl) ?_
  refine ef_o i hG hs (Q := fun v G1 => v = .o i ∧ G1 = G) ⟨rfl, rfl⟩ hi hv hd hcd O σ H E _ fun v1 vl1 G1 H1 E1 K1 R1 ⟨e1, eG⟩ => ?_
  subst e1 eG
  obtain ⟨w, xs, rfl, hw, hH, ra⟩ := E1.own_at R1.1 hG hs
  refine ⟨.inl ⟨rfl, xs, .inl (.inl hH)⟩, ?_⟩
  refine h O σ H1 E1 _ fun v2 vl2 G2 H2 E2 K2 R2 ⟨s1, ds1, g1, g2, zz⟩ => ?_
  obtain ⟨w', ys, ew, _, hH2, ra2⟩ := E2.own_at R1.1 g1 g2
  cases ew
  exact hz O σ H2 G2 s1 ds1 w ys vl2 v2 Q' E2 R1.1 g1 g2 hH2 ra2 R2 zz (Co.step q E (K1.trans K2 E))
theorem ef_append (i : Nat) {s : Sl} {ds : List PyData} (hG : G[i]? = some s) (hs : s.held = some ds)
    (h : Ef C X e G fun v G1 => ∃ s1 ds1, G1[i]? = some s1 ∧ s1.held = some ds1 ∧ ∃ d, v = .d d ∧ ds1.length < 100000 ∧ Q (.d .none) (G1.set i (s1.put (ds1 ++ [d]))))
    (hi : X.N[i]? = some x := by rfl) (hv : Vis X.env.scope x := by first | exact Or.inl rfl | exact Or.inr (Or.inl rfl) | exact Or.inr (Or.inr rfl)) (hd : (x == ("__debug__" : Str)) = false := by decide) (hcd : (x == ("__classdict__" : Str)) = false := by decide)
    (hbase : attributeBase (.Name x p) "append" X.env (eval (.Name x p) X.env) = eval (.Name x p) X.env := by rfl)
    (hfew : ((backTo cpos (starEach [e] X.env)).all (fun x => !x.1) && (backToKw cpos (keywordEach [] X.env)).all (fun x => x.1.isSome)
      && decide ([e].length + ([] : List Keyword).length + (if ([] : List Keyword).isEmpty then 0 else 1) < 30)) = true := by rfl)
    (hline : (apos.endLine == cpos.line) = true := by rfl) (hst : starEach [e] X.env = (false, eval e X.env) :: starEach [] X.env := by rfl) : Ef C X (.Call (.Attribute (.Name x p) "append" apos) [e] [] cpos) G Q :=
  ef_lm1 F.slot_list_append F.type_list_append mt_append i hG hs h (fun O σ H G1 s1 ds1 w xs v y Q' E h1 g1 g2 hH ra ry ⟨d, e1, hl, q⟩ k => by
    subst e1
    obtain ⟨E2, K2⟩ := E.wr (xs := xs ++ [y]) h1 g1 g2 (ra.append (.cons ry .nil))
    exact ⟨w, xs, y, rfl, rfl, hH, sz' _ (by rw [ra.1]; exact hl), k .non (.d .none) _ _ E2 K2 .non q⟩) hi hv hd hcd hbase hfew hline hst
theorem ef_extend (i : Nat) {s : Sl} {ds : List PyData} (hG : G[i]? = some s) (hs : s.held = some ds)
    (h : Ef C X e G fun v G1 => ∃ s1 ds1, G1[i]? = some s1 ∧ s1.held = some ds1 ∧ ∃ fs, v = .d (.list fs) ∧ ds1.length + fs.length ≤ 100000 ∧ Q (.d .none) (G1.set i (s1.put (ds1 ++ fs))))
    (hi : X.N[i]? = some x := by rfl) (hv : Vis X.env.scope x := by first | exact Or.inl rfl | exact Or.inr (Or.inl rfl) | exact Or.inr (Or.inr rfl)) (hd : (x == ("__debug__" : Str)) = false := by decide) (hcd : (x == ("__classdict__" : Str)) = false := by decide)
    (hbase : attributeBase (.Name x p) "extend" X.env (eval (.Name x p) X.env) = eval (.Name x p) X.env := by rfl)
    (hfew : ((backTo cpos (starEach [e] X.env)).all (fun x => !x.1) && (backToKw cpos (keywordEach [] X.env)).all (fun x => x.1.isSome)
      && decide ([e].length + ([] : List Keyword).length + (if ([] : List Keyword).isEmpty then 0 else 1) < 30)) = true := by rfl)
    (hline : (apos.endLine == cpos.line) = true := by rfl) (hst : starEach [e] X.env = (false, eval e X.env) :: starEach [] X.env := by rfl) : Ef C X (.Call (.Attribute (.Name x p) "extend" apos) [e] [] cpos) G Q :=
  ef_lm1 F.slot_list_extend F.type_list_extend mt_extend i hG hs h (fun O σ H G1 s1 ds1 w xs v y Q' E h1 g1 g2 hH ra ry ⟨fs, e1, hl, q⟩ k => by
    subst e1
    obtain ⟨u, ys, rfl, hu, _, rb⟩ := Rep.lst_inv ry
    obtain ⟨E2, K2⟩ := E.wr (xs := xs ++ ys) h1 g1 g2 (ra.append rb)
    exact ⟨w, u, xs, ys, rfl, rfl, hH, hu, sz _ (by rw [ra.1, rb.1]; exact hl), k .non (.d .none) _ _ E2 K2 .non q⟩) hi hv hd hcd hbase hfew hline hst
theorem RepAll.erase {xs : List V} {ds : List PyData} (h : RepAll X.K C O H xs ds) (k : Nat) : RepAll X.K C O H (xs.eraseIdx k) (ds.eraseIdx k) := by
  rw [List.eraseIdx_eq_take_drop_succ, List.eraseIdx_eq_take_drop_succ]
  have h1 := h.sub 0 k
  have h2 := h.sub (k + 1) xs.length
  rw [List.drop_zero, List.drop_zero] at h1
  rw [List.take_of_length_le (by simp), List.take_of_length_le (by simp [h.1])] at h2
  exact h1.append h2
theorem ef_pop (i : Nat) {s : Sl} {ds : List PyData} (hG : G[i]? = some s) (hs : s.held = some ds)
    (h : Ef C X e G fun v G1 => ∃ s1 ds1, G1[i]? = some s1 ∧ s1.held = some ds1 ∧ ∃ (k : Nat) (d : PyData), v = .d (.int (k : Int)) ∧ k < 100000 ∧ ds1[k]? = some d ∧ Q (.d d) (G1.set i (s1.put (ds1.eraseIdx k))))
    (hi : X.N[i]? = some x := by rfl) (hv : Vis X.env.scope x := by first | exact Or.inl rfl | exact Or.inr (Or.inl rfl) | exact Or.inr (Or.inr rfl)) (hd : (x == ("__debug__" : Str)) = false := by decide) (hcd : (x == ("__classdict__" : Str)) = false := by decide)
    (hbase : attributeBase (.Name x p) "pop" X.env (eval (.Name x p) X.env) = eval (.Name x p) X.env := by rfl)
    (hfew : ((backTo cpos (starEach [e] X.env)).all (fun x => !x.1) && (backToKw cpos (keywordEach [] X.env)).all (fun x => x.1.isSome)
      && decide ([e].length + ([] : List Keyword).length + (if ([] : List Keyword).isEmpty then 0 else 1) < 30)) = true := by rfl)
    (hline : (apos.endLine == cpos.line) = true := by rfl) (hst : starEach [e] X.env = (false, eval e X.env) :: starEach [] X.env := by rfl) : Ef C X (.Call (.Attribute (.Name x p) "pop" apos) [e] [] cpos) G Q :=
  ef_lm1 F.slot_list_pop F.type_list_pop mt_popAt i hG hs h (fun O σ H G1 s1 ds1 w xs v y Q' E h1 g1 g2 hH ra ry ⟨k0, d, e1, hk, hd, q⟩ k => by
    subst e1
    obtain ⟨v0, hv0, rv0⟩ := ra.get hd
    have hkl : k0 < xs.length := (List.getElem?_eq_some_iff.mp hv0).1
    obtain ⟨E2, K2⟩ := E.wr (xs := xs.eraseIdx k0) h1 g1 g2 (ra.erase k0)
    refine ⟨w, xs, (k0 : Int), k0, v0, rfl, by rw [Rep.int_inv ry], hH, by omega, by omega, ?_, hv0, k v0 (.d d) _ _ E2 K2 (rv0.keep (K2.keep E) E.wo) q⟩
    unfold seqIndex?
    have e0 : (if (k0 : Int) < 0 then (k0 : Int) + (xs.length : Int) else (k0 : Int)) = (k0 : Int) := if_neg (by omega)
    simp only [e0]
    simp [hkl]) hi hv hd hcd hbase hfew hline hst
/-- the first place of a text among texts -/
def IsIx (ss : List Str) (z : Str) (j : Nat) : Prop := ss[j]? = some z ∧ ∀ m, m < j → ss[m]? ≠ some z
theorem ef_index (h : Ef C X a G fun v1 G1 => ∃ ss : List Str, v1 = .d (.list (ss.map .str)) ∧ Ef C X e G1 fun v2 G2 => ∃ (zz : Str) (j : Nat), v2 = .d (.str zz) ∧ IsIx ss zz j ∧ Q (.d (.int (j : Int))) G2)
    (hbase : attributeBase a "index" X.env (eval a X.env) = eval a X.env := by rfl)
    (hfew : ((backTo cpos (starEach [e] X.env)).all (fun x => !x.1) && (backToKw cpos (keywordEach [] X.env)).all (fun x => x.1.isSome)
      && decide ([e].length + ([] : List Keyword).length + (if ([] : List Keyword).isEmpty then 0 else 1) < 30)) = true := by rfl)
    (hline : (apos.endLine == cpos.line) = true := by rfl) (hst : starEach [e] X.env = (false, eval e X.env) :: starEach [] X.env := by rfl) : Ef C X (.Call (.Attribute a "index" apos) [e] [] cpos) G Q := by
  intro O σ H E Q' q
  refine tW_of (pe_bm F.plainAttrs_list PySem.F.slot_list_index PySem.F.type_list_index mt_index (pe_W _) (pa_cons (pe_W e) pa_nil hst) hbase hfew hline hst rfl) ?_
  refine h O σ H E _ fun v1 vl1 G1 H1 E1 K1 R1 ⟨ss, e1, h2⟩ => ?_
  subst e1
  obtain ⟨w, xs, rfl, hH, ho, ra⟩ := Rep.lst_inv R1
  refine ⟨.inl ⟨rfl, xs, .inl (.inl hH)⟩, ?_⟩
  refine h2 O σ H1 E1 _ fun v2 vl2 G2 H2 E2 K2 R2 ⟨zz, j, e2, hj, zq⟩ => ?_
  subst e2
  have hH2 := (K2.keep E1).obj _ _ hH ho
  rw [repAll_strs ra] at hH2
  obtain rfl := Rep.str_inv R2
  refine ⟨w, ss.map .str, .str zz, j, .str zz, rfl, rfl, .inl (.inl hH2), rfl, flat_strs ss, by rw [List.getElem?_map, hj.1]; rfl, by show (zz == zz) = true; exact beq_self_eq_true zz, fun m z' hm hz' => ?_, Co.at (Co.step q E (K1.trans K2 E)) E2 (.int _) zq⟩
  rw [List.getElem?_map] at hz'
  cases hm' : ss[m]? with
  | none =>
    rw [hm'] at hz'
    cases hz'
  | some u =>
    rw [hm'] at hz'
    cases hz'
    show (u == zz) = false
    refine beq_eq_false_iff_ne.mpr fun e => hj.2 m hm ?_
    rw [hm', e]

/-! ### fresh lists -/
def Efr (C : Addr) (X : Cx) (e : Expr) (G : Ga) (Q : List PyData → Ga → Prop) : Prop := ∀ (O : List Addr) (σ : L2.St) (H : Hp), Env X.K C O H σ G → ∀ Q' : VK,
  (∀ p xs ds G1 H1, Env X.K C O H1 σ G1 → Kp σ G O H σ G1 O H1 → H1 p = none → RepAll X.K C O H1 xs ds → Q ds G1 → Q' (.ref p) (upd H1 p (.lst xs))) → tW X e σ H Q'
theorem efr_lst {QF : List PyData → Ga → Prop} (h : Ea C X es G fun vls G1 => ∃ ds, vls = ds.map Vl.d ∧ ds.length ≤ sizeLine ∧ QF ds G1) : Efr C X (.List es pos) G QF := by
  intro O σ H E Q' q
  refine tW_of (pe_lst (pa_W es)) ?_
  refine h O σ H E _ fun vs vls G1 H1 E1 K1 hl R1 ⟨ds, e1, hz, z⟩ => ?_
  subst e1
  have ra := repAll_of hl R1
  exact ⟨by rw [ra.1]; exact hz, fun p hp => q p vs ds G1 H1 E1 K1 hp ra z⟩
theorem efr_list {QF : List PyData → Ga → Prop} (B : Bt X.mg) (h : Ef C X a G fun v G1 => ∃ ds, RowOf G1 ds v ∧ QF ds G1) (hg : Gl X "list" := by rfl) (he : starEach [a] X.env = (false, eval a X.env) :: starEach [] X.env := by rfl) : Efr C X (.Call (.Name "list" p) [a] [] pos) G QF := by
  intro O σ H E Q' q
  refine tW_of (pe_callTy call_list_of hg B.list boot_list' (pa_cons (pe_W a) pa_nil he) (by decide) (by decide) he rfl) ?_
  refine h O σ H E _ fun v1 vl1 G1 H1 E1 K1 R1 ⟨ds, e1, z⟩ => ?_
  obtain ⟨t, xs, rfl, ht, ra⟩ := e1.at E1 R1
  exact ⟨t, xs, rfl, ht, fun l hl => q l xs ds G1 H1 E1 K1 hl ra z⟩
theorem efr_addL {QF : List PyData → Ga → Prop} (h : Ef C X a G fun v1 G1 => ∃ ds, v1 = .d (.list ds) ∧ Ef C X b G1 fun v2 G2 => ∃ fs, v2 = .d (.list fs) ∧ ds.length + fs.length ≤ sizeLine ∧ QF (ds ++ fs) G2) : Efr C X (.BinOp a .Add b pos) G QF := by
  intro O σ H E Q' q
  refine tW_of (pe_op op_cat (pe_W a) (pe_W b)) ?_
  refine h O σ H E _ fun v1 vl1 G1 H1 E1 K1 R1 ⟨ds, e1, h2⟩ => ?_
  subst e1
  refine h2 O σ H1 E1 _ fun v2 vl2 G2 H2 E2 K2 R2 ⟨fs, e2, c, z⟩ => ?_
  subst e2
  obtain ⟨t, xs, rfl, ht, _, ra⟩ := Rep.lst_inv (Rep.keep (K2.keep E1) E1.wo R1)
  obtain ⟨u, ys, rfl, hu, _, rb⟩ := Rep.lst_inv R2
  exact ⟨t, u, xs, ys, rfl, rfl, ht, hu, by rw [ra.1, rb.1]; exact c, fun p hp => q p _ _ G2 H2 E2 (K1.trans K2 E) hp (ra.append rb) z⟩
theorem efr_if {QF : List PyData → Ga → Prop} (h : Et C X c G fun k G1 => (k = true → Efr C X a G1 QF) ∧ (k = false → Efr C X b G1 QF)) : Efr C X (.IfExp c a b pos) G QF := by
  intro O σ H E Q' q
  refine tW_of (pe_ifExp (pt_W c) (pe_W a) (pe_W b)) ?_
  refine h O σ H E _ fun k G1 H1 E1 K1 ⟨h1, h0⟩ => ?_
  cases k with
  | true => exact iteT (h1 rfl O σ H1 E1 Q' fun p xs ds G2 H2 E2 K2 hp ra z => q p xs ds G2 H2 E2 (K1.trans K2 E) hp ra z)
  | false => exact iteF (h0 rfl O σ H1 E1 Q' fun p xs ds G2 H2 E2 K2 hp ra z => q p xs ds G2 H2 E2 (K1.trans K2 E) hp ra z)
/-- x = e, e a new list -/
theorem ss_fr (i : Nat) (h : Efr C X e G fun ds G1 => okSet G1 i = true ∧ SS C X rest (G1.set i (.own ds)) T) (hi : X.N[i]? = some x := by rfl) (hN' : X.N.Nodup) (hx : Loc X.env.scope x := by first | exact Or.inl rfl | exact Or.inr rfl)
    (hs : swapsWith e (some (.Name x pos')) pos.line X.env = pure false := by rfl) (hf : X.fn x = true ∨ X.env.scope.names.lookup x = some .local := by first | exact .inl rfl | exact .inr rfl) : SS C X (.Assign [.Name x pos'] e pos :: rest) G T :=
  ss_cons (ps_set hN' hi hx (pe_W e) hs hf) fun O σ H E D hN hR hB hJ => h O σ H E _ fun p xs ds G1 H1 E1 K1 hp ra ⟨ok, q⟩ => hN _ _ _ _ (E1.newOwn hp ra) (K1.trans (Kp.newOwn hp ok) E) q
/-- a, b = e1, [..] -/
theorem ss_parDO (i j : Nat) {kt k2 : Nat} {px py pt2 : Pos} (h : Ef C X a G fun v G1 => ∃ d1, v = .d d1 ∧ Efr C X b G1 fun ds G2 => okSet G2 i = true ∧ okSet G2 j = true ∧ SS C X rest ((G2.set i (.imm d1)).set j (.own ds)) T) (hN' : X.N.Nodup) (hij : i ≠ j := by decide) (hi : X.N[i]? = some x := by rfl) (hj : X.N[j]? = some y := by rfl)
    (hx : X.env.scope.names.lookup x = some .local := by rfl) (hy : X.env.scope.names.lookup y = some .local := by rfl) (hw : swappedStores [.Tuple [.Name x px, .Name y py] kt pt] (.Tuple [a, b] k2 pt2) X.env = pure (some [x, y]) := by rfl)
    (hs : swapsWithSole [.Tuple [.Name x px, .Name y py] kt pt] (.Tuple [a, b] k2 pt2) pos.line X.env = pure false := by rfl) (hc : X.calm = true := by rfl) (h1 : starEach [a, b] X.env = (false, eval a X.env) :: starEach [b] X.env := by rfl) (h2 : starEach [b] X.env = (false, eval b X.env) :: starEach [] X.env := by rfl) :
    SS C X (.Assign [.Tuple [.Name x px, .Name y py] kt pt] (.Tuple [a, b] k2 pt2) pos :: rest) G T :=
  ss_cons (ps_par hc hN' hi hj hij hx hy (pa_cons (pe_W a) (pa_cons (pe_W b) pa_nil h2) h1) hw hs) fun O σ H E D hN hR hB hJ => h O σ H E _ fun v vl G1 H1 E1 K1 R1 ⟨d1, e1, hb⟩ => by
    subst e1
    refine hb O σ H1 E1 _ fun p xs ds G2 H2 E2 K2 hp ra ⟨o1, o2, q⟩ => ?_
    have r1 : Rep X.K C O H2 v d1 := Rep.keep (K2.keep E1) E1.wo R1
    refine ⟨_, _, rfl, hN _ _ _ _ ((E2.setD (i := i) r1).newOwn (i := j) hp ra) (((K1.trans K2 E).trans (Kp.setD o1) E).trans (Kp.newOwn hp ?_) E) q⟩
    unfold okSet at o2 ⊢
    rw [List.getElem?_set_ne hij]
    exact o2
end
end DL
/-! DL11: promises told by a word; instances. -/
namespace DL
open PySem PySem.Spec PyProof.Rows L2

section
variable {C : Addr} {X : Cx} {G G' : Ga} {T : Es} {Q : Vl → Ga → Prop} {O O' O2 : List Addr} {σ σ' σ2 : L2.St} {H H' H2 : Hp} {Q' : VK} {G2 : Ga}
variable {x y z nm f : Str} {pos pos' p p2 p3 pt pa pb pc apos cpos : Pos} {a b e c e2 tg iter elt : Expr} {es : List Expr} {st : Stmt} {rest body b1 b2 : List Stmt} {scope : Scope}
variable {α : Type}

/-! ### [..] first, then data -/
theorem Kp.newU {q : Addr} {xs : List V} (hq : H q = none) : Kp σ G O H σ G (q :: O) (upd H q (.lst xs)) where
  obj := fun b o e _ => same_new hq b o e
  stay := fun b h _ => List.mem_cons_of_mem _ h
  new := fun b hb => by
    rcases List.mem_cons.mp hb with e | hb
    · exact .inr (by rw [e]; exact hq)
    · exact .inl hb
  own := fun b h => .inl h
  there := fun b h q' => by
    by_cases e : b = q
    · rw [e, upd_same] at q'
      cases q'
    · rw [upd_ne e] at q'
      exact h q'
  urn := fun j us h => ⟨rfl, us, h⟩
/-- an owned list that no slot holds is held -/
theorem Env.adopt {i : Nat} {q : Addr} {xs : List V} {ds : List PyData} (E : Env X.K C O H σ G) (hm : q ∈ O) (hq : H q = some (.lst xs)) (hn : ¬ Ow σ G q) (hr : RepAll X.K C O H xs ds) : Env X.K C O H (σ.set i (some (.ref q))) (G.set i (.own ds)) := by
  refine ⟨by simp [E.len], fun j s h => ?_, fun j k s t ds' es b g1 g2 g3 g4 g5 g6 => ?_, E.wo⟩
  · by_cases e : i = j
    · subst e
      by_cases hi : i < G.length
      · rw [List.getElem?_set_self hi] at h
        cases h
        exact ⟨_, List.getElem?_set_self (by rw [E.len]; exact hi), q, xs, rfl, hm, hq, hr⟩
      · rw [List.getElem?_eq_none (by simpa using hi)] at h
        cases h
    · rw [List.getElem?_set_ne e] at h
      obtain ⟨o, g1, g2⟩ := E.sl j s h
      exact ⟨o, by rw [List.getElem?_set_ne e]; exact g1, g2⟩
  · have old : ∀ {l : Nat} {u : Sl} {us : List PyData} {b : Addr}, i ≠ l → (σ.set i (some (.ref q)))[l]? = some (some (.ref b)) → (G.set i (.own ds))[l]? = some u → u.held = some us → b ≠ q := fun {l u us b} n k1 k2 k3 e => by
      rw [List.getElem?_set_ne n] at k1 k2
      subst e
      exact hn ⟨l, u, us, k1, k2, k3⟩
    have lt : ∀ {l : Nat} {b : Addr}, i = l → (σ.set i (some (.ref q)))[l]? = some (some (.ref b)) → b = q := fun {l b} e k1 => by
      subst e
      have hi : i < σ.length := by
        by_cases hi : i < σ.length
        · exact hi
        · rw [List.getElem?_eq_none (by simpa using hi)] at k1
          cases k1
      rw [List.getElem?_set_self hi] at k1
      cases k1
      rfl
    by_cases e1 : i = j
    · by_cases e2 : i = k
      · exact e1.symm.trans e2
      · exact absurd (lt e1 g1) (old e2 g2 g4 g6)
    · by_cases e2 : i = k
      · exact absurd (lt e2 g2) (old e1 g1 g3 g5)
      · rw [List.getElem?_set_ne e1] at g1 g3
        rw [List.getElem?_set_ne e2] at g2 g4
        exact E.dj j k s t ds' es b g1 g2 g3 g4 g5 g6
theorem Kp.adopt {i : Nat} {q : Addr} {ds : List PyData} (K : Kp σ G O H σ2 G2 O2 H2) (hq : H q = none) (hi : okSet G2 i = true) : Kp σ G O H (σ2.set i (some (.ref q))) (G2.set i (.own ds)) O2 H2 where
  obj := K.obj
  stay := K.stay
  new := K.new
  own := fun b ⟨j, s, us, g1, g2, g3⟩ => by
    by_cases e : i = j
    · subst e
      have hi' : i < σ2.length := by
        by_cases hi : i < σ2.length
        · exact hi
        · rw [List.getElem?_eq_none (by simpa using hi)] at g1
          cases g1
      rw [List.getElem?_set_self hi'] at g1
      cases g1
      exact .inr hq
    · rw [List.getElem?_set_ne e] at g1 g2
      exact K.own b ⟨j, s, us, g1, g2, g3⟩
  there := K.there
  urn := fun j us h => by
    obtain ⟨e1, us', h'⟩ := K.urn j us h
    have e : i ≠ j := fun e => okSet_urn hi (e ▸ h')
    exact ⟨by rw [List.getElem?_set_ne e]; exact e1, us', by rw [List.getElem?_set_ne e]; exact h'⟩
/-- a, b = [..], e2 -/
theorem ss_parOD (i j : Nat) {kt k2 : Nat} {px py pt2 : Pos} (h : Efr C X a G fun ds G1 => Ef C X b G1 fun v G2 => ∃ d2, v = .d d2 ∧ okSet G2 i = true ∧ okSet G2 j = true ∧ SS C X rest ((G2.set i (.own ds)).set j (.imm d2)) T) (hN' : X.N.Nodup) (hij : i ≠ j := by decide) (hi : X.N[i]? = some x := by rfl) (hj : X.N[j]? = some y := by rfl)
    (hx : X.env.scope.names.lookup x = some .local := by rfl) (hy : X.env.scope.names.lookup y = some .local := by rfl) (hw : swappedStores [.Tuple [.Name x px, .Name y py] kt pt] (.Tuple [a, b] k2 pt2) X.env = pure (some [x, y]) := by rfl)
    (hs : swapsWithSole [.Tuple [.Name x px, .Name y py] kt pt] (.Tuple [a, b] k2 pt2) pos.line X.env = pure false := by rfl) (hc : X.calm = true := by rfl) (h1 : starEach [a, b] X.env = (false, eval a X.env) :: starEach [b] X.env := by rfl) (h2 : starEach [b] X.env = (false, eval b X.env) :: starEach [] X.env := by rfl) :
    SS C X (.Assign [.Tuple [.Name x px, .Name y py] kt pt] (.Tuple [a, b] k2 pt2) pos :: rest) G T :=
  ss_cons (ps_par hc hN' hi hj hij hx hy (pa_cons (pe_W a) (pa_cons (pe_W b) pa_nil h2) h1) hw hs) fun O σ H E D hN hR hB hJ => h O σ H E _ fun q xs ds G1 H1 E1 K1 hq ra hb => by
    have E2 : Env X.K C (q :: O) (upd H1 q (.lst xs)) σ G1 := E1.inBlk (vs := []) hq
    have KU : Kp σ G1 O H1 σ G1 (q :: O) (upd H1 q (.lst xs)) := Kp.newU hq
    have hq0 : H q = none := Classical.byContradiction fun z => K1.there q z hq
    have nO : ¬ Ow σ G1 q := fun z => by
      obtain ⟨ys, e⟩ := E1.wo q (E1.ow_mem z)
      rw [hq] at e
      cases e
    have ra1 : RepAll X.K C (q :: O) (upd H1 q (.lst xs)) xs ds := ra.keep (KU.keep E1) E1.wo
    refine hb (q :: O) σ (upd H1 q (.lst xs)) E2 _ fun v vl G2 H2 E3 K3 R3 ⟨d2, e2, o1, o2, qq⟩ => ?_
    subst e2
    have hq2 : H2 q = some (.lst xs) := K3.obj q _ upd_same nO
    have nO2 : ¬ Ow σ G2 q := fun z => (K3.own q z).elim nO fun w => by
      rw [upd_same] at w
      cases w
    have KT : Kp σ G O H σ G2 (q :: O) H2 := (K1.trans KU E).trans K3 E
    have ra2 : RepAll X.K C (q :: O) H2 xs ds := ra1.keep (K3.keep E2) E2.wo
    have E4 := E3.adopt (i := i) List.mem_cons_self hq2 nO2 ra2
    have K4 := KT.adopt (i := i) (ds := ds) hq0 o1
    refine ⟨_, _, rfl, hN _ _ _ _ (E4.setD (i := j) R3) (K4.trans (Kp.setD ?_) E) qq⟩
    unfold okSet at o2 ⊢
    rw [List.getElem?_set_ne hij]
    exact o2

/-! ### promises -/
def spA (K : PySem.W.Frag) (C : Addr) (enc : α → List PyData) (ok : α → Prop) (post : α → PyData → Prop) : Sp := fun vs H Q _ => ∃ (O : List Addr) (a : α), Own O H ∧ RepAll K C O H vs (enc a) ∧ ok a ∧
  ∀ v H' d, (∀ a o, H a = some o → H' a = some o) → post a d → Rep K C O H' v d → Q v H'
/-- the first argument an owned list -/
def spUA (K : PySem.W.Frag) (C : Addr) (enc : α → List PyData) (ok : α → List PyData → Prop) (post : α → List PyData → PyData → List PyData → Prop) : Sp := fun vs H Q _ => ∃ (O : List Addr) (u : Addr) (us xs : List V) (cs : List PyData) (a : α),
  vs = .ref u :: us ∧ u ∈ O ∧ Own O H ∧ H u = some (.lst xs) ∧ RepAll K C O H xs cs ∧ RepAll K C O H us (enc a) ∧ ok a cs ∧
  ∀ v H' d cs' xs', (∀ a o, H a = some o → a ≠ u → H' a = some o) → (∀ a, H a ≠ none → H' a ≠ none) → H' u = some (.lst xs') → RepAll K C O H' xs' cs' → post a cs d cs' → Rep K C O H' v d → Q v H'
theorem ef_cA {n : Nat} {ps : List Str} {enc : α → List PyData} {ok : α → Prop} {post : α → PyData → Prop} (F : Kn X.prog X.w X.K X.mg X.base n x ps (spA X.K C enc ok post)) (hr : Room n X.A)
    (h : Ea C X (e :: es) G fun vls G1 => ∃ w, vls = (enc w).map Vl.d ∧ ok w ∧ ∀ d, post w d → Q (.d d) G1) (hg : Gl X x := by rfl) (hdb : (x == ("__debug__" : Str)) = false := by decide)
    (he : starEach (e :: es) X.env = (false, eval e X.env) :: starEach es X.env := by rfl) (hpl : (backTo pos (starEach es X.env)).any (·.1) = false := by rfl) : Ef C X (.Call (.Name x p) (e :: es) [] pos) G Q := by
  intro O σ H E Q' q
  obtain ⟨f, fd, F, hm, hk, hb⟩ := F.ex
  refine tW_of (pe_call F hr hg hm hk hb .nil pass0 (pa_W (e :: es)) hdb he hpl) ?_
  refine h O σ H E _ fun vs vls G1 H1 E1 K1 hl R1 ⟨w, e1, hp, z⟩ => ?_
  subst e1
  refine ⟨O, w, E1.wo, ?_, hp, fun v H' d k hpost r => Co.ext (Co.step q E K1) E1 k r (z d hpost)⟩
  rw [List.append_nil]
  exact repAll_of hl R1
theorem ef_cU (i : Nat) {n : Nat} {ps : List Str} {enc : α → List PyData} {ok : α → List PyData → Prop} {post : α → List PyData → PyData → List PyData → Prop} (F : Kn X.prog X.w X.K X.mg X.base n x ps (spUA X.K C enc ok post)) (hr : Room n X.A)
    (h : Ea C X (e :: es) G fun vls G1 => ∃ s cs w, vls = .o i :: (enc w).map Vl.d ∧ G1[i]? = some s ∧ s.held = some cs ∧ ok w cs ∧ ∀ d cs', post w cs d cs' → Q (.d d) (G1.set i (s.put cs'))) (hg : Gl X x := by rfl) (hdb : (x == ("__debug__" : Str)) = false := by decide)
    (he : starEach (e :: es) X.env = (false, eval e X.env) :: starEach es X.env := by rfl) (hpl : (backTo pos (starEach es X.env)).any (·.1) = false := by rfl) : Ef C X (.Call (.Name x p) (e :: es) [] pos) G Q := by
  obtain ⟨f, fd, F, hm, hk, hb⟩ := F.ex
  have F2 : Kn X.prog X.w X.K X.mg X.base n x ps (spU X.K C (fun cs ds => ∃ w, ds = enc w ∧ ok w cs) (fun cs ds d cs' => ∀ w, ds = enc w → ok w cs → post w cs d cs')) → True := fun _ => trivial
  intro O σ H E Q' q
  refine tW_of (pe_call F hr hg hm hk hb .nil pass0 (pa_W (e :: es)) hdb he hpl) ?_
  refine h O σ H E _ fun vs vls G1 H1 E1 K1 hl R1 ⟨s, cs, w, e1, g1, g2, hp, z⟩ => ?_
  subst e1
  match vs, hl, R1 with
  | [], hl, _ => simp at hl
  | v0 :: vr, hl, R1 =>
    have r0 := R1 0 v0 (.o i) rfl rfl
    obtain ⟨u, xs, rfl, hu, hH, ra⟩ := E1.own_at r0.1 g1 g2
    have rr : RepAll X.K C O H1 vr (enc w) := repAll_of (by simpa using hl) fun j v vl e1 e2 => R1 (j + 1) v vl (by simpa using e1) (by simpa using e2)
    refine ⟨O, u, vr, xs, cs, w, by rw [List.append_nil], hu, E1.wo, hH, ra, rr, hp, fun v H' d cs' xs' k k2 hH' ra' hpost r => ?_⟩
    have ne : ∀ {j : Nat} {t : Sl} {us : List PyData} {b : Addr}, i ≠ j → σ[j]? = some (some (.ref b)) → G1[j]? = some t → t.held = some us → b ≠ u := fun {j t us b} n k1 k2 k3 e => by
      subst e
      exact n (E1.dj i j s t cs us b r0.1 k1 g1 k2 g2 k3)
    have hi : i < G1.length := (List.getElem?_eq_some_iff.mp g1).1
    have kk : Keep O H1 O H' := ⟨fun b o e n => k b o e fun z => n (by rw [z]; exact hu), fun b m => .inl m⟩
    have E2 : Env X.K C O H' σ (G1.set i (s.put cs')) := by
      refine ⟨by simp [E1.len], fun j t e => ?_, fun j k t t' us us' b a1 a2 a3 a4 a5 a6 => ?_, fun b m => ?_⟩
      · by_cases ej : i = j
        · subst ej
          rw [List.getElem?_set_self hi] at e
          cases e
          refine ⟨_, r0.1, ?_⟩
          cases s with
          | un => cases g2
          | imm d => cases g2
          | own _ => exact ⟨u, xs', rfl, hu, hH', ra'⟩
          | urn _ => exact ⟨u, xs', rfl, hu, hH', ra'⟩
        · rw [List.getElem?_set_ne ej] at e
          obtain ⟨o, b1, b2⟩ := E1.sl j t e
          refine ⟨o, b1, ?_⟩
          cases t with
          | un => trivial
          | imm d =>
            obtain ⟨w, c1, c2⟩ := b2
            exact ⟨w, c1, c2.keep kk E1.wo⟩
          | own us =>
            obtain ⟨b, ys, c1, c2, c3, c4⟩ := b2
            subst c1
            exact ⟨b, ys, rfl, c2, k _ _ c3 (ne ej b1 e rfl), c4.keep kk E1.wo⟩
          | urn us =>
            obtain ⟨b, ys, c1, c2, c3, c4⟩ := b2
            subst c1
            exact ⟨b, ys, rfl, c2, k _ _ c3 (ne ej b1 e rfl), c4.keep kk E1.wo⟩
      · have old : ∀ {l : Nat} {t : Sl} {us : List PyData}, (G1.set i (s.put cs'))[l]? = some t → t.held = some us → ∃ t' us', G1[l]? = some t' ∧ t'.held = some us' := fun {l t us} k1 k2 => by
          by_cases e : i = l
          · subst e
            exact ⟨s, cs, g1, g2⟩
          · rw [List.getElem?_set_ne e] at k1
            exact ⟨t, us, k1, k2⟩
        obtain ⟨t1, u1, b1, b2⟩ := old a3 a5
        obtain ⟨t2, u2, b3, b4⟩ := old a4 a6
        exact E1.dj j k t1 t2 u1 u2 b a1 a2 b1 b3 b2 b4
      · by_cases e : b = u
        · subst e
          exact ⟨xs', hH'⟩
        · obtain ⟨ys, e'⟩ := E1.wo b m
          exact ⟨ys, k _ _ e' e⟩
    have K2 : Kp σ G1 O H1 σ (G1.set i (s.put cs')) O H' := by
      refine ⟨fun b o e n => k b o e fun z => n (by rw [z]; exact ⟨i, s, cs, r0.1, g1, g2⟩), fun b m _ => m, fun b m => .inl m, fun b ⟨j, t, us, a1, a2, a3⟩ => .inl ?_, k2, fun j us e => ⟨rfl, ?_⟩⟩
      · by_cases e : i = j
        · subst e
          exact ⟨i, s, cs, a1, g1, g2⟩
        · rw [List.getElem?_set_ne e] at a2
          exact ⟨j, t, us, a1, a2, a3⟩
      · by_cases ej : i = j
        · subst ej
          rw [g1] at e
          cases e
          exact ⟨cs', List.getElem?_set_self hi⟩
        · exact ⟨us, by rw [List.getElem?_set_ne ej]; exact e⟩
    exact q v (.d d) _ H' E2 ((K1.trans K2 E)) r (z d cs' hpost)
end

section
variable {P : Program} {w : World} {K : PySem.W.Frag} {mg : Str → Option Value} {base : Heap} {C : Addr} {α : Type}
/-- a def's body keeps its promise -/
theorem fn_A {x q : Str} {st : Stmt} {N ps : List Str} {n : Nat} {enc : α → List PyData} {ok : α → Prop} {post : α → PyData → Prop} {f : Addr} {fd : FuncData} (F : Fun K x q st f fd) (S : FnScope N ps (defScope st)) (hl : ∀ a, ok a → (enc a).length = ps.length)
    (body : ∀ (cdv : Value) (A : Around) (outer : List PySem.Env) (s : Shared) (H : Hp) (E : XK) (a : α), Room n (A.deeper (envOfC q (defScope st) s.heap.objs.size f cdv)) → ok a →
      SS C (bX P w K mg base N q st f cdv A outer s H E) (defBody st) ((enc a).map Sl.imm ++ List.replicate (N.length - (enc a).length) .un) { N := fun _ => post a .none, R := fun d _ => post a d }) :
    FnOk P w K mg base CX0 (n + 1) f fd ps (spA K C enc ok post) := by
  refine F.ok S (fun vs H Q E ⟨O, a, _, r, hp, _⟩ => by rw [r.1]; exact hl a hp) (fun cdv A outer s H vs Q E hr ⟨O, a, ow, r, hp, k⟩ => ⟨_, pss_W (defBody st), ?_⟩)
  have hpl : ps.length ≤ N.length := by
    have := congrArg List.length S.pre
    rw [List.length_take] at this
    omega
  have E0 := env_start (N := N) ow r (by rw [hl a hp]; exact hpl)
  refine body cdv A outer s H E a hr hp O (L2.start N vs) H E0 _ (fun O' σ' G' H' E' K' z => ?_) (fun O' σ' v d G' H' E' K' rv z => ?_) (fun _ _ _ _ _ _ z => z.elim) (fun _ _ _ _ _ _ z => z.elim)
  · exact k .non H' .none (fun a o e => K'.obj a o e no_ow) z .non
  · exact k v H' d (fun a o e => K'.obj a o e no_ow) z (rv.less fun a m => K'.stay a m no_ow)
theorem kn_A {x : Str} {st : Stmt} {N ps : List Str} {n : Nat} {enc : α → List PyData} {ok : α → Prop} {post : α → PyData → Prop} (A : At K mg x st) (S : FnScope N ps (defScope st)) (hl : ∀ a, ok a → (enc a).length = ps.length) (hb : ∀ f fd, Fun K x x st f fd → Binds K fd ps [])
    (body : ∀ (f : Addr) (cdv : Value) (A : Around) (outer : List PySem.Env) (s : Shared) (H : Hp) (E : XK) (a : α), Room n (A.deeper (envOfC x (defScope st) s.heap.objs.size f cdv)) → ok a →
      SS C (bX P w K mg base N x st f cdv A outer s H E) (defBody st) ((enc a).map Sl.imm ++ List.replicate (N.length - (enc a).length) .un) { N := fun _ => post a .none, R := fun d _ => post a d }) :
    Kn P w K mg base (n + 1) x ps (spA K C enc ok post) := by
  obtain ⟨f, fd, F, hm⟩ := A.ex
  exact ⟨f, fd, fn_A F S hl (body f), hm, F.kp, hb f fd F⟩
theorem env_startU {N : List Str} {O : List Addr} {H : Hp} {u : Addr} {us xs : List V} {cs ds : List PyData} (w : Own O H) (hu : u ∈ O) (hH : H u = some (.lst xs)) (ru : RepAll K C O H xs cs) (r : RepAll K C O H us ds) (hl : ds.length + 1 ≤ N.length) :
    Env K C O H (L2.start N (.ref u :: us)) (.urn cs :: (ds.map Sl.imm ++ List.replicate (N.length - 1 - ds.length) .un)) := by
  have hv := r.1
  have none_held : ∀ {j : Nat} {s : Sl} {es : List PyData}, (ds.map Sl.imm ++ List.replicate (N.length - 1 - ds.length) .un)[j]? = some s → s.held = some es → False := fun {j s es} h hs => by
    by_cases hi : j < ds.length
    · rw [List.getElem?_append_left (by simpa using hi), List.getElem?_map, List.getElem?_eq_getElem hi] at h
      cases h
      cases hs
    · rw [List.getElem?_append_right (by simpa using hi), List.getElem?_replicate] at h
      split at h <;> cases h
      cases hs
  refine ⟨?_, fun i s h => ?_, fun i j s t ds1 es a h1 h2 h3 h4 h5 h6 => ?_, w⟩
  · unfold L2.start
    simp [hv]
    omega
  · cases i with
    | zero =>
      simp at h
      subst h
      exact ⟨_, by unfold L2.start; simp, u, xs, rfl, hu, hH, ru⟩
    | succ i =>
      rw [List.getElem?_cons_succ] at h
      by_cases hi : i < ds.length
      · rw [List.getElem?_append_left (by simpa using hi), List.getElem?_map, List.getElem?_eq_getElem hi] at h
        cases h
        have hi' : i < us.length := by omega
        refine ⟨some us[i], ?_, us[i], rfl, r.2 i _ _ (List.getElem?_eq_getElem hi') (List.getElem?_eq_getElem hi)⟩
        unfold L2.start
        rw [List.getElem?_append_left (by simp; omega), List.getElem?_map, List.getElem?_cons_succ, List.getElem?_eq_getElem hi']
        rfl
      · rw [List.getElem?_append_right (by simpa using hi), List.getElem?_replicate] at h
        split at h
        · cases h
          rename_i hh
          have : i + 1 < (L2.start N (.ref u :: us)).length := by
            unfold L2.start
            simp at hh ⊢
            omega
          exact ⟨_, List.getElem?_eq_getElem this, trivial⟩
        · cases h
  · cases i with
    | zero =>
      cases j with
      | zero => rfl
      | succ j =>
        rw [List.getElem?_cons_succ] at h4
        exact (none_held h4 h6).elim
    | succ i =>
      rw [List.getElem?_cons_succ] at h3
      exact (none_held h3 h5).elim
theorem ow_startU {N : List Str} {u : Addr} {us : List V} {cs ds : List PyData} {m : Nat} {b : Addr} : Ow (L2.start N (.ref u :: us)) (.urn cs :: (ds.map Sl.imm ++ List.replicate m .un)) b ↔ b = u := by
  constructor
  · rintro ⟨i, s, es, h1, h2, h3⟩
    cases i with
    | zero =>
      unfold L2.start at h1
      simp at h1
      exact h1.symm
    | succ i =>
      rw [List.getElem?_cons_succ] at h2
      exfalso
      by_cases hi : i < ds.length
      · rw [List.getElem?_append_left (by simpa using hi), List.getElem?_map, List.getElem?_eq_getElem hi] at h2
        cases h2
        cases h3
      · rw [List.getElem?_append_right (by simpa using hi), List.getElem?_replicate] at h2
        split at h2 <;> cases h2
        cases h3
  · rintro rfl
    exact ⟨0, .urn cs, cs, by unfold L2.start; simp, rfl, rfl⟩
theorem kn_U {x : Str} {st : Stmt} {N ps : List Str} {n : Nat} {enc : α → List PyData} {ok : α → List PyData → Prop} {post : α → List PyData → PyData → List PyData → Prop} (A : At K mg x st) (S : FnScope N ps (defScope st)) (hl : ∀ a cs, ok a cs → (enc a).length + 1 = ps.length) (hb : ∀ f fd, Fun K x x st f fd → Binds K fd ps [])
    (body : ∀ (f : Addr) (cdv : Value) (A : Around) (outer : List PySem.Env) (s : Shared) (H : Hp) (E : XK) (a : α) (cs : List PyData), Room n (A.deeper (envOfC x (defScope st) s.heap.objs.size f cdv)) → ok a cs →
      SS C (bX P w K mg base N x st f cdv A outer s H E) (defBody st) (.urn cs :: ((enc a).map Sl.imm ++ List.replicate (N.length - 1 - (enc a).length) .un))
        { N := fun G' => ∀ cs', G'[0]? = some (.urn cs') → post a cs .none cs', R := fun d G' => ∀ cs', G'[0]? = some (.urn cs') → post a cs d cs' }) :
    Kn P w K mg base (n + 1) x ps (spUA K C enc ok post) := by
  obtain ⟨f, fd, F, hm⟩ := A.ex
  refine ⟨f, fd, F.ok S (fun vs H Q E ⟨O, u, us, xs, cs, a, e, _, _, _, _, r, hp, _⟩ => by rw [e, List.length_cons, r.1]; exact hl a cs hp) (fun cdv A outer s H vs Q E hr ⟨O, u, us, xs, cs, a, e, hu, ow, hH, ru, r, hp, k⟩ => ⟨_, pss_W (defBody st), ?_⟩), hm, F.kp, hb f fd F⟩
  subst e
  have hpl : ps.length ≤ N.length := by
    have := congrArg List.length S.pre
    rw [List.length_take] at this
    omega
  have E0 := env_startU (N := N) ow hu hH ru r (by rw [hl a cs hp]; exact hpl)
  have fin : ∀ {O' : List Addr} {σ' : L2.St} {G' : Ga} {H' : Hp} {v : V} {d : PyData}, Env K C O' H' σ' G' → Kp (L2.start N (.ref u :: us)) (.urn cs :: ((enc a).map Sl.imm ++ List.replicate (N.length - 1 - (enc a).length) .un)) O H σ' G' O' H' → Rep K C O' H' v d → (∀ cs', G'[0]? = some (.urn cs') → post a cs d cs') → Q v H' := fun {O' σ' G' H' v d} E' K' rv z => by
    obtain ⟨e1, cs', e2⟩ := K'.urn 0 cs rfl
    have e3 : σ'[0]? = some (some (.ref u)) := by
      rw [e1]
      unfold L2.start
      simp
    obtain ⟨o, g1, b, ys, g2, g3, g4, g5⟩ := E'.sl 0 _ e2
    rw [e3] at g1
    cases g1
    cases g2
    have sub : ∀ b, b ∈ O → b ∈ O' := fun b m => by
      by_cases e : b = u
      · rw [e]
        exact g3
      · exact K'.stay b m fun z => e (ow_startU.mp z)
    exact k v H' d cs' ys (fun b o e n => K'.obj b o e fun z => n (ow_startU.mp z)) K'.there g4 (g5.less sub) (z cs' e2) (rv.less sub)
  refine body f cdv A outer s H E a cs hr hp O (L2.start N (.ref u :: us)) H E0 _ (fun O' σ' G' H' E' K' z => ?_) (fun O' σ' v d G' H' E' K' rv z => ?_) (fun _ _ _ _ _ _ z => z.elim) (fun _ _ _ _ _ _ z => z.elim)
  · exact fin E' K' .non z
  · exact fin E' K' rv z
end
end DL
/-! DL12: cuts, functions, instances read. -/
namespace DL
open PySem PySem.Spec PyProof.Rows L2

section
variable {C : Addr} {X : Cx} {G G' : Ga} {T : Es} {Q : Vl → Ga → Prop} {O O' O2 : List Addr} {σ σ' σ2 : L2.St} {H H' H2 : Hp} {Q' : VK} {G2 : Ga}
variable {x y z nm f : Str} {pos pos' p p2 p3 pt pa pb pc apos cpos : Pos} {a b e c e2 tg iter elt : Expr} {es : List Expr} {st : Stmt} {rest body b1 b2 : List Stmt} {scope : Scope}
variable {α : Type}

/-! ### cuts -/
theorem ef_cut (d : PyData) (h : Ef C X e G fun v G1 => v = .d d ∧ G1 = G) (q : Q (.d d) G) : Ef C X e G Q := h.mono fun v G1 ⟨e1, e2⟩ => by
  subst e1
  rw [e2]
  exact q
theorem et_cut {QT : Bool → Ga → Prop} (b : Bool) (h : Et C X e G fun k G1 => k = b ∧ G1 = G) (q : QT b G) : Et C X e G QT := fun O σ H E Q' k => h O σ H E Q' fun b' G' H' E' K' ⟨e1, e2⟩ => k b' G' H' E' K' (by
  subst e1
  rw [e2]
  exact q)
theorem ss_ifc (b : Bool) (h : Et C X c G fun k G1 => k = b ∧ G1 = G) (h1 : b = true → SS C X b1 G { T with N := fun G' => SS C X rest G' T }) (h0 : b = false → SS C X b2 G { T with N := fun G' => SS C X rest G' T }) : SS C X (.If c b1 b2 pos :: rest) G T :=
  ss_if (et_cut b h ⟨h1, h0⟩)
theorem Es.eta {T : Es} : ({ T with N := T.N } : Es) = T := rfl
theorem SS.mono {st : List Stmt} {T1 : Es} (h : SS C X st G T1) (hN : ∀ G', T1.N G' → T.N G') (hR : ∀ d G', T1.R d G' → T.R d G') (hB : ∀ G', T1.B G' → T.B G') (hJ : ∀ G', T1.J G' → T.J G') : SS C X st G T :=
  fun O σ H E D kN kR kB kJ => h O σ H E D (fun O' σ' G' H' E' K' q => kN O' σ' G' H' E' K' (hN _ q)) (fun O' σ' v d G' H' E' K' r q => kR O' σ' v d G' H' E' K' r (hR _ _ q)) (fun O' σ' G' H' E' K' q => kB O' σ' G' H' E' K' (hB _ q)) (fun O' σ' G' H' E' K' q => kJ O' σ' G' H' E' K' (hJ _ q))

/-! ### functions -/
abbrev spF (K : PySem.W.Frag) (C : Addr) (enc : α → List PyData) (ok : α → Prop) (val : α → PyData) : Sp := spA K C enc ok (fun a d => d = val a)
theorem ef_cF {n : Nat} {ps : List Str} {enc : α → List PyData} {ok : α → Prop} {val : α → PyData} (F : Kn X.prog X.w X.K X.mg X.base n x ps (spF X.K C enc ok val)) (hr : Room n X.A)
    (h : Ea C X (e :: es) G fun vls G1 => ∃ w, vls = (enc w).map Vl.d ∧ ok w ∧ Q (.d (val w)) G1) (hg : Gl X x := by rfl) (hdb : (x == ("__debug__" : Str)) = false := by decide)
    (he : starEach (e :: es) X.env = (false, eval e X.env) :: starEach es X.env := by rfl) (hpl : (backTo pos (starEach es X.env)).any (·.1) = false := by rfl) : Ef C X (.Call (.Name x p) (e :: es) [] pos) G Q :=
  ef_cA F hr (fun O σ H E Q' q => h O σ H E Q' fun vs vls G1 H1 E1 K1 hl R1 ⟨w, e1, hok, z⟩ => q vs vls G1 H1 E1 K1 hl R1 ⟨w, e1, hok, fun d hd => by rw [hd]; exact z⟩) hg hdb he hpl

/-! ### instances -/
def nigD (d1 d2 d3 : PyData) : PyData := .dict [(.none, d1), (.none, d2), (.none, d3)]
theorem Rep.nig_inv {v : V} {d1 d2 d3 : PyData} (h : Rep X.K C O H v (nigD d1 d2 d3)) : ∃ a dx v1 v2 v3, v = .ref a ∧ H a = some (.ins C dx [("held_divisors", v1), ("held_parties", v2), ("held_piles", v3)]) ∧ Rep X.K C O H v1 d1 ∧ Rep X.K C O H v2 d2 ∧ Rep X.K C O H v3 d3 := by
  unfold nigD at h
  cases h with
  | nig h h1 h2 h3 => exact ⟨_, _, _, _, _, rfl, h, h1, h2, h3⟩
/-- what of the class is used -/
structure Nc (K : PySem.W.Frag) (C : Addr) : Prop where
  cls : Cls K C
  n1 : NoAttr K C "held_divisors"
  n2 : NoAttr K C "held_parties"
  n3 : NoAttr K C "held_piles"
theorem ef_f1 (N : Nc X.K C) (h : Ef C X e G fun v G1 => ∃ d1 d2 d3, v = .d (nigD d1 d2 d3) ∧ Q (.d d1) G1) (hb : attributeBase e "held_divisors" X.env (eval e X.env) = eval e X.env := by rfl) : Ef C X (.Attribute e "held_divisors" pos) G Q := by
  intro O σ H E Q' q
  refine tW_of (pe_fld (pe_W e) hb) ?_
  refine h O σ H E _ fun v vl G1 H1 E1 K1 R1 ⟨d1, d2, d3, e1, z⟩ => ?_
  subst e1
  obtain ⟨a, dx, v1, v2, v3, rfl, ha, r1, r2, r3⟩ := Rep.nig_inv R1
  exact ⟨a, C, dx, _, v1, rfl, ha, N.cls, N.n1, by kernel_rfl, Co.at (Co.step q E K1) E1 r1 z⟩
theorem ef_f2 (N : Nc X.K C) (h : Ef C X e G fun v G1 => ∃ d1 d2 d3, v = .d (nigD d1 d2 d3) ∧ Q (.d d2) G1) (hb : attributeBase e "held_parties" X.env (eval e X.env) = eval e X.env := by rfl) : Ef C X (.Attribute e "held_parties" pos) G Q := by
  intro O σ H E Q' q
  refine tW_of (pe_fld (pe_W e) hb) ?_
  refine h O σ H E _ fun v vl G1 H1 E1 K1 R1 ⟨d1, d2, d3, e1, z⟩ => ?_
  subst e1
  obtain ⟨a, dx, v1, v2, v3, rfl, ha, r1, r2, r3⟩ := Rep.nig_inv R1
  exact ⟨a, C, dx, _, v2, rfl, ha, N.cls, N.n2, by kernel_rfl, Co.at (Co.step q E K1) E1 r2 z⟩
theorem ef_f3 (N : Nc X.K C) (h : Ef C X e G fun v G1 => ∃ d1 d2 d3, v = .d (nigD d1 d2 d3) ∧ Q (.d d3) G1) (hb : attributeBase e "held_piles" X.env (eval e X.env) = eval e X.env := by rfl) : Ef C X (.Attribute e "held_piles" pos) G Q := by
  intro O σ H E Q' q
  refine tW_of (pe_fld (pe_W e) hb) ?_
  refine h O σ H E _ fun v vl G1 H1 E1 K1 R1 ⟨d1, d2, d3, e1, z⟩ => ?_
  subst e1
  obtain ⟨a, dx, v1, v2, v3, rfl, ha, r1, r2, r3⟩ := Rep.nig_inv R1
  exact ⟨a, C, dx, _, v3, rfl, ha, N.cls, N.n3, by kernel_rfl, Co.at (Co.step q E K1) E1 r3 z⟩
/-- a property of the class by its promise: at a night told by w -/
structure Pr {α : Type} (P : Program) (w : World) (K : PySem.W.Frag) (mg : Str → Option Value) (base : Heap) (C : Addr) (n : Nat) (f : Str) (enc : α → List PyData) (ok : α → Prop) (val : α → PyData) : Prop where
  ex : ∃ p g fd, PropOf K C f p g ∧ FnOk P w K mg base CX0 n g fd ["self"] (spF K C enc ok val) ∧ Binds K fd ["self"] []
theorem ef_prop {n : Nat} {enc : α → List PyData} {ok : α → Prop} {val : α → PyData} (N : Nc X.K C) (F : Pr X.prog X.w X.K X.mg X.base C n f enc ok val) (hr : Room (n + 1) X.A)
    (h : Ef C X e G fun v G1 => ∃ w d1 d2 d3, v = .d (nigD d1 d2 d3) ∧ enc w = [nigD d1 d2 d3] ∧ ok w ∧ Q (.d (val w)) G1) (hb : attributeBase e f X.env (eval e X.env) = eval e X.env := by rfl) : Ef C X (.Attribute e f pos) G Q := by
  intro O σ H E Q' q
  obtain ⟨p', g, fd, hp, F, hbi⟩ := F.ex
  refine tW_of (pe_prop (pe_W e) N.cls hp F hr hbi .nil pass0 hb) ?_
  refine h O σ H E _ fun v vl G1 H1 E1 K1 R1 ⟨w, d1, d2, d3, e1, e2, hok, z⟩ => ?_
  subst e1
  obtain ⟨a, dx, v1, v2, v3, rfl, ha, _⟩ := Rep.nig_inv R1
  refine ⟨a, dx, _, rfl, ha, O, w, E1.wo, ?_, hok, fun v H' d k hd r => ?_⟩
  · rw [e2]
    exact .cons R1 .nil
  · exact Co.ext (Co.step q E K1) E1 k r (by rw [hd]; exact z)
/-- o.m() -/
structure Mt {α : Type} (P : Program) (w : World) (K : PySem.W.Frag) (mg : Str → Option Value) (base : Heap) (C : Addr) (n : Nat) (m : Str) (enc : α → List PyData) (ok : α → Prop) (val : α → PyData) : Prop where
  ex : ∃ g fd, Meth K C m g ∧ FnOk P w K mg base CX0 n g fd ["self"] (spF K C enc ok val) ∧ Binds K fd ["self"] []
theorem ef_meth {pl : Sem Bool} {n : Nat} {enc : α → List PyData} {ok : α → Prop} {val : α → PyData} (N : Nc X.K C) (F : Mt X.prog X.w X.K X.mg X.base C n nm enc ok val) (hr : Room n X.A)
    (hne : ([("held_divisors", V.non), ("held_parties", V.non), ("held_piles", V.non)] : List (Str × V)).lookup nm = none)
    (h : Ef C X e G fun v G1 => ∃ w d1 d2 d3, v = .d (nigD d1 d2 d3) ∧ enc w = [nigD d1 d2 d3] ∧ ok w ∧ Q (.d (val w)) G1)
    (ht : eval (.Call (.Attribute e nm apos) [] [] pos) X.env = (do
      let ov ← eval e X.env
      standAt apos.atName
      let (f, first) ← holding [ov] (getMethod ov nm pl)
      callWith pos f first (backTo pos (starEach [] X.env)) (backToKw pos (keywordEach [] X.env))) := by rfl) : Ef C X (.Call (.Attribute e nm apos) [] [] pos) G Q := by
  intro O σ H E Q' q
  obtain ⟨g, fd, hp, F, hbi⟩ := F.ex
  refine tW_of (pe_meth0 (pl := pl) (pe_W e) N.cls hp F hr hbi .nil pass0 ht) ?_
  refine h O σ H E _ fun v vl G1 H1 E1 K1 R1 ⟨w, d1, d2, d3, e1, e2, hok, z⟩ => ?_
  subst e1
  obtain ⟨a, dx, v1, v2, v3, rfl, ha, _⟩ := Rep.nig_inv R1
  refine ⟨a, dx, _, rfl, ha, ?_, ?_⟩
  · have l : ∀ (us vs : List V) , us.length = 3 → True := fun _ _ _ => trivial
    simp only [List.lookup] at hne ⊢
    revert hne
    split
    · intro h; cases h
    · split
      · intro h; cases h
      · split
        · intro h; cases h
        · intro _; rfl
  · refine ⟨O, w, E1.wo, ?_, hok, fun v H' d k hd r => ?_⟩
    · rw [e2]
      exact .cons R1 .nil
    · exact Co.ext (Co.step q E K1) E1 k r (by rw [hd]; exact z)
end
section
variable {P : Program} {w : World} {K : PySem.W.Frag} {mg : Str → Option Value} {base : Heap} {C : Addr} {α : Type}
theorem kn_F {x : Str} {st : Stmt} {N ps : List Str} {n : Nat} {enc : α → List PyData} {ok : α → Prop} {val : α → PyData} (A : At K mg x st) (S : FnScope N ps (defScope st)) (hl : ∀ a, ok a → (enc a).length = ps.length) (hb : ∀ f fd, Fun K x x st f fd → Binds K fd ps [])
    (body : ∀ (f : Addr) (cdv : Value) (A : Around) (outer : List PySem.Env) (s : Shared) (H : Hp) (E : XK) (a : α), Room n (A.deeper (envOfC x (defScope st) s.heap.objs.size f cdv)) → ok a →
      SS C (bX P w K mg base N x st f cdv A outer s H E) (defBody st) ((enc a).map Sl.imm ++ List.replicate (N.length - (enc a).length) .un) { N := fun _ => PyData.none = val a, R := fun d _ => d = val a }) :
    Kn P w K mg base (n + 1) x ps (spF K C enc ok val) := kn_A A S hl hb body
end
end DL
/-! M1: the meanings of the defs, in plain Lean. -/
namespace M
open PySem PySem.Spec PyProof.Rows

structure Pt where
  dv : List Int
  cl : List (Str × Int)
  hp : List (Int × List Str)
def Pt.names (p : Pt) : List Str := p.cl.map Prod.fst
def Pt.tl (p : Pt) : List Int := p.cl.map Prod.snd
def dvD (p : Pt) : PyData := .tuple (p.dv.map .int)
def ptyD (c : Str × Int) : PyData := .tuple [.str c.1, .int c.2]
def clD (p : Pt) : PyData := .tuple (p.cl.map ptyD)
def pilD (h : Int × List Str) : PyData := .tuple [.int h.1, .tuple (h.2.map .str)]
def hpD (p : Pt) : PyData := .tuple (p.hp.map pilD)
def ptD (p : Pt) : PyData := .list [dvD p, clD p, hpD p]
abbrev nig (p : Pt) : PyData := DL.nigD (dvD p) (clD p) (hpD p)
/-- a letter, a digit -/
def isL (c : Nat) : Prop := 97 ≤ c ∧ c ≤ 122
def isG (c : Nat) : Prop := 48 ≤ c ∧ c ≤ 57
structure NmOk (z : Str) : Prop where
  lo : 1 ≤ z.cps.size
  hi : z.cps.size ≤ 8
  fst : ∃ c, z.cps.toList[0]? = some c ∧ isL c
  all : ∀ c ∈ z.cps.toList, isL c ∨ isG c
structure Ok (p : Pt) : Prop where
  d1 : 1 ≤ p.dv.length
  d3 : p.dv.length ≤ 3
  da : p.dv.Pairwise (· < ·)
  dr : ∀ x ∈ p.dv, 1 ≤ x ∧ x ≤ 9
  c1 : 1 ≤ p.cl.length
  c3 : p.cl.length ≤ 3
  cn : p.names.Nodup
  cv : ∀ z ∈ p.names, NmOk z
  ct : ∀ c ∈ p.cl, 0 ≤ c.2 ∧ c.2 ≤ 12
  h2 : p.hp.length ≤ 2
  hs : ∀ h ∈ p.hp, 0 ≤ h.1 ∧ h.1 ≤ 4
  hn : ∀ h ∈ p.hp, h.2 ≠ [] ∧ h.2 = p.names.filter (fun z => decide (z ∈ h.2))

/-! ### small ones -/
def isWh : PyData → Bool
  | .int _ => true
  | _ => false
/-- data that a paper may hold -/
inductive Dat : PyData → Prop
  | non : Dat .none
  | bl (b : Bool) : Dat (.bool b)
  | int (i : Int) : Dat (.int i)
  | str (z : Str) : Dat (.str z)
  | tup {ds : List PyData} (h : ∀ d ∈ ds, Dat d) (l : ds.length ≤ 3000) : Dat (.tuple ds)
  | lst {ds : List PyData} (h : ∀ d ∈ ds, Dat d) (l : ds.length ≤ 3000) : Dat (.list ds)
  | emp : Dat (.dict [])
theorem Dat.pl {d : PyData} (h : Dat d) : DL.isPl d = true := by cases h <;> rfl
def inB (lo hi : Int) : PyData → Bool
  | .int i => decide (lo ≤ i) && decide (i ≤ hi)
  | _ => false
def isTupN (n : Nat) : PyData → Bool
  | .tuple ds => decide (ds.length = n)
  | _ => false
/-- fractions -/
def frD (f : Int × Int) : PyData := .tuple [.int f.1, .int f.2]
def gcdI (a b : Int) : Int := (Int.gcd a b : Int)
def low (t b : Int) : Int × Int := (t.fdiv (gcdI t b), b.fdiv (gcdI t b))
def isFr : PyData → Bool
  | .tuple [.int a, .int b] => decide (0 < b) && decide (gcdI a b = 1)
  | _ => false
structure FrOk (f : Int × Int) : Prop where
  p0 : 0 ≤ f.1
  q1 : 1 ≤ f.2
  q9 : f.2 ≤ 9
  hi : f.1 ≤ 12 * f.2
def intsOf : List PyData → Option (List Int)
  | [] => some []
  | .int i :: ds => (intsOf ds).map (i :: ·)
  | _ :: _ => none
def strsOf : List PyData → Option (List Str)
  | [] => some []
  | .str i :: ds => (strsOf ds).map (i :: ·)
  | _ :: _ => none
def ascS (ss : List Str) : Bool := (ss.zip ss.tail).all fun q => decide (q.1.cps.toList < q.2.cps.toList)
def mx (i j : Int) : Int := if j > i then j else i
/-- the need of a party -/
def needI (dv : List Int) (count : Int) (s : Nat) (f : Int × Int) : Int := if s = 0 then count else mx count (0 - (0 - f.1 * dv.getD (s - 1) 0).fdiv f.2)
def stepI (dv : List Int) (count : Int) (s : Nat) (f : Int × Int) : Option (Int × Int) :=
  if s = dv.length then none else if needI dv count s f * f.2 ≤ f.1 * dv.getD s 0 then none else some (low (needI dv count s f) (dv.getD s 0))
def optD {α : Type} (f : α → PyData) : Option α → PyData
  | none => .none
  | some a => f a
/-- tables -/
def tabD (t : List Nat) : PyData := .tuple (t.map fun (n : Nat) => .int (n : Int))
def tabs : Nat → Nat → List (List Nat)
  | 0, _ => []
  | 1, s => [[s]]
  | m + 2, s => (List.range (s + 1)).flatMap fun f => (tabs (m + 1) (s - f)).map (f :: ·)
structure TabOk (p : Pt) (t : List Nat) : Prop where
  len : t.length = p.cl.length
  sum : t.sum = p.dv.length
def topM (p : Pt) (t : List Nat) : List PyData → Int × Int → Option (Int × Int)
  | [], f => some f
  | .tuple [.str z, v] :: es, f => match p.names.idxOf? z with
    | none => none
    | some i => match stepI p.dv (p.tl.getD i 0) (t.getD i 0) f with
      | none => none
      | some f' => match v with
        | .tuple [.int a, .int b] => if a = f'.1 ∧ b = f'.2 then topM p t es f' else none
        | _ => none
  | _ :: _, _ => none
def top (p : Pt) (t : List Nat) : PyData → Option (Int × Int)
  | .tuple es => topM p t es (0, 1)
  | _ => none
def needs (p : Pt) (t : List Nat) (f : Int × Int) : List Int := (p.cl.zip t).map fun q => needI p.dv q.1.2 q.2 f
def lacks (p : Pt) (t : List Nat) (f : Int × Int) : List Int := (p.cl.zip t).map fun q => needI p.dv q.1.2 q.2 f - q.1.2
/-- what the piles of a group give -/
def given (p : Pt) (ss : List Str) : Int := ((p.hp.filter fun h => ss.any fun z => decide (z ∈ h.2)).map Prod.fst).sum
def gang (p : Pt) : PyData → Option (List Str)
  | .tuple ds => match strsOf ds with
    | none => none
    | some ss => if ss ≠ [] ∧ (∀ z ∈ ss, z ∈ p.names) ∧ ascS ss = true then some ss else none
  | _ => none
/-- what a bloc lacks -/
def lackOf (p : Pt) (t : List Nat) (f : Int × Int) (ss : List Str) : Int := (((p.cl.zip t).filter fun q => decide (q.1.1 ∈ ss)).map fun q => needI p.dv q.1.2 q.2 f - q.1.2).sum
def barDue (p : Pt) (t : List Nat) : PyData → Bool
  | .tuple [a, b] => match gang p b with
    | none => false
    | some ss => match top p t a with
      | none => false
      | some f => decide (given p ss < lackOf p t f ss)
  | _ => false
def held (p : Pt) (ss : List Str) (t : List Nat) : Nat := (((p.cl.zip t).filter fun q => decide (q.1.1 ∈ ss)).map Prod.snd).sum
def isTab (t : List Nat) (d : PyData) : Bool := match d with
  | .tuple vs => decide (intsOf vs = some (t.map fun (n : Nat) => (n : Int)))
  | _ => false
def pairDue (p : Pt) (t : List Nat) : PyData → Bool
  | .tuple [a, b] => isTab t a && barDue p t b
  | _ => false
def rowsOf (p : Pt) (sure : Bool) (ss : List Str) (n : Int) : List (List Nat) := (tabs p.cl.length p.dv.length).filter fun t => decide (decide ((held p ss t : Int) < n) = sure)
def due (p : Pt) (sure : Bool) (g ch paper : PyData) : Bool := match gang p g with
  | none => false
  | some ss => match ch with
    | .int n => decide (0 ≤ n) && decide (n ≤ p.dv.length) && (match paper with
      | .tuple ds => decide (ds.length = (rowsOf p sure ss n).length) && ((rowsOf p sure ss n).zip ds).all fun q => pairDue p q.1 q.2
      | _ => false)
    | _ => false
end M
/-! DL13: all, any, sum of what a comprehension made. -/
namespace DL
open PySem PySem.Spec PyProof.Rows L2

section
variable {C : Addr} {X : Cx} {G G' : Ga} {T : Es} {Q : Vl → Ga → Prop}
variable {x y z nm f : Str} {pos pos' p p2 p3 pt pa pb pc apos cpos : Pos} {a b e c e2 tg iter elt : Expr} {es : List Expr}
theorem ef_allF (B : Bt X.mg) (h : Ef C X a G fun v G1 => ∃ (ds : List PyData) (pr : PyData → Bool), v = .d (.list (ds.map fun d => .bool (pr d))) ∧ Q (.d (.bool (ds.all pr))) G1) (hc : X.calm = true := by rfl) (hg : Gl X "all" := by rfl) (he : starEach [a] X.env = (false, eval a X.env) :: starEach [] X.env := by rfl) : Ef C X (.Call (.Name "all" p) [a] [] pos) G Q :=
  ef_all B (h.mono fun v G1 ⟨ds, pr, e, q⟩ => ⟨ds.map pr, by rw [e, List.map_map]; rfl, by rw [List.all_map]; exact q⟩) hc hg he
theorem ef_anyF (B : Bt X.mg) (h : Ef C X a G fun v G1 => ∃ (ds : List PyData) (pr : PyData → Bool), v = .d (.list (ds.map fun d => .bool (pr d))) ∧ Q (.d (.bool (ds.any pr))) G1) (hc : X.calm = true := by rfl) (hg : Gl X "any" := by rfl) (he : starEach [a] X.env = (false, eval a X.env) :: starEach [] X.env := by rfl) : Ef C X (.Call (.Name "any" p) [a] [] pos) G Q :=
  ef_any B (h.mono fun v G1 ⟨ds, pr, e, q⟩ => ⟨ds.map pr, by rw [e, List.map_map]; rfl, by rw [List.any_map]; exact q⟩) hc hg he
theorem ef_sumF (B : Bt X.mg) (h : Ef C X a G fun v G1 => ∃ (ds : List PyData) (pr : PyData → Int), v = .d (.list (ds.map fun d => .int (pr d))) ∧ Q (.d (.int (ds.map pr).sum)) G1) (hc : X.calm = true := by rfl) (hg : Gl X "sum" := by rfl) (he : starEach [a] X.env = (false, eval a X.env) :: starEach [] X.env := by rfl) : Ef C X (.Call (.Name "sum" p) [a] [] pos) G Q :=
  ef_sum B (h.mono fun v G1 ⟨ds, pr, e, q⟩ => ⟨ds.map pr, by rw [e, List.map_map]; rfl, q⟩) hc hg he
theorem signs_mem {z : Str} {d : PyData} (h : d ∈ signsD z) : ∃ c, c ∈ z.cps.toList ∧ d = .str ⟨#[c]⟩ := by
  obtain ⟨c, h1, h2⟩ := List.mem_map.mp h
  exact ⟨c, h1, h2.symm⟩
end
end DL
/-! DL14: slots forgotten, ifs joined, rows cut. -/
namespace DL
open PySem PySem.Spec PyProof.Rows L2

section
variable {C : Addr} {X : Cx} {G G' : Ga} {T : Es} {Q : Vl → Ga → Prop} {O O' O2 : List Addr} {σ σ' σ2 : L2.St} {H H' H2 : Hp} {Q' : VK} {G2 : Ga}
variable {x y z nm f : Str} {pos pos' p p2 p3 pt pa pb pc apos cpos : Pos} {a b e c e2 tg iter elt : Expr} {es : List Expr} {st : List Stmt} {rest body b1 b2 : List Stmt} {scope : Scope}
theorem wipeG_held {vs : List Nat} {i : Nat} {s : Sl} {ds : List PyData} (h : (wipeG G vs)[i]? = some s) (hs : s.held = some ds) : G[i]? = some s := by
  have n : i ∉ vs := fun z => by
    rw [wipeG_in G z h] at hs
    cases hs
  rw [wipeG_at G n] at h
  exact h
theorem Env.unG {vs : List Nat} (E : Env X.K C O H σ G) : Env X.K C O H σ (wipeG G vs) := by
  refine ⟨by rw [wipeG_len, E.len], fun j s h => ?_, fun j k s t ds es b g1 g2 g3 g4 g5 g6 => E.dj j k s t ds es b g1 g2 (wipeG_held g3 g5) (wipeG_held g4 g6) g5 g6, E.wo⟩
  by_cases hj : j ∈ vs
  · rw [wipeG_in G hj h]
    have hlt : j < σ.length := by
      have := (List.getElem?_eq_some_iff.mp h).1
      rw [wipeG_len, ← E.len] at this
      exact this
    exact ⟨_, List.getElem?_eq_getElem hlt, trivial⟩
  · rw [wipeG_at G hj] at h
    exact E.sl j s h
theorem Kp.unG {vs : List Nat} (ok : okWipe G vs = true) : Kp σ G O H σ (wipeG G vs) O H where
  obj := fun a o h _ => h
  stay := fun a h _ => h
  new := fun a h => .inl h
  own := fun a ⟨j, s, ds, g1, g2, g3⟩ => .inl ⟨j, s, ds, g1, wipeG_held g2 g3, g3⟩
  there := fun a h => h
  urn := fun j ds h => by
    have n : j ∉ vs := fun z => by
      have := okWipe_held ok z h
      cases this
    exact ⟨rfl, ds, by rw [wipeG_at G n]; exact h⟩
/-- what slots hold is forgotten -/
theorem ss_fgt (vs : List Nat) (ok : okWipe G vs = true) (h : SS C X st (wipeG G vs) T) : SS C X st G T := fun O σ H E D hN hR hB hJ => by
  have K0 : Kp σ G O H σ (wipeG G vs) O H := Kp.unG ok
  exact h O σ H E.unG D (fun O' σ' G' H' E' K' q => hN O' σ' G' H' E' (K0.trans K' E) q) (fun O' σ' v d G' H' E' K' r q => hR O' σ' v d G' H' E' (K0.trans K' E) r q)
    (fun O' σ' G' H' E' K' q => hB O' σ' G' H' E' (K0.trans K' E) q) (fun O' σ' G' H' E' K' q => hJ O' σ' G' H' E' (K0.trans K' E) q)
/-- both ways of an if lead to M -/
theorem ss_ifM (M : Ga → Prop) (h : Et C X c G fun k G1 => (k = true → SS C X b1 G1 { T with N := M }) ∧ (k = false → SS C X b2 G1 { T with N := M })) (hr : ∀ G', M G' → SS C X rest G' T) : SS C X (.If c b1 b2 pos :: rest) G T :=
  ss_if fun O σ H E Q' k => h O σ H E Q' fun b G' H' E' K' ⟨h1, h0⟩ => k b G' H' E' K' ⟨fun e => (h1 e).mono (fun G'' q => hr G'' q) (fun _ _ q => q) (fun _ q => q) (fun _ q => q), fun e => (h0 e).mono (fun G'' q => hr G'' q) (fun _ _ q => q) (fun _ q => q) (fun _ q => q)⟩
theorem sIx_nat' (n d k : Nat) : HT.sIx n d (some (k : Int)) = min k n := HT.sIx_nat n d k
theorem cut_from (xs : List PyData) (k : Nat) : cutD xs (some (k : Int)) none = xs.drop k := by
  unfold cutD
  rw [sIx_nat', HT.sIx_none]
  by_cases h : k ≤ xs.length
  · rw [Nat.min_eq_left h, List.take_of_length_le (by simp)]
  · have h' : xs.length ≤ k := by omega
    rw [Nat.min_eq_right h', List.drop_of_length_le h', List.drop_of_length_le (Nat.le_refl _), List.take_nil]
theorem cut_to (xs : List PyData) (k : Nat) : cutD xs none (some (k : Int)) = xs.take k := by
  unfold cutD
  rw [sIx_nat', HT.sIx_none, List.drop_zero, Nat.sub_zero]
  by_cases h : k ≤ xs.length
  · rw [Nat.min_eq_left h]
  · have h' : xs.length ≤ k := by omega
    rw [Nat.min_eq_right h', List.take_of_length_le h', List.take_of_length_le (Nat.le_refl _)]
theorem enumD_inv {ds : List PyData} {i : Nat} {d : PyData} (h : (enumD ds)[i]? = some d) : ∃ e, ds[i]? = some e ∧ d = .tuple [.int (i : Int), e] := by
  have hi : i < ds.length := by
    have := (List.getElem?_eq_some_iff.mp h).1
    rw [enumD_len] at this
    exact this
  have := enumD_get (List.getElem?_eq_getElem hi)
  rw [this] at h
  cases h
  exact ⟨_, List.getElem?_eq_getElem hi, rfl⟩
theorem zipD_inv {ds fs : List PyData} {i : Nat} {d : PyData} (h : (zipD ds fs)[i]? = some d) : ∃ a b, ds[i]? = some a ∧ fs[i]? = some b ∧ d = .tuple [a, b] := by
  have hi : i < min ds.length fs.length := by
    have := (List.getElem?_eq_some_iff.mp h).1
    rw [zipD_len] at this
    exact this
  have h1 : i < ds.length := by omega
  have h2 : i < fs.length := by omega
  have := zipD_get (List.getElem?_eq_getElem h1) (List.getElem?_eq_getElem h2)
  rw [this] at h
  cases h
  exact ⟨_, _, List.getElem?_eq_getElem h1, List.getElem?_eq_getElem h2, rfl⟩
theorem zipD_mem {ds fs : List PyData} {d : PyData} (h : d ∈ zipD ds fs) : ∃ a b, (a, b) ∈ ds.zip fs ∧ d = .tuple [a, b] := by
  obtain ⟨q, h1, h2⟩ := List.mem_map.mp h
  exact ⟨q.1, q.2, h1, h2.symm⟩
theorem zipD_map {α β : Type} {xs : List α} {ys : List β} {f : α → PyData} {g : β → PyData} : zipD (xs.map f) (ys.map g) = (xs.zip ys).map fun q => .tuple [f q.1, g q.2] := by
  unfold zipD
  rw [List.zip_map, List.map_map]
  rfl
/-- data that == may meet, at most n deep -/
structure CmpN (n : Nat) (d : PyData) : Prop where
  nd : NoD d
  cl : d.canLay0 = true
  dp : d.depth ≤ n
theorem CmpN.cmp {n : Nat} {d : PyData} (h : CmpN n d) (hn : n ≤ 64) : Cmp d := by
  refine ⟨h.nd, ?_⟩
  unfold SeqAt.shaped
  rw [h.cl, Bool.true_and]
  exact decide_eq_true (Nat.le_trans h.dp hn)
theorem CmpN.mono {n m : Nat} {d : PyData} (h : CmpN n d) (hn : n ≤ m) : CmpN m d := ⟨h.nd, h.cl, Nat.le_trans h.dp hn⟩
theorem CmpN.int (n : Nat) (i : Int) : CmpN n (.int i) := ⟨.int i, by unfold PyData.canLay0; rfl, by unfold PyData.depth; exact Nat.zero_le _⟩
theorem CmpN.bl (n : Nat) (i : Bool) : CmpN n (.bool i) := ⟨.bl i, by unfold PyData.canLay0; rfl, by unfold PyData.depth; exact Nat.zero_le _⟩
theorem CmpN.non (n : Nat) : CmpN n .none := ⟨.non, by unfold PyData.canLay0; rfl, by unfold PyData.depth; exact Nat.zero_le _⟩
theorem CmpN.str (n : Nat) {z : Str} (h : PyData.strOk z = true) : CmpN n (.str z) := ⟨.str z, by unfold PyData.canLay0; exact h, by unfold PyData.depth; exact Nat.zero_le _⟩
theorem cmpAll {n : Nat} {ds : List PyData} (h : ∀ d ∈ ds, CmpN n d) : PyData.canLayAll0 ds = true ∧ PyData.depthAll ds ≤ n := by
  induction ds with
  | nil => exact ⟨by unfold PyData.canLayAll0; rfl, by unfold PyData.depthAll; exact Nat.zero_le _⟩
  | cons d ds ih =>
    obtain ⟨h1, h2⟩ := ih fun e he => h e (List.mem_cons_of_mem _ he)
    have h3 := h d List.mem_cons_self
    refine ⟨?_, ?_⟩
    · unfold PyData.canLayAll0
      rw [h3.cl, h1]
      rfl
    · unfold PyData.depthAll
      exact Nat.max_le.mpr ⟨h3.dp, h2⟩
theorem CmpN.tup {n : Nat} {ds : List PyData} (h : ∀ d ∈ ds, CmpN n d) : CmpN (n + 1) (.tuple ds) := by
  obtain ⟨h1, h2⟩ := cmpAll h
  refine ⟨.tup fun d hd => (h d hd).nd, by unfold PyData.canLay0; exact h1, by unfold PyData.depth; omega⟩
theorem CmpN.lst {n : Nat} {ds : List PyData} (h : ∀ d ∈ ds, CmpN n d) : CmpN (n + 1) (.list ds) := by
  obtain ⟨h1, h2⟩ := cmpAll h
  refine ⟨.lst fun d hd => (h d hd).nd, by unfold PyData.canLay0; exact h1, by unfold PyData.depth; omega⟩
theorem strOk_of {z : Str} (h : ∀ c ∈ z.cps.toList, c < 0x110000) : PyData.strOk z = true := by
  unfold PyData.strOk
  rw [Array.all_eq_true']
  intro c hc
  exact decide_eq_true (h c (by simpa using hc))
theorem eqv_strs : ∀ {xs ys : List Str}, PyData.eqvAll (xs.map .str) (ys.map .str) = decide (xs = ys)
  | [], [] => by unfold PyData.eqvAll; rfl
  | [], y :: ys => by unfold PyData.eqvAll; rfl
  | x :: xs, [] => by unfold PyData.eqvAll; rfl
  | x :: xs, y :: ys => by
    rw [List.map_cons, List.map_cons]
    unfold PyData.eqvAll
    rw [eqv_strs]
    unfold PyData.eqv
    by_cases h : x = y
    · subst h
      by_cases h2 : xs = ys <;> simp [h2]
    · simp [h]
theorem eqv_ints : ∀ {xs ys : List Int}, PyData.eqvAll (xs.map .int) (ys.map .int) = decide (xs = ys)
  | [], [] => by unfold PyData.eqvAll; rfl
  | [], y :: ys => by unfold PyData.eqvAll; rfl
  | x :: xs, [] => by unfold PyData.eqvAll; rfl
  | x :: xs, y :: ys => by
    rw [List.map_cons, List.map_cons]
    unfold PyData.eqvAll
    rw [eqv_ints]
    unfold PyData.eqv
    by_cases h : x = y
    · subst h
      by_cases h2 : xs = ys <;> simp [h2]
    · simp [h]
theorem eqv_tupS {xs ys : List Str} : PyData.eqv (.tuple (xs.map .str)) (.tuple (ys.map .str)) = decide (xs = ys) := by
  unfold PyData.eqv
  exact eqv_strs
theorem eqv_lstS {xs ys : List Str} : PyData.eqv (.list (xs.map .str)) (.list (ys.map .str)) = decide (xs = ys) := by
  unfold PyData.eqv
  exact eqv_strs
theorem eqv_tupI {xs ys : List Int} : PyData.eqv (.tuple (xs.map .int)) (.tuple (ys.map .int)) = decide (xs = ys) := by
  unfold PyData.eqv
  exact eqv_ints
theorem cmp_ints {xs : List Int} : Cmp (.tuple (xs.map .int)) := (CmpN.tup (n := 0) fun d h => by
  obtain ⟨i, _, rfl⟩ := List.mem_map.mp h
  exact .int 0 i).cmp (by decide)
theorem cmp_strsT {xs : List Str} (h : ∀ z ∈ xs, PyData.strOk z = true) : Cmp (.tuple (xs.map .str)) := (CmpN.tup (n := 0) fun d hd => by
  obtain ⟨i, hi, rfl⟩ := List.mem_map.mp hd
  exact .str 0 (h i hi)).cmp (by decide)
theorem cmp_strsL {xs : List Str} (h : ∀ z ∈ xs, PyData.strOk z = true) : Cmp (.list (xs.map .str)) := (CmpN.lst (n := 0) fun d hd => by
  obtain ⟨i, hi, rfl⟩ := List.mem_map.mp hd
  exact .str 0 (h i hi)).cmp (by decide)
end
end DL
/-! DL15: comprehensions of two clauses. -/
namespace DL
open PySem PySem.Spec PyProof.Rows L2

section
variable {C : Addr} {X : Cx} {G G' : Ga} {T : Es} {Q : Vl → Ga → Prop} {O O' O2 : List Addr} {σ σ' σ2 : L2.St} {H H' H2 : Hp} {Q' : VK} {G2 : Ga}
variable {x y z nm f : Str} {pos pos' p p2 p3 pt pa pb pc apos cpos : Pos} {a b e c e2 tg tg1 iter iter1 elt : Expr} {es : List Expr} {scope : Scope}
def bI (X : Cx) (scope : Scope) (tg e : Expr) : TI := fun σ H Q => ∀ s H0 Cc cl fp, tI (blkX X scope s H0 Cc cl fp) tg e σ H Q
theorem pi_bI (tg e : Expr) (s : Shared) (H : Hp) (Cc : Addr) (cl : List (Str × Addr)) (fp : List Addr) : PI (blkX X scope s H Cc cl fp) tg e (bI X scope tg e) := ⟨fun pins s' _ _ _ I h => h s H Cc cl fp pins s' I⟩
/-- what holds in the second loop: the list is ac, the slots as they were but for its own -/
structure Dst (X : Cx) (C : Addr) (O : List Addr) (H1 : Hp) (σ0 : L2.St) (G0 : Ga) (D : Addr) (σ2 : L2.St) (G2 : Ga) (ac : List PyData) (H : Hp) : Prop where
  ex : ∃ xs, Env X.K C (D :: O) H σ2 G2 ∧ Kp σ0 G0 O H1 σ2 G2 (D :: O) H ∧ H D = some (.lst xs) ∧ RepAll X.K C (D :: O) H xs ac ∧ ¬ Ow σ2 G2 D
theorem Dst.app {O : List Addr} {H1 H3 : Hp} {σ0 σ2 : L2.St} {G0 G2 : Ga} {D : Addr} {xs : List V} {ac : List PyData} {y : V} {d : PyData} (E : Env X.K C (D :: O) H3 σ2 G2) (K : Kp σ0 G0 O H1 σ2 G2 (D :: O) H3) (hD1 : H1 D = none) (hD : H3 D = some (.lst xs)) (ra : RepAll X.K C (D :: O) H3 xs ac) (nO : ¬ Ow σ2 G2 D) (r : Rep X.K C (D :: O) H3 y d) :
    Dst X C O H1 σ0 G0 D σ2 G2 (ac ++ [d]) (upd H3 D (.lst (xs ++ [y]))) := by
  have kk : Keep (D :: O) H3 (D :: O) (upd H3 D (.lst (xs ++ [y]))) := ⟨fun b o e n => by rw [upd_ne (fun z => n (by rw [z]; exact List.mem_cons_self))]; exact e, fun b h => .inl h⟩
  refine ⟨xs ++ [y], E.wrX List.mem_cons_self nO, ⟨fun a o e n => ?_, K.stay, K.new, K.own, fun a z q => ?_, K.urn⟩, upd_same, (ra.append (.cons r .nil)).keep kk E.wo, nO⟩
  · rw [upd_ne (ne_of_none e hD1)]
    exact K.obj a o e n
  · by_cases e : a = D
    · rw [e, upd_same] at q
      cases q
    · rw [upd_ne e] at q
      exact K.there a z q
theorem Kp.wipedU {vs : List Nat} {G1 : Ga} {σ1 : L2.St} (k : Kp σ G O H σ1 G1 O' H') (un : ∀ j ∈ vs, ∀ s, G[j]? = some s → s = .un) : Kp σ G O H (wipe σ1 vs) (wipeG G1 vs) O' H' := by
  refine ⟨k.obj, k.stay, k.new, fun a h => k.own a (Ow.of_wipe h), k.there, fun j ds h => ?_⟩
  have n : j ∉ vs := fun z => by
    have := un j z _ h
    cases this
  obtain ⟨e, ds', h'⟩ := k.urn j ds h
  exact ⟨by rw [wipe_at σ1 n]; exact e, ds', by rw [wipeG_at G1 n]; exact h'⟩
theorem Dst.wiped {vs : List Nat} {O : List Addr} {H1 H : Hp} {σ0 σ2 : L2.St} {G0 G2 : Ga} {D : Addr} {ac : List PyData} (s : Dst X C O H1 σ0 G0 D σ2 G2 ac H) (un : ∀ j ∈ vs, ∀ t, G0[j]? = some t → t = .un) : Dst X C O H1 σ0 G0 D (wipe σ2 vs) (wipeG G2 vs) ac H := by
  obtain ⟨xs, E, K, h1, h2, h3⟩ := s.ex
  exact ⟨xs, E.wiped, K.wipedU un, h1, h2, fun z => h3 (Ow.of_wipe z)⟩
theorem wipeG_nil {G : Ga} : ∀ {vs : List Nat}, (∀ j ∈ vs, ∀ s, G[j]? = some s → s = .un) → wipeG G vs = G
  | [], _ => rfl
  | v :: vs, h => by
    unfold wipeG
    rw [wipeG_nil fun j hj => h j (List.mem_cons_of_mem _ hj)]
    by_cases hv : v < G.length
    · have := h v List.mem_cons_self _ (List.getElem?_eq_getElem hv)
      rw [← this, List.set_getElem_self]
    · rw [List.set_eq_of_length_le (by omega)]
/-- [elt for tg in iter for tg1 in iter1], the slots left alone -/
theorem ef_lc2 {ts ts1 vs1 : List Nat} (own : List (Str × Nat)) (eo : PyData → List PyData) (fo : PyData → PyData → PyData) (ok : blkC X.N X.env.scope scope own = true) (hN : X.N.Nodup) (hv1 : ∀ t ∈ vs1, t ∈ own.map (·.2)) (hts : ∀ t ∈ ts, t ∈ own.map (·.2)) (hts1 : ∀ t ∈ ts1, t ∈ vs1)
    (h : Ei C X tg iter G fun ds G1 => okWipe G1 (own.map (·.2)) = true ∧ (ds.flatMap fun d => (eo d).map (fo d)).length ≤ 100000 ∧
      (∀ d ∈ ds, ∀ s H0 Cc cl fp, Sg C (blkX X scope s H0 Cc cl fp) tg d (wipeG G1 (own.map (·.2))) ts fun G2 => wipeG G2 (own.map (·.2)) = wipeG G1 (own.map (·.2)) ∧ okWipe G2 vs1 = true ∧ wipeG G2 vs1 = G2 ∧
        ∀ s H0 Cc cl fp, Ei C (blkX X scope s H0 Cc cl fp) tg1 iter1 G2 fun es G3 => es = eo d ∧ G3 = G2 ∧
          ∀ e ∈ es, ∀ s H0 Cc cl fp, Sg C (blkX X scope s H0 Cc cl fp) tg1 e G2 ts1 fun G4 => wipeG G4 vs1 = G2 ∧ ∀ s H0 Cc cl fp, Ef C (blkX X scope s H0 Cc cl fp) elt G4 fun v G5 => v = .d (fo d e) ∧ G5 = G4) ∧
      Q (.d (.list (ds.flatMap fun d => (eo d).map (fo d)))) (wipeG G1 (own.map (·.2))))
    (hc : X.calm = true := by rfl) (hs : ∀ x, foldedSetIterable iter X.env x = pure x := by intro _; rfl) (hs1 : ∀ env x, foldedSetIterable iter1 env x = pure x := by intro _ _; rfl) : Ef C X (.ListComp elt [⟨tg, iter, [], 0⟩, ⟨tg1, iter1, [], 0⟩] scope pos) G Q := by
  intro O σ H E Q' q
  refine tW_of (pe_lc2 (vs1 := vs1) hc hN (pi_W tg iter) (blkOk_by ok) hv1 (pg_bG tg) (fun _ _ _ _ _ => pts_nil) (pi_bI tg1 iter1) (pg_bG tg1) (fun _ _ _ _ _ => pts_nil) (pe_bE elt) hs hs1) ?_
  refine h O σ H E _ fun J ds G1 H1 E1 K1 ⟨Gd, Y, W, hG, hY⟩ ⟨okw, hlen, hb, hq⟩ => ?_
  intro D hD
  generalize own.map (·.2) = vs at *
  have fresh : ¬ Ow (wipe σ vs) (wipeG G1 vs) D := fun z => by
    obtain ⟨xs, e⟩ := E1.wo D (E1.ow_mem (Ow.of_wipe z))
    rw [hD] at e
    cases e
  have un1 : ∀ j ∈ vs, ∀ s, (wipeG G1 vs)[j]? = some s → s = .un := fun j hj s e => wipeG_in G1 hj e
  have kp0 : ∀ {σ2 : L2.St} {G2 : Ga} {H' : Hp}, Kp (wipe σ vs) (wipeG G1 vs) O H1 σ2 G2 (D :: O) H' → Keep O H1 (D :: O) H' := fun K' => ⟨fun a o e n => K'.obj a o e fun z => n (E1.ow_mem (Ow.of_wipe z)), K'.new⟩
  let acc : Nat → List PyData := fun i => (ds.take i).flatMap fun d => (eo d).map (fo d)
  let Pv : Nat → Hp → Prop := fun i H' => Dst X C O H1 (wipe σ vs) (wipeG G1 vs) D (wipe σ vs) (wipeG G1 vs) (acc i) H'
  have p0 : Pv 0 (upd H1 D (.lst [])) := by
    refine ⟨[], E1.inBlk hD, Kp.newU hD, upd_same, .nil, fresh⟩
  have fin : ∀ H', Pv ds.length H' → Q' (.ref D) H' := fun H' ⟨xs, E', K', hd', ra, nO⟩ => by
    have ra' : RepAll X.K C (D :: O) H' xs (ds.flatMap fun d => (eo d).map (fo d)) := by
      have : acc ds.length = ds.flatMap fun d => (eo d).map (fo d) := by
        show (ds.take ds.length).flatMap _ = _
        rw [List.take_length]
      rw [← this]
      exact ra
    have sub : ∀ b, b ∈ O → b ∈ D :: O := fun b => List.mem_cons_of_mem _
    have E5 : Env X.K C O H' σ (wipeG G1 vs) := by
      refine ⟨?_, fun j s h => ?_, fun j k s t ds es b g1 g2 g3 g4 g5 g6 => ?_, fun b hb => E'.wo b (List.mem_cons_of_mem _ hb)⟩
      · have := E'.len
        rw [wipe_length] at this
        exact this
      · by_cases hj : j ∈ vs
        · rw [un1 j hj s h]
          have hlt : j < σ.length := by
            have := (List.getElem?_eq_some_iff.mp h).1
            have e := E'.len
            rw [wipe_length] at e
            omega
          exact ⟨_, List.getElem?_eq_getElem hlt, trivial⟩
        · obtain ⟨o, g1, g2⟩ := E'.sl j s h
          rw [wipe_at σ hj] at g1
          refine ⟨o, g1, ?_⟩
          have ne : ∀ {b : Addr} {us : List PyData}, o = some (.ref b) → s.held = some us → b ≠ D := fun {b us} e1 e2 e3 => by
            subst e1 e3
            exact nO ⟨j, s, us, by rw [wipe_at σ hj]; exact g1, h, e2⟩
          cases s with
          | un => trivial
          | imm d =>
            obtain ⟨v, q1, q2⟩ := g2
            exact ⟨v, q1, q2.less sub⟩
          | own us =>
            obtain ⟨b, ys, q1, q2, q3, q4⟩ := g2
            exact ⟨b, ys, q1, (List.mem_cons.mp q2).resolve_left (ne q1 rfl), q3, q4.less sub⟩
          | urn us =>
            obtain ⟨b, ys, q1, q2, q3, q4⟩ := g2
            exact ⟨b, ys, q1, (List.mem_cons.mp q2).resolve_left (ne q1 rfl), q3, q4.less sub⟩
      · have n1 : j ∉ vs := fun z => by
          rw [un1 j z s g3] at g5
          cases g5
        have n2 : k ∉ vs := fun z => by
          rw [un1 k z t g4] at g6
          cases g6
        exact E'.dj j k s t ds es b (by rw [wipe_at σ n1]; exact g1) (by rw [wipe_at σ n2]; exact g2) g3 g4 g5 g6
    have back : ∀ {a : Addr}, Ow σ (wipeG G1 vs) a → Ow (wipe σ vs) (wipeG G1 vs) a := fun {a} ⟨j, s, us, g1, g2, g3⟩ => by
      have n1 : j ∉ vs := fun z => by
        rw [un1 j z s g2] at g3
        cases g3
      exact ⟨j, s, us, by rw [wipe_at σ n1]; exact g1, g2, g3⟩
    have K5 : Kp σ G1 O H1 σ (wipeG G1 vs) O H' := by
      refine ⟨fun a o e n => K'.obj a o e fun z => n (Ow.of_wipe z), fun a m n => m, fun a m => .inl m, fun a z => (K'.own a (back z)).imp (fun z => Ow.of_wipe z) id, K'.there, fun j us e => ?_⟩
      have n1 : j ∉ vs := fun z => by
        have := okWipe_held okw z e
        cases this
      exact ⟨rfl, us, by rw [wipeG_at G1 n1]; exact e⟩
    refine Co.at (Co.step q E (K1.trans K5 E)) E5 (.lstAll hd' (fun m => ?_) (ra'.less sub)) hq
    obtain ⟨ys, e⟩ := E1.wo D m
    rw [hD] at e
    cases e
  refine ⟨fun i m H' => m = ds.length - i ∧ i ≤ ds.length ∧ Pv i H', ⟨ds.length, by simp, Nat.zero_le _, p0⟩, ?_⟩
  rintro i m H' ⟨rfl, hi, p⟩
  have pp := p
  obtain ⟨xs, E', K', hd', ra, nO⟩ := pp.ex
  have gd := hG (D :: O) H' (kp0 K')
  by_cases hlt : i < ds.length
  case neg =>
    have e : i = ds.length := by omega
    subst e
    exact .inl ⟨W.stops H' gd, fin H' p⟩
  refine .inr ⟨W.goes i H' hlt gd, Pv (i + 1), fun H' p' => ⟨ds.length - (i + 1), by omega, rfl, hlt, p'⟩, fun v H2 yv => ?_⟩
  obtain ⟨k2, d, hd, rd⟩ := hY i H' v H2 (D :: O) hlt (kp0 K') E'.wo (W.yields i H' v H2 hlt gd yv)
  have E2 := E'.ext k2
  have hdm : d ∈ ds := List.mem_of_getElem? hd
  intro s H0 Cc cl fp
  refine hb d hdm s H0 Cc cl fp (D :: O) (wipe σ vs) H2 v E2 rd _ fun σ3 G3 f3 E3 K3 ⟨w1, ok1, w2, hin⟩ => ?_
  have sl : wipe σ3 vs = wipe σ vs := wipe_eq (f3.1.trans (wipe_length σ vs)) f3.2 hts
  have K2 : Kp (wipe σ vs) (wipeG G1 vs) (D :: O) H' σ3 G3 (D :: O) H2 := (Kp.ext k2).trans K3 E'
  have KA : Kp (wipe σ vs) (wipeG G1 vs) O H1 σ3 G3 (D :: O) H2 := (K'.trans K2 E1.wiped)
  refine ⟨sl, ?_⟩
  simp only [tYes, ↓reduceIte]
  intro s H0 Cc cl fp
  refine hin s H0 Cc cl fp (D :: O) σ3 H2 E3 _ fun J1 es G4 H4 E4 K4 ⟨Gd1, Y1, W1, hG1, hY1⟩ ⟨e1, e2, hel⟩ => ?_
  subst e1 e2
  have KB : Kp (wipe σ vs) (wipeG G1 vs) O H1 σ3 G4 (D :: O) H4 := KA.trans K4 E1.wiped
  have KC : Kp (wipe σ vs) (wipeG G1 vs) (D :: O) H' σ3 G4 (D :: O) H4 := K2.trans K4 E'
  have nO4 : ¬ Ow σ3 G4 D := fun z => (KC.own D z).elim nO fun w => by
    rw [hd'] at w
    cases w
  have hD4 : H4 D = some (.lst xs) := KC.obj D _ hd' nO
  have ra4 : RepAll X.K C (D :: O) H4 xs (acc i) := ra.keep (KC.keep E') E'.wo
  -- the second loop's own slots are not looked at
  have un4 : ∀ j ∈ vs1, ∀ t, G4[j]? = some t → t = .un := fun j hj t e => by
    rw [← w2] at e
    exact wipeG_in G4 hj e
  have E5 : Env X.K C (D :: O) H4 (wipe σ3 vs1) G4 := by
    have := E4.wiped (vs := vs1)
    rw [w2] at this
    exact this
  have okw4 : okWipe G4 vs1 = true := ok1
  have K5 : Kp σ3 G4 (D :: O) H4 (wipe σ3 vs1) G4 (D :: O) H4 := by
    refine ⟨fun a o e _ => e, fun a m _ => m, fun a m => .inl m, fun a z => ?_, fun a z => z, fun j us e => ?_⟩
    · refine .inl (Ow.of_wipe (vs := vs1) ?_)
      rw [w2]
      exact z
    · have n1 : j ∉ vs1 := fun z => by
        have := okWipe_held okw4 z e
        cases this
      exact ⟨wipe_at σ3 n1, us, e⟩
  have KD : Kp (wipe σ vs) (wipeG G1 vs) O H1 (wipe σ3 vs1) G4 (D :: O) H4 := KB.trans K5 E1.wiped
  have same5 : wipe (wipe σ3 vs1) vs = wipe (wipe σ vs) vs := by
    rw [← sl]
    refine (wipe_eq (σ := wipe σ3 vs) (ts := vs) (by rw [wipe_length, wipe_length]) (fun j hj => ?_) (fun t ht => ht))
    rw [wipe_at _ hj, wipe_at _ fun z => hj (hv1 j z), wipe_at _ hj]
  have ww : wipe (wipe σ vs) vs = wipe σ vs := (wipe_eq (wipe_length σ vs) (ts := []) (fun _ _ => rfl) (fun t ht => by cases ht))
  let Pi : Nat → Hp → Prop := fun j H' => Dst X C O H1 (wipe σ vs) (wipeG G1 vs) D (wipe σ3 vs1) G4 (acc i ++ ((eo d).take j).map (fo d)) H' ∧ Keep (D :: O) H4 (D :: O) H'
  have q0 : Pi 0 H4 := ⟨⟨xs, E5, KD, hD4, by
    show RepAll X.K C (D :: O) H4 xs (acc i ++ ((eo d).take 0).map (fo d))
    rw [List.take_zero, List.map_nil, List.append_nil]
    exact ra4, fun z => nO4 (Ow.of_wipe (vs := vs1) (by rw [w2]; exact z))⟩, Keep.refl _ _⟩
  have accS : acc (i + 1) = acc i ++ (eo d).map (fo d) := by
    show (ds.take (i + 1)).flatMap _ = (ds.take i).flatMap _ ++ _
    rw [List.take_add_one, hd, List.flatMap_append]
    show _ ++ (List.flatMap _ [d]) = _
    rw [List.flatMap_singleton]
  have accL : ∀ {j : Nat}, (acc i ++ ((eo d).take j).map (fo d)).length ≤ 100000 := fun {j} => by
    have h1 : (acc i ++ (eo d).map (fo d)).length ≤ 100000 := by
      rw [← accS]
      refine Nat.le_trans ?_ hlen
      show ((ds.take (i + 1)).flatMap _).length ≤ _
      conv => rhs; rw [← List.take_append_drop (i + 1) ds, List.flatMap_append]
      rw [List.length_append]
      exact Nat.le_add_right _ _
    rw [List.length_append, List.length_map] at h1 ⊢
    rw [List.length_take]
    omega
  refine ⟨fun j m H' => m = (eo d).length - j ∧ j ≤ (eo d).length ∧ Pi j H', ⟨(eo d).length, by simp, Nat.zero_le _, q0⟩, ?_⟩
  rintro j m H6 ⟨rfl, hj, pj, kq⟩
  have gd1 : Gd1 H6 := hG1 (D :: O) H6 kq
  obtain ⟨xs6, E6, K6, hd6, ra6, nO6⟩ := pj.ex
  by_cases hlt1 : j < (eo d).length
  case neg =>
    have e : j = (eo d).length := by omega
    subst e
    refine .inl ⟨W1.stops H6 gd1, ?_⟩
    have z := pj.wiped un1
    rw [same5, ww, w1, List.take_length, ← accS] at z
    exact z
  refine .inr ⟨W1.goes j H6 hlt1 gd1, Pi (j + 1), fun H' p' => ⟨(eo d).length - (j + 1), by omega, rfl, hlt1, p'⟩, fun v7 H7 y7 => ?_⟩
  obtain ⟨k7, e7, he7, re7⟩ := hY1 j H6 v7 H7 (D :: O) hlt1 kq E6.wo (W1.yields j H6 v7 H7 hlt1 gd1 y7)
  have E7 := E6.ext k7
  intro s H0 Cc cl fp
  refine hel e7 (List.mem_of_getElem? he7) s H0 Cc cl fp (D :: O) (wipe σ3 vs1) H7 v7 E7 re7 _ fun σ8 G8 f8 E8 K8 ⟨w8, hf⟩ => ?_
  have sl8 : wipe σ8 vs1 = wipe σ3 vs1 := (wipe_eq (f8.1.trans (wipe_length σ3 vs1)) f8.2 hts1)
  refine ⟨sl8, ?_⟩
  intro s H0 Cc cl fp
  refine hf s H0 Cc cl fp (D :: O) σ8 H7 E8 _ fun y9 vl9 G9 H9 E9 K9 R9 ⟨e9, eG⟩ => ?_
  subst e9 eG
  have K7 : Kp (wipe σ3 vs1) G4 (D :: O) H6 σ8 G9 (D :: O) H9 := ((Kp.ext k7).trans K8 E6).trans K9 E6
  have KZ : Kp (wipe σ vs) (wipeG G1 vs) O H1 σ8 G9 (D :: O) H9 := K6.trans K7 E1.wiped
  have nO9 : ¬ Ow σ8 G9 D := fun z => (K7.own D z).elim nO6 fun w => by
    rw [hd6] at w
    cases w
  have hD9 : H9 D = some (.lst xs6) := K7.obj D _ hd6 nO6
  have ra9 : RepAll X.K C (D :: O) H9 xs6 (acc i ++ ((eo d).take j).map (fo d)) := ra6.keep (K7.keep E6) E6.wo
  refine ⟨xs6, hD9, ?_, ?_, ?_⟩
  · rw [ra6.1]
    exact Nat.lt_of_le_of_lt accL (by decide)
  · have z := (Dst.app (X := X) E9 KZ hD hD9 ra9 nO9 R9).wiped (vs := vs1) fun j hj => un1 j (hv1 j hj)
    rw [sl8, w8] at z
    have e10 : acc i ++ ((eo d).take (j + 1)).map (fo d) = acc i ++ ((eo d).take j).map (fo d) ++ [fo d e7] := by
      rw [List.take_add_one, he7, List.map_append, List.append_assoc]
      rfl
    rw [e10]
    exact z
  · refine ⟨fun a o e n => ?_, fun a m => .inl m⟩
    rw [upd_ne (fun z => n (by rw [z]; exact List.mem_cons_self))]
    exact (K7.keep E6).obj a o (kq.obj a o e n) n
end
end DL
/-! DL16: a new tuple that is known to have no dict; its index. -/
namespace DL
open PySem PySem.Spec PyProof.Rows L2

section
variable {X : Cx}
/-- tuple(list): the new tuple's object is kept in sight -/
theorem cr_tupleF : CallR X (.type "tuple") (fun xs H Q => ∃ p ys, xs = [.ref p] ∧ SqL X.K H p ys ∧ ∀ l o, H l = none → o.dict = none → o.cls = .type "tuple" → Q (.ref l) (upd H l (.frz o (.tup ys)))) := by
  intro pins s σ H xs us Q I r h
  obtain ⟨p, ys, rfl, hq, q⟩ := h
  obtain ⟨u, rfl, rx⟩ := vals1 r
  cases rx
  obtain ⟨its, r', pl, hz⟩ := I.list hq
  have hlen := r'.length
  refine call_tuple_list pl.isList (fun h' kp => ?_) (by simp only [List.size_toArray] <;> omega)
  have I1 : Inv X pins σ H { s with heap := h' } := I.kept (t' := s.toks) kp
  have I2 : Inv X pins σ (upd H h'.objs.size (.frz { cls := .type "tuple", data := .seq its.toArray } (.tup ys))) { s with heap := h'.push { cls := .type "tuple", data := .seq its.toArray } } :=
    I1.laid (t' := s.toks) (fun b o e => Heap.get?_push_of_some _ e) (Nat.le_refl _) (show ObjOk X.prog X.w _ _ _ (.frz _ (.tup ys)) from ⟨Heap.get?_push_size _ rfl, hz, its, r', IsTup.new _ _⟩)
  exact ⟨.ref h'.objs.size, _, I2, rfl, q _ _ (I1.hok.fresh (Nat.le_refl _)) rfl rfl⟩
end
/-- the promise of a def that gives a new tuple of texts, its object in sight -/
def spN {α : Type} (K : PySem.W.Frag) (C : Addr) (enc : α → List PyData) (ok : α → Prop) (val : α → List Str) : Sp := fun vs H Q _ => ∃ (O : List Addr) (a : α), Own O H ∧ RepAll K C O H vs (enc a) ∧ ok a ∧
  ∀ l o H', (∀ a o, H a = some o → H' a = some o) → l ∉ O → o.dict = none → o.cls = .type "tuple" → H' l = some (.frz o (.tup ((val a).map .str))) → Q (.ref l) H'
theorem spN_of {α : Type} {K : PySem.W.Frag} {C : Addr} {enc : α → List PyData} {ok : α → Prop} {val : α → List Str} : ∀ vs H Q E, spF K C enc ok (fun a => .tuple ((val a).map .str)) vs H Q E → spN K C enc ok val vs H Q E := fun vs H Q E ⟨O, a, w, r, hok, k⟩ =>
  ⟨O, a, w, r, hok, fun l o H' g _ _ _ hl => k (.ref l) H' _ g rfl (.tupAll (.inl (.inr ⟨o, hl⟩)) (by
    have := RepAll.map (K := K) (C := C) (O := O) (H := H') (l := val a) (f := V.str) (g := PyData.str) fun z _ => .str z
    exact this))⟩
section
variable {C : Addr} {X : Cx} {G G' : Ga} {T : Es} {Q : Vl → Ga → Prop} {O O' O2 : List Addr} {σ σ' σ2 : L2.St} {H H' H2 : Hp} {Q' : VK} {G2 : Ga}
variable {x y z nm f : Str} {pos pos' p p2 p3 pt pa pb pc apos cpos : Pos} {a b e c e2 tg iter elt : Expr} {es : List Expr} {st : Stmt} {rest body b1 b2 : List Stmt} {scope : Scope}
/-- return tuple(list of texts) -/
theorem ret_tupleF (B : Bt X.mg) (E : Env X.K C O H σ G) {D : Ends} {Q2 : VK} (hD : D.rt = Q2) (h : Ef C X a G fun v G1 => ∃ zs : List Str, v = .d (.list (zs.map .str)) ∧ ∀ l o H', (∀ a o, H a = some o → ¬ Ow σ G a → H' a = some o) → l ∉ O → o.dict = none → o.cls = .type "tuple" → H' l = some (.frz o (.tup (zs.map .str))) → Q2 (.ref l) H')
    (hg : Gl X "tuple" := by rfl) (he : starEach [a] X.env = (false, eval a X.env) :: starEach [] X.env := by rfl) : tSs X [.Return (some (.Call (.Name "tuple" p) [a] [] pos)) pos'] D σ H := by
  refine tSs_of (pss_one (ps_ret (pe_callTy cr_tupleF hg B.tuple boot_tuple' (pa_cons (pe_W a) pa_nil he) (by decide) (by decide) he rfl))) ?_
  refine h O σ H E _ fun v vl G1 H1 E1 K1 R1 ⟨zs, e1, z⟩ => ?_
  subst e1
  obtain ⟨t, xs, rfl, ht, ho, ra⟩ := Rep.lst_inv R1
  rw [repAll_strs ra] at ht
  refine ⟨t, _, rfl, .inl (.inl ht), fun l o hl hd hc => ?_⟩
  rw [hD]
  refine z l o _ (fun a ob e n => same_new hl _ _ (K1.obj a ob e n)) (fun m => ?_) hd hc upd_same
  obtain ⟨ys, e⟩ := E1.wo l m
  rw [hl] at e
  cases e
/-- a property that gives a new tuple of texts -/
structure PrN {α : Type} (P : Program) (w : World) (K : PySem.W.Frag) (mg : Str → Option Value) (base : Heap) (C : Addr) (n : Nat) (f : Str) (enc : α → List PyData) (ok : α → Prop) (val : α → List Str) : Prop where
  ex : ∃ p g fd, PropOf K C f p g ∧ FnOk P w K mg base CX0 n g fd ["self"] (spN K C enc ok val) ∧ Binds K fd ["self"] []
theorem PrN.pr {α : Type} {P : Program} {w : World} {K : PySem.W.Frag} {mg : Str → Option Value} {base : Heap} {C : Addr} {n : Nat} {f : Str} {enc : α → List PyData} {ok : α → Prop} {val : α → List Str} (h : PrN P w K mg base C n f enc ok val) : Pr P w K mg base C n f enc ok (fun a => .tuple ((val a).map .str)) := by
  obtain ⟨p, g, fd, h1, h2, h3⟩ := h.ex
  exact ⟨p, g, fd, h1, h2.imp spN_of, h3⟩
/-- o.f.index(z) -/
theorem ef_pix {α : Type} {n : Nat} {enc : α → List PyData} {ok : α → Prop} {val : α → List Str} (N : Nc X.K C) (F : PrN X.prog X.w X.K X.mg X.base C n f enc ok val) (hr : Room (n + 1) X.A)
    (h : Ef C X a G fun v G1 => ∃ w d1 d2 d3, v = .d (nigD d1 d2 d3) ∧ enc w = [nigD d1 d2 d3] ∧ ok w ∧ Ef C X e G1 fun v2 G2 => ∃ (zz : Str) (j : Nat), v2 = .d (.str zz) ∧ IsIx (val w) zz j ∧ Q (.d (.int (j : Int))) G2)
    (hb : attributeBase a f X.env (eval a X.env) = eval a X.env := by rfl)
    (hbase : attributeBase (.Attribute a f p2) "index" X.env (eval (.Attribute a f p2) X.env) = eval (.Attribute a f p2) X.env := by rfl)
    (hfew : ((backTo cpos (starEach [e] X.env)).all (fun x => !x.1) && (backToKw cpos (keywordEach [] X.env)).all (fun x => x.1.isSome)
      && decide ([e].length + ([] : List Keyword).length + (if ([] : List Keyword).isEmpty then 0 else 1) < 30)) = true := by rfl)
    (hline : (apos.endLine == cpos.line) = true := by rfl) (hst : starEach [e] X.env = (false, eval e X.env) :: starEach [] X.env := by rfl) : Ef C X (.Call (.Attribute (.Attribute a f p2) "index" apos) [e] [] cpos) G Q := by
  obtain ⟨p', g, fd, hp, F, hbi⟩ := F.ex
  intro O σ H E Q' q pins s I
  have ho := pe_prop (pos := p2) (pe_W a) N.cls hp F hr hbi .nil pass0 hb
  have ha : PA X [e] _ := pa_cons (pe_W e) pa_nil hst
  refine wpAny_Call_method_late hbase hfew hline rfl ?_
  refine thn (ho.run pins s σ H (fun v H1 => ∃ l o zs, v = .ref l ∧ o.dict = none ∧ o.cls = .type "tuple" ∧ H1 l = some (.frz o (.tup (zs.map .str))) ∧ (∃ G1, Env X.K C O H1 σ G1 ∧ Kp σ G O H σ G1 O H1 ∧ l ∉ O ∧ Ef C X e G1 fun v2 G2 => ∃ (zz : Str) (j : Nat), v2 = .d (.str zz) ∧ IsIx zs zz j ∧ Q (.d (.int (j : Int))) G2)) I ?_) fun v s1 ⟨x, H1, I1, r1, l, o, zs, ex, hd, hcl, hH, G1, E1, K1, hlO, hE⟩ => ?_
  · refine h O σ H E _ fun v vl G1 H1 E1 K1 R1 ⟨w, d1, d2, d3, e1, e2, hok, z⟩ => ?_
    subst e1
    obtain ⟨a, dx, v1, v2, v3, rfl, ha, _⟩ := Rep.nig_inv R1
    refine ⟨a, dx, _, rfl, ha, O, w, E1.wo, ?_, hok, fun l o H' k hl hd hc hH => ⟨l, o, val w, rfl, hd, hc, hH, G1, E1.ext k, (K1.trans (Kp.ext k) E), hl, z⟩⟩
    rw [e2]
    exact .cons R1 .nil
  · subst ex
    obtain rfl : v = Value.ref l := r1
    have hget : s1.heap.get? l = some o := (I1.hok l _ hH).1
    refine ⟨"tuple", "tuple.index", PySem.F.plainAttrs_tuple, PySem.F.slot_tuple_index, PySem.F.type_tuple_index, ⟨o, hget, hcl⟩, fun a e => ?_, ?_⟩
    · cases e
      exact ⟨o, hget, hd⟩
    · have hA := ha.run cpos pins s1 σ H1 (fun vs H2 => ∃ (zz : Str) (j : Nat) (G2 : Ga), vs = [.str zz] ∧ Env X.K C O H2 σ G2 ∧ Kp σ G1 O H1 σ G2 O H2 ∧ IsIx zs zz j ∧ Q (.d (.int (j : Int))) G2) I1 (hE O σ H1 E1 _ fun v2 vl2 G2 H2 E2 K2 R2 ⟨zz, j, e2, hj, zq⟩ => by
        subst e2
        exact ⟨zz, j, G2, by rw [Rep.str_inv R2], E2, K2, hj, zq⟩)
      rw [hst] at hA ⊢
      refine Calls.callWith_builtin (by show (false || (backTo cpos (starEach [] X.env)).any (·.1)) = false; rfl) (Calls.evalArgs_plain ?_)
      refine thn hA fun us s2 ⟨vs, H2, I2, r2, zz, j, G2, ev, E2, K2, hj, zq⟩ => ?_
      subst ev
      have hH2 : SqT X.K H2 l (zs.map .str) := (K2.keep E1).sqT E1.wo (.inl (.inr ⟨o, hH⟩))
      exact mt_tup_index pins s2 σ H2 (.ref l) [.str zz] (.ref l) us Q' I2 rfl r2 ⟨l, zs, zz, j, rfl, rfl, hH2, hj.1, hj.2, Co.at (Co.step q E (K1.trans K2 E)) E2 (.int _) zq⟩
end
end DL
/-! W0: the text, what stands in the module -/
namespace W
open PySem PySem.Spec PyProof.Rows L2 DL M

def topS (i : Nat) : Stmt := PySem.Challenge.pw_restballots_k51_whole_bloc_claims_judged.main.body.getD i (.Pass ⟨0, 0, 0, 0⟩)
structure Sys where
  P : Program
  w : World
  K : PySem.W.Frag
  mg : Str → Option Value
  base : Heap
  C : Addr
structure Gv (K : PySem.W.Frag) (mg : Str → Option Value) : Prop where
  MOST_SEATS : ∃ t, mg "MOST_SEATS" = some (.int 12 t)
  MOST_DIVISOR : ∃ t, mg "MOST_DIVISOR" = some (.int 100 t)
  MOST_PARTIES : ∃ t, mg "MOST_PARTIES" = some (.int 6 t)
  MOST_PILES : ∃ t, mg "MOST_PILES" = some (.int 6 t)
  MOST_COUNT : ∃ t, mg "MOST_COUNT" = some (.int 1000000 t)
  LONGEST_NAME : ∃ t, mg "LONGEST_NAME" = some (.int 8 t)
  LONGEST_NUMBER : ∃ t, mg "LONGEST_NUMBER" = some (.int 8 t)
  LETTERS : ∃ t, mg "LETTERS" = some (.str "abcdefghijklmnopqrstuvwxyz" t)
  DIGITS : ∃ t, mg "DIGITS" = some (.str "0123456789" t)
  ZERO : ∃ u, mg "ZERO" = some (.ref u) ∧ ∀ H, SqT K H u [.int 0, .int 1]
section
variable {K : PySem.W.Frag}
theorem b1 {x : Str} {st : Stmt} {a0 : Str} (h : ∀ (kV doc pm : Value) (an : Option Addr) (cdv ct u0 : Value), bindArgs (PySem.W.fnOf x x (defArgs st) (defBody st) (defScope st) .none kV doc pm an cdv ct) ⟨[u0], []⟩ = pure [(a0, u0)]) : ∀ f fd, Fun K x x st f fd → Binds K fd [a0] [] := fun f fd F => F.binds fun kV doc pm an cdv ct us hl => match us, hl with | [u0], _ => h kV doc pm an cdv ct u0
theorem b2 {x : Str} {st : Stmt} {a0 a1 : Str} (h : ∀ (kV doc pm : Value) (an : Option Addr) (cdv ct u0 u1 : Value), bindArgs (PySem.W.fnOf x x (defArgs st) (defBody st) (defScope st) .none kV doc pm an cdv ct) ⟨[u0, u1], []⟩ = pure [(a0, u0), (a1, u1)]) : ∀ f fd, Fun K x x st f fd → Binds K fd [a0, a1] [] := fun f fd F => F.binds fun kV doc pm an cdv ct us hl => match us, hl with | [u0, u1], _ => h kV doc pm an cdv ct u0 u1
theorem b3 {x : Str} {st : Stmt} {a0 a1 a2 : Str} (h : ∀ (kV doc pm : Value) (an : Option Addr) (cdv ct u0 u1 u2 : Value), bindArgs (PySem.W.fnOf x x (defArgs st) (defBody st) (defScope st) .none kV doc pm an cdv ct) ⟨[u0, u1, u2], []⟩ = pure [(a0, u0), (a1, u1), (a2, u2)]) : ∀ f fd, Fun K x x st f fd → Binds K fd [a0, a1, a2] [] := fun f fd F => F.binds fun kV doc pm an cdv ct us hl => match us, hl with | [u0, u1, u2], _ => h kV doc pm an cdv ct u0 u1 u2
theorem b4 {x : Str} {st : Stmt} {a0 a1 a2 a3 : Str} (h : ∀ (kV doc pm : Value) (an : Option Addr) (cdv ct u0 u1 u2 u3 : Value), bindArgs (PySem.W.fnOf x x (defArgs st) (defBody st) (defScope st) .none kV doc pm an cdv ct) ⟨[u0, u1, u2, u3], []⟩ = pure [(a0, u0), (a1, u1), (a2, u2), (a3, u3)]) : ∀ f fd, Fun K x x st f fd → Binds K fd [a0, a1, a2, a3] [] := fun f fd F => F.binds fun kV doc pm an cdv ct us hl => match us, hl with | [u0, u1, u2, u3], _ => h kV doc pm an cdv ct u0 u1 u2 u3
theorem b5 {x : Str} {st : Stmt} {a0 a1 a2 a3 a4 : Str} (h : ∀ (kV doc pm : Value) (an : Option Addr) (cdv ct u0 u1 u2 u3 u4 : Value), bindArgs (PySem.W.fnOf x x (defArgs st) (defBody st) (defScope st) .none kV doc pm an cdv ct) ⟨[u0, u1, u2, u3, u4], []⟩ = pure [(a0, u0), (a1, u1), (a2, u2), (a3, u3), (a4, u4)]) : ∀ f fd, Fun K x x st f fd → Binds K fd [a0, a1, a2, a3, a4] [] := fun f fd F => F.binds fun kV doc pm an cdv ct us hl => match us, hl with | [u0, u1, u2, u3, u4], _ => h kV doc pm an cdv ct u0 u1 u2 u3 u4
theorem b6 {x : Str} {st : Stmt} {a0 a1 a2 a3 a4 a5 : Str} (h : ∀ (kV doc pm : Value) (an : Option Addr) (cdv ct u0 u1 u2 u3 u4 u5 : Value), bindArgs (PySem.W.fnOf x x (defArgs st) (defBody st) (defScope st) .none kV doc pm an cdv ct) ⟨[u0, u1, u2, u3, u4, u5], []⟩ = pure [(a0, u0), (a1, u1), (a2, u2), (a3, u3), (a4, u4), (a5, u5)]) : ∀ f fd, Fun K x x st f fd → Binds K fd [a0, a1, a2, a3, a4, a5] [] := fun f fd F => F.binds fun kV doc pm an cdv ct us hl => match us, hl with | [u0, u1, u2, u3, u4, u5], _ => h kV doc pm an cdv ct u0 u1 u2 u3 u4 u5
end
theorem isTup_inv {d : PyData} (h : isTup d = true) : ∃ ds, d = .tuple ds := by cases d <;> first | exact ⟨_, rfl⟩ | cases h
theorem isStr_inv {d : PyData} (h : isStr d = true) : ∃ z, d = .str z := by cases d <;> first | exact ⟨_, rfl⟩ | cases h
theorem isWh_inv {d : PyData} (h : isWh d = true) : ∃ i, d = .int i := by cases d <;> first | exact ⟨_, rfl⟩ | cases h
theorem isTupN_inv {n : Nat} {d : PyData} (h : isTupN n d = true) : ∃ ds, d = .tuple ds ∧ ds.length = n := by cases d <;> first | exact ⟨_, rfl, of_decide_eq_true h⟩ | cases h
end W
/-! W2: values -/
namespace W
open PySem PySem.Spec PyProof.Rows L2 DL M

theorem atI_of {α : Type} {xs : List α} {i : Nat} {d : α} (h : xs[i]? = some d) : atI xs (i : Int) = some d := by
  have hi : i < xs.length := (List.getElem?_eq_some_iff.mp h).1
  unfold atI
  have e : ixN xs.length (i : Int) = some i := by
    unfold ixN
    rw [if_pos (by omega), if_pos (by omega)]
    simp
  rw [e]
  exact h
theorem gcd_step {a b : Int} (h0 : 0 ≤ a) (hb : 0 < b) : 0 ≤ a.fmod b ∧ a.fmod b < b ∧ gcdI b (a.fmod b) = gcdI a b := by
  rw [Int.fmod_eq_emod_of_nonneg _ (Int.le_of_lt hb)]
  refine ⟨Int.emod_nonneg _ (by omega), Int.emod_lt_of_pos _ hb, ?_⟩
  unfold gcdI
  obtain ⟨m, rfl⟩ := Int.eq_ofNat_of_zero_le h0
  obtain ⟨n, rfl⟩ := Int.eq_ofNat_of_zero_le (Int.le_of_lt hb)
  show ((Int.gcd (n : Int) ((m : Int) % (n : Int)) : Nat) : Int) = ((Int.gcd (m : Int) (n : Int) : Nat) : Int)
  rw [← Int.natCast_emod, Int.gcd_natCast_natCast, Int.gcd_natCast_natCast, Nat.gcd_comm m n, Nat.gcd_rec n m, Nat.gcd_comm]
theorem gcd_pos {a b : Int} (hb : 0 < b) : 0 < gcdI a b := by
  unfold gcdI
  have : 0 < Int.gcd a b := Int.gcd_pos_of_ne_zero_right _ (by omega)
  omega
theorem gcd_le {a b : Int} (hb : 0 < b) : gcdI a b ≤ b := by
  unfold gcdI
  exact Int.le_of_dvd hb (Int.gcd_dvd_right ..)
/-- a number as it is written -/
structure DgOk (z : Str) (n : Int) : Prop where
  lo : 1 ≤ z.cps.size
  hi : z.cps.size ≤ 8
  dig : ∀ c ∈ z.cps.toList, c ∈ (Str.ofString "0123456789").cps.toList
  hd : ∃ c, z.cps.toList[0]? = some c ∧ (z.cps.size ≤ 1 ∨ c ≠ 48)
  it : PySem.intText? z = some n
theorem hd48 {z : Str} {c : Nat} (h : z.cps.size ≤ 1 ∨ c ≠ 48) (hk : decide ((⟨#[c]⟩ : Str) = Str.ofString "0") = true) : decide (1 < ((z.length : Nat) : Int)) = false := by
  have e : (Str.ofString "0") = ⟨#[48]⟩ := by decide +kernel
  have h2 := of_decide_eq_true hk
  rw [e] at h2
  have h3 : c = 48 := by simpa using h2
  have h4 : z.cps.size ≤ 1 := h.resolve_right fun q => q h3
  exact decide_eq_false (show ¬ (1 : Int) < ((z.cps.size : Nat) : Int) by omega)
structure Gcd (q : Int × Int) : Prop where
  a : 0 ≤ q.1
  b : 0 ≤ q.2
theorem sc18 : FnScope ["value"] ["value"] (defScope (topS 18)) := ⟨rfl, rfl, rfl, by decide +kernel, rfl, by decide +kernel, by decide +kernel⟩
abbrev T_is_whole (S : Sys) : Prop := Kn S.P S.w S.K S.mg S.base 1 "is_whole" ["value"] (spF S.K S.C (α := PyData) (fun d => [d]) (fun d => isPl d = true) (fun d => .bool (isWh d)))
theorem w_is_whole {S : Sys} (A : At S.K S.mg "is_whole" (topS 18)) (B : Bt S.mg) (g : Gv S.K S.mg)  : T_is_whole S := by
  refine kn_F A sc18 (fun _ _ => rfl) (b1 fun _ _ _ _ _ _ _ => rfl) fun f cdv A outer s H E a hr hp => ?_
  refine ss_retD ?_
  refine ef_cut (.bool (isWh a)) ?_ ?_
  ·
    refine ef_and2 ?_
    refine ef_isInt B ?_
    refine ef_i 0 rfl ?_
    refine ⟨_, rfl, hp, ?_⟩
    refine ⟨_, rfl, fun hk => ?_, fun hk => ?_⟩
    · exact ⟨(by cases a <;> first | rfl | cases hk), rfl⟩
    refine ef_not ?_
    refine ef_isBool B ?_
    refine ef_i 0 rfl ?_
    refine ⟨_, rfl, hp, ?_⟩
    refine ⟨_, rfl, ?_⟩
    exact ⟨(by cases a <;> first | rfl | cases hk), rfl⟩
  refine ⟨_, rfl, ?_⟩
  exact rfl
theorem sc19 : FnScope ["value", "least", "greatest"] ["value", "least", "greatest"] (defScope (topS 19)) := ⟨rfl, rfl, rfl, by decide +kernel, rfl, by decide +kernel, by decide +kernel⟩
abbrev T_is_integer (S : Sys) : Prop := Kn S.P S.w S.K S.mg S.base 2 "is_integer" ["value", "least", "greatest"] (spF S.K S.C (α := PyData × Int × Int) (fun q => [q.1, .int q.2.1, .int q.2.2]) (fun q => isPl q.1 = true) (fun q => .bool (inB q.2.1 q.2.2 q.1)))
theorem w_is_integer {S : Sys} (A : At S.K S.mg "is_integer" (topS 19)) (B : Bt S.mg) (g : Gv S.K S.mg) (k_is_whole : T_is_whole S) : T_is_integer S := by
  refine kn_F A sc19 (fun _ _ => rfl) (b3 fun _ _ _ _ _ _ _ _ _ => rfl) fun f cdv A outer s H E a hr hp => ?_
  refine ss_retD ?_
  refine ef_cut (.bool (inB a.2.1 a.2.2 a.1)) ?_ ?_
  ·
    refine ef_and2 ?_
    refine ef_cF k_is_whole (hr.mono (by omega)) ?_
    refine ea_d ?_
    refine ef_i 0 rfl ?_
    refine ⟨_, rfl, ?_⟩
    refine ea_nil ?_
    refine ⟨a.1, rfl, hp, ?_⟩
    refine ⟨_, rfl, fun hk => ?_, fun hk => ?_⟩
    · exact ⟨(by cases h : a.1 <;> rw [h] at hk <;> first | rfl | cases hk), rfl⟩
    obtain ⟨d, lo, hi⟩ := a
    obtain ⟨i, rfl⟩ := isWh_inv hk
    refine ef_cut (.bool (inB lo hi (.int i))) ?_ ?_
    ·
      refine ef_ch ?_
      refine ef_i 1 rfl ?_
      refine ⟨_, rfl, ?_⟩
      refine ef_i 0 rfl ?_
      refine ⟨_, rfl, fun hn => ?_, fun hle => ?_⟩
      · exact ⟨(by have h : ¬ lo ≤ i := hn; simp [inB, h]), rfl⟩
      refine ef_i 2 rfl ?_
      exact ⟨_, rfl, (by have h : lo ≤ i := hle; simp [inB, h]), rfl⟩
    exact ⟨rfl, rfl⟩
  refine ⟨_, rfl, ?_⟩
  exact rfl
theorem sc21 : FnScope ["value", "many"] ["value", "many"] (defScope (topS 21)) := ⟨rfl, rfl, rfl, by decide +kernel, rfl, by decide +kernel, by decide +kernel⟩
abbrev T_is_tuple_of (S : Sys) : Prop := Kn S.P S.w S.K S.mg S.base 1 "is_tuple_of" ["value", "many"] (spF S.K S.C (α := PyData × Nat) (fun q => [q.1, .int (q.2 : Int)]) (fun q => isPl q.1 = true) (fun q => .bool (isTupN q.2 q.1)))
theorem w_is_tuple_of {S : Sys} (A : At S.K S.mg "is_tuple_of" (topS 21)) (B : Bt S.mg) (g : Gv S.K S.mg)  : T_is_tuple_of S := by
  refine kn_F A sc21 (fun _ _ => rfl) (b2 fun _ _ _ _ _ _ _ _ => rfl) fun f cdv A outer s H E a hr hp => ?_
  refine ss_retD ?_
  refine ef_cut (.bool (isTupN a.2 a.1)) ?_ ?_
  ·
    refine ef_and2 ?_
    refine ef_isTup B ?_
    refine ef_i 0 rfl ?_
    refine ⟨_, rfl, hp, ?_⟩
    refine ⟨_, rfl, fun hk => ?_, fun hk => ?_⟩
    · exact ⟨(by cases h : a.1 <;> rw [h] at hk <;> first | rfl | cases hk), rfl⟩
    refine ef_c ?_
    refine ec_eqI ?_
    refine ef_len B ?_
    refine ef_i 0 rfl ?_
    obtain ⟨d, n⟩ := a
    obtain ⟨ds, rfl⟩ := isTup_inv hk
    refine ⟨_, .inr rfl, ?_⟩
    refine ⟨_, rfl, ?_⟩
    refine ef_i 1 rfl ?_
    refine ⟨_, _, rfl, rfl, ?_⟩
    exact ⟨(by simp [isTupN]; omega), rfl⟩
  refine ⟨_, rfl, ?_⟩
  exact rfl
theorem sc22 : FnScope ["text", "sign"] ["text"] (defScope (topS 22)) := ⟨rfl, rfl, rfl, by decide +kernel, rfl, by decide +kernel, by decide +kernel⟩
abbrev T_written (S : Sys) : Prop := Kn S.P S.w S.K S.mg S.base 1 "written" ["text"] (spF S.K S.C (α := Str × Int) (fun q => [.str q.1]) (fun q => DgOk q.1 q.2) (fun q => .int q.2))
theorem w_written {S : Sys} (A : At S.K S.mg "written" (topS 22)) (B : Bt S.mg) (g : Gv S.K S.mg)  : T_written S := by
  refine kn_F A sc22 (fun _ _ => rfl) (b1 fun _ _ _ _ _ _ _ => rfl) fun f cdv A outer s H E a hr hp => ?_
  obtain ⟨c, hc, hc2⟩ := hp.hd
  refine ss_if ?_
  refine et_cut false ?_ ?_
  ·
    refine et_w ?_
    refine ew_or ?_
    refine et_not ?_
    refine et_cut true ?_ ?_
    ·
      refine et_ch ?_
      refine ef_int ?_
      refine ⟨_, rfl, ?_⟩
      refine ef_lenS B ?_
      refine ef_i 0 rfl ?_
      refine ⟨_, rfl, Nat.le_trans hp.hi (by decide), ?_⟩
      refine ⟨_, rfl, fun hn => ?_, fun hle => ?_⟩
      · exact ⟨(by have := hp.lo; exact absurd (show (1 : Int) ≤ ((a.1.cps.size : Nat) : Int) by omega) hn), rfl⟩
      refine ef_gi g.LONGEST_NUMBER ?_
      exact ⟨_, rfl, (by have := hp.hi; exact decide_eq_true (show ((a.1.cps.size : Nat) : Int) ≤ 8 by omega)), rfl⟩
    refine ⟨fun hk => ?_, fun hk => ?_⟩
    · exact ⟨absurd hk (by decide), rfl⟩
    refine ew_one_or ?_
    refine et_not ?_
    refine et_v ?_
    refine ef_allF B ?_
    refine ef_lcM (ts := [1]) [("sign", 1)] (fun _ => .bool true) (show blkC ["text", "sign"] (defScope (topS 22)) _ [("sign", 1)] = true from by decide +kernel) sc22.nd ?_
    refine ei_s ?_
    refine ef_i 0 rfl ?_
    refine ⟨_, rfl, ?_⟩
    refine ⟨rfl, (by simp [signsD]; have := hp.hi; omega), by decide, fun d hd s H0 Cc cl fp => ?_, ?_⟩
    ·
      refine sg_n 1 rfl ?_ sc22.nd
      obtain ⟨c1, hc1, rfl⟩ := signs_mem hd
      refine ⟨rfl, fun s H0 Cc cl fp => ?_⟩
      refine ef_c ?_
      refine ec_inS ?_
      refine ef_i 1 rfl ?_
      refine ⟨_, rfl, ?_⟩
      refine ef_gs g.DIGITS ?_
      refine ⟨_, _, rfl, rfl, ?_⟩
      exact ⟨by rw [decide_eq_true (hp.dig c1 hc1)], rfl⟩
    refine ⟨_, _, rfl, ?_⟩
    refine ⟨_, rfl, ?_⟩
    exact ⟨(by simp), rfl⟩
  refine ⟨fun hk => ?_, fun hk => ?_⟩
  ·
    refine ss_retD ?_
    refine ef_non ?_
    refine ⟨_, rfl, ?_⟩
    exact absurd hk (by decide)
  refine ss_nil ?_
  refine ss_retD ?_
  refine ef_cut (.int a.2) ?_ ?_
  ·
    refine ef_if ?_
    refine et_cut false ?_ ?_
    ·
      refine et_w ?_
      refine ew_and ?_
      refine et_c ?_
      refine ec_eqS ?_
      refine ef_ixS ?_
      refine ef_i 0 rfl ?_
      refine ⟨_, rfl, ?_⟩
      refine ef_int ?_
      refine ⟨_, _, _, rfl, rfl, Nat.le_trans hp.hi (by decide), (atI_of (i := 0) hc), ?_⟩
      refine ⟨_, rfl, ?_⟩
      refine ef_str ?_
      refine ⟨_, _, rfl, rfl, ?_⟩
      refine ⟨_, rfl, ?_⟩
      refine ⟨fun hk => ?_, fun hk => ?_⟩
      · exact ⟨(by first | rfl | assumption | decide | omega | exact (nomatch hk)), rfl⟩
      refine ew_one_and ?_
      refine et_c ?_
      refine ec_gt' ?_
      refine ef_lenS B ?_
      refine ef_i 0 rfl ?_
      refine ⟨_, rfl, Nat.le_trans hp.hi (by decide), ?_⟩
      refine ⟨_, rfl, ?_⟩
      refine ef_int ?_
      refine ⟨_, _, rfl, rfl, ?_⟩
      refine ⟨_, rfl, ?_⟩
      exact ⟨hd48 hc2 hk, rfl⟩
    refine ⟨fun hk => ?_, fun hk => ?_⟩
    ·
      refine ef_non ?_
      exact ⟨absurd hk (by decide), rfl⟩
    ·
      refine ef_intS B ?_
      refine ef_i 0 rfl ?_
      refine ⟨_, _, rfl, hp.it, Nat.le_trans hp.hi (by decide), ?_⟩
      exact ⟨rfl, rfl⟩
  refine ⟨_, rfl, ?_⟩
  exact rfl
theorem sc23 : FnScope ["one", "other"] ["one", "other"] (defScope (topS 23)) := ⟨rfl, rfl, rfl, by decide +kernel, rfl, by decide +kernel, by decide +kernel⟩
abbrev T_common (S : Sys) : Prop := Kn S.P S.w S.K S.mg S.base 1 "common" ["one", "other"] (spF S.K S.C (α := Int × Int) (fun q => [.int q.1, .int q.2]) (fun q => Gcd q) (fun q => .int (gcdI q.1 q.2)))
theorem w_common {S : Sys} (A : At S.K S.mg "common" (topS 23)) (B : Bt S.mg) (g : Gv S.K S.mg)  : T_common S := by
  refine kn_F A sc23 (fun _ _ => rfl) (b2 fun _ _ _ _ _ _ _ _ => rfl) fun f cdv A outer s H E a hr hp => ?_
  refine ss_while (fun m G' => ∃ x y : Int, G' = [.imm (.int x), .imm (.int y)] ∧ 0 ≤ x ∧ 0 ≤ y ∧ m = y.toNat ∧ gcdI x y = gcdI a.1 a.2) a.2.toNat ⟨a.1, a.2, rfl, hp.a, hp.b, rfl, rfl⟩ fun m G1 hP => ?_
  obtain ⟨x, y, rfl, h1, h2, h3, h4⟩ := hP
  refine et_c ?_
  refine ec_gt' ?_
  refine ef_i 1 rfl ?_
  refine ⟨_, rfl, ?_⟩
  refine ef_int ?_
  refine ⟨_, _, rfl, rfl, ?_⟩
  refine ⟨_, rfl, ?_⟩
  refine ⟨fun hk => ?_, fun hk => ?_⟩
  ·
    refine ss_par2 0 1 ?_ sc23.nd
    refine ea_d ?_
    refine ef_i 1 rfl ?_
    refine ⟨_, rfl, ?_⟩
    refine ea_d ?_
    refine ef_mod ?_
    refine ef_i 0 rfl ?_
    refine ⟨_, rfl, ?_⟩
    refine ef_i 1 rfl ?_
    refine ⟨_, _, rfl, rfl, (by have := of_decide_eq_true hk; omega), ?_⟩
    refine ⟨_, rfl, ?_⟩
    refine ea_nil ?_
    refine ⟨_, _, rfl, rfl, rfl, ?_⟩
    refine ss_fgt [] rfl (ss_nil ?_)
    have hy := of_decide_eq_true hk
    obtain ⟨g1, g2, g3⟩ := gcd_step h1 hy
    exact ⟨_, (by omega), y, x.fmod y, rfl, h2, g1, rfl, g3.trans h4⟩
  refine ss_retD ?_
  refine ef_i 0 rfl ?_
  refine ⟨_, rfl, ?_⟩
  have hy := of_decide_eq_false hk
  have hy0 : y = 0 := by omega
  subst hy0
  exact (by rw [← h4]; unfold gcdI; simp; omega)
end W
/-! W3: fractions, names, the checks -/
namespace W
open PySem PySem.Spec PyProof.Rows L2 DL M

structure LowOk (q : Int × Int) : Prop where
  a : 0 ≤ q.1
  b : 1 ≤ q.2
  c : q.2 ≤ 1000000
theorem abs_eq {n : Int} (h : 0 ≤ n) : (if n < 0 then -n else n) = n := if_neg (by omega)
theorem abs_abs (n : Int) : (if n < 0 then -n else n) = (n.natAbs : Int) := by split <;> omega
theorem div_ok {a b : Int} (h : 1 ≤ b) (h2 : b ≤ 1000000) : CDivN (a) (gcdI a b) := by
  have h3 := gcd_pos (a := a) (b := b) (by omega)
  have h4 := gcd_le (a := a) (b := b) (by omega)
  exact ⟨by omega, by omega⟩
theorem sc24 : FnScope ["top", "bottom", "shared"] ["top", "bottom"] (defScope (topS 24)) := ⟨rfl, rfl, rfl, by decide +kernel, rfl, by decide +kernel, by decide +kernel⟩
abbrev T_lowest (S : Sys) : Prop := Kn S.P S.w S.K S.mg S.base 2 "lowest" ["top", "bottom"] (spF S.K S.C (α := Int × Int) (fun q => [.int q.1, .int q.2]) (fun q => LowOk q) (fun q => frD (low q.1 q.2)))
theorem w_lowest {S : Sys} (A : At S.K S.mg "lowest" (topS 24)) (B : Bt S.mg) (g : Gv S.K S.mg) (k_common : T_common S) : T_lowest S := by
  refine kn_F A sc24 (fun _ _ => rfl) (b2 fun _ _ _ _ _ _ _ _ => rfl) fun f cdv A outer s H E a hr hp => ?_
  refine ss_set 2 ?_ rfl sc24.nd
  refine ef_cF k_common (hr.mono (by omega)) ?_
  refine ea_d ?_
  refine ef_abs B ?_
  refine ef_i 0 rfl ?_
  refine ⟨_, rfl, ?_⟩
  refine ⟨_, rfl, ?_⟩
  refine ea_d ?_
  refine ef_i 1 rfl ?_
  refine ⟨_, rfl, ?_⟩
  refine ea_nil ?_
  refine ⟨(a.1, a.2), by rw [abs_eq hp.a]; rfl, ⟨hp.a, by have := hp.b; show (0 : Int) ≤ a.2; omega⟩, ?_⟩
  refine ⟨_, rfl, rfl, ?_⟩
  refine ss_retD ?_
  refine ef_tup ?_
  refine ea_d ?_
  refine ef_fdiv ?_
  refine ef_i 0 rfl ?_
  refine ⟨_, rfl, ?_⟩
  refine ef_i 2 rfl ?_
  refine ⟨_, _, rfl, rfl, (div_ok hp.b hp.c), ?_⟩
  refine ⟨_, rfl, ?_⟩
  refine ea_d ?_
  refine ef_fdiv ?_
  refine ef_i 1 rfl ?_
  refine ⟨_, rfl, ?_⟩
  refine ef_i 2 rfl ?_
  refine ⟨_, _, rfl, rfl, (show CDivN a.2 (gcdI a.1 a.2) from ⟨(div_ok (a := a.1) hp.b hp.c).1, (div_ok (a := a.1) hp.b hp.c).2⟩), ?_⟩
  refine ⟨_, rfl, ?_⟩
  refine ea_nil ?_
  refine ⟨[_, _], rfl, show 2 ≤ sizeLine by decide, ?_⟩
  refine ⟨_, rfl, ?_⟩
  exact rfl
structure TimesOk (q : (Int × Int) × Int × Int) : Prop where
  l : LowOk (q.1.1 * q.2.1, q.1.2 * q.2.2)
  r1 : -(2 ^ 64) < q.2.1 ∧ q.2.1 < 2 ^ 64
  r2 : -(2 ^ 64) < q.2.2 ∧ q.2.2 < 2 ^ 64
theorem sc25 : FnScope ["one", "other"] ["one", "other"] (defScope (topS 25)) := ⟨rfl, rfl, rfl, by decide +kernel, rfl, by decide +kernel, by decide +kernel⟩
abbrev T_times (S : Sys) : Prop := Kn S.P S.w S.K S.mg S.base 3 "times" ["one", "other"] (spF S.K S.C (α := (Int × Int) × Int × Int) (fun q => [frD q.1, frD q.2]) (fun q => TimesOk q) (fun q => frD (low (q.1.1 * q.2.1) (q.1.2 * q.2.2))))
theorem w_times {S : Sys} (A : At S.K S.mg "times" (topS 25)) (B : Bt S.mg) (g : Gv S.K S.mg) (k_lowest : T_lowest S) : T_times S := by
  refine kn_F A sc25 (fun _ _ => rfl) (b2 fun _ _ _ _ _ _ _ _ => rfl) fun f cdv A outer s H E a hr hp => ?_
  refine ss_retD ?_
  refine ef_cF k_lowest (hr.mono (by omega)) ?_
  refine ea_d ?_
  refine ef_mul ?_
  refine ef_ixT ?_
  refine ef_i 0 rfl ?_
  refine ⟨_, rfl, ?_⟩
  refine ef_int ?_
  refine ⟨_, _, _, rfl, rfl, (atI_of (i := 0) rfl), ?_⟩
  refine ⟨_, rfl, ?_⟩
  refine ef_ixT ?_
  refine ef_i 1 rfl ?_
  refine ⟨_, rfl, ?_⟩
  refine ef_int ?_
  refine ⟨_, _, _, rfl, rfl, (atI_of (i := 0) rfl), ?_⟩
  refine ⟨_, _, rfl, rfl, (.inr hp.r1), ?_⟩
  refine ⟨_, rfl, ?_⟩
  refine ea_d ?_
  refine ef_mul ?_
  refine ef_ixT ?_
  refine ef_i 0 rfl ?_
  refine ⟨_, rfl, ?_⟩
  refine ef_int ?_
  refine ⟨_, _, _, rfl, rfl, (atI_of (i := 1) rfl), ?_⟩
  refine ⟨_, rfl, ?_⟩
  refine ef_ixT ?_
  refine ef_i 1 rfl ?_
  refine ⟨_, rfl, ?_⟩
  refine ef_int ?_
  refine ⟨_, _, _, rfl, rfl, (atI_of (i := 1) rfl), ?_⟩
  refine ⟨_, _, rfl, rfl, (.inr hp.r2), ?_⟩
  refine ⟨_, rfl, ?_⟩
  refine ea_nil ?_
  refine ⟨(a.1.1 * a.2.1, a.1.2 * a.2.2), rfl, hp.l, ?_⟩
  refine ⟨_, rfl, ?_⟩
  exact rfl
theorem sc26 : FnScope ["one", "other"] ["one", "other"] (defScope (topS 26)) := ⟨rfl, rfl, rfl, by decide +kernel, rfl, by decide +kernel, by decide +kernel⟩
abbrev T_is_above (S : Sys) : Prop := Kn S.P S.w S.K S.mg S.base 1 "is_above" ["one", "other"] (spF S.K S.C (α := (Int × Int) × Int × Int) (fun q => [frD q.1, frD q.2]) (fun q => (-(2 ^ 64) < q.2.2 ∧ q.2.2 < 2 ^ 64) ∧ (-(2 ^ 64) < q.1.2 ∧ q.1.2 < 2 ^ 64)) (fun q => .bool (decide (q.2.1 * q.1.2 < q.1.1 * q.2.2))))
theorem w_is_above {S : Sys} (A : At S.K S.mg "is_above" (topS 26)) (B : Bt S.mg) (g : Gv S.K S.mg)  : T_is_above S := by
  refine kn_F A sc26 (fun _ _ => rfl) (b2 fun _ _ _ _ _ _ _ _ => rfl) fun f cdv A outer s H E a hr hp => ?_
  refine ss_retD ?_
  refine ef_c ?_
  refine ec_gt' ?_
  refine ef_mul ?_
  refine ef_ixT ?_
  refine ef_i 0 rfl ?_
  refine ⟨_, rfl, ?_⟩
  refine ef_int ?_
  refine ⟨_, _, _, rfl, rfl, (atI_of (i := 0) rfl), ?_⟩
  refine ⟨_, rfl, ?_⟩
  refine ef_ixT ?_
  refine ef_i 1 rfl ?_
  refine ⟨_, rfl, ?_⟩
  refine ef_int ?_
  refine ⟨_, _, _, rfl, rfl, (atI_of (i := 1) rfl), ?_⟩
  refine ⟨_, _, rfl, rfl, (.inr hp.1), ?_⟩
  refine ⟨_, rfl, ?_⟩
  refine ef_mul ?_
  refine ef_ixT ?_
  refine ef_i 1 rfl ?_
  refine ⟨_, rfl, ?_⟩
  refine ef_int ?_
  refine ⟨_, _, _, rfl, rfl, (atI_of (i := 0) rfl), ?_⟩
  refine ⟨_, rfl, ?_⟩
  refine ef_ixT ?_
  refine ef_i 0 rfl ?_
  refine ⟨_, rfl, ?_⟩
  refine ef_int ?_
  refine ⟨_, _, _, rfl, rfl, (atI_of (i := 1) rfl), ?_⟩
  refine ⟨_, _, rfl, rfl, (.inr hp.2), ?_⟩
  refine ⟨_, _, rfl, rfl, ?_⟩
  refine ⟨_, rfl, ?_⟩
  exact rfl
def isPr2 : PyData → Bool
  | .tuple [.int _, .int _] => true
  | _ => false
theorem isPr2_inv {d : PyData} (h : isPr2 d = true) : ∃ a b, d = .tuple [.int a, .int b] := by
  unfold isPr2 at h
  split at h
  · exact ⟨_, _, rfl⟩
  · cases h
theorem isPr2_not {d : PyData} (h : isPr2 d = false) : isFr d = false := by
  unfold isFr
  split
  · cases h
  · rfl
theorem tup2 {d : PyData} (h : (!isTupN 2 d) = false) : ∃ x y, d = .tuple [x, y] := by
  obtain ⟨ds, rfl, h2⟩ := isTupN_inv (by simpa using h)
  match ds, h2 with
  | [x, y], _ => exact ⟨x, y, rfl⟩
theorem _root_.M.Dat.in {d : PyData} {ds : List PyData} (h : Dat (.tuple ds)) (m : d ∈ ds) : Dat d := by
  cases h with
  | tup h _ => exact h d m
theorem notPr_tup {d : PyData} (h : (!isTupN 2 d) = true) : isPr2 d = false := by
  unfold isPr2
  split
  · cases h
  · rfl
theorem notPr_1 {x y : PyData} (h : (!isWh x) = true) : isPr2 (.tuple [x, y]) = false := by
  cases x <;> first | rfl | cases h
theorem notPr_2 {x y : PyData} (h : (!isWh x) = false) : (!isWh y) = (!isPr2 (.tuple [x, y])) := by
  cases x <;> first | (cases h; done) | (cases y <;> rfl)
theorem sc27 : FnScope ["value"] ["value"] (defScope (topS 27)) := ⟨rfl, rfl, rfl, by decide +kernel, rfl, by decide +kernel, by decide +kernel⟩
abbrev T_is_fraction (S : Sys) : Prop := Kn S.P S.w S.K S.mg S.base 2 "is_fraction" ["value"] (spF S.K S.C (α := PyData) (fun d => [d]) (fun d => Dat d) (fun d => .bool (isFr d)))
theorem w_is_fraction {S : Sys} (A : At S.K S.mg "is_fraction" (topS 27)) (B : Bt S.mg) (g : Gv S.K S.mg) (k_is_tuple_of : T_is_tuple_of S) (k_is_whole : T_is_whole S) (k_common : T_common S) : T_is_fraction S := by
  refine kn_F A sc27 (fun _ _ => rfl) (b1 fun _ _ _ _ _ _ _ => rfl) fun f cdv A outer s H E a hr hp => ?_
  refine ss_if ?_
  refine et_cut (!isPr2 a) ?_ ?_
  ·
    refine et_w ?_
    refine ew_or ?_
    refine et_not ?_
    refine et_v ?_
    refine ef_cF k_is_tuple_of (hr.mono (by omega)) ?_
    refine ea_d ?_
    refine ef_i 0 rfl ?_
    refine ⟨_, rfl, ?_⟩
    refine ea_d ?_
    refine ef_int ?_
    refine ⟨_, rfl, ?_⟩
    refine ea_nil ?_
    refine ⟨(a, 2), rfl, hp.pl, ?_⟩
    refine ⟨_, rfl, ?_⟩
    refine ⟨fun hk => ?_, fun hk => ?_⟩
    · exact ⟨(by rw [notPr_tup hk]; rfl), rfl⟩
    refine ew_or ?_
    refine et_not ?_
    refine et_v ?_
    refine ef_cF k_is_whole (hr.mono (by omega)) ?_
    refine ea_d ?_
    refine ef_ixT ?_
    refine ef_i 0 rfl ?_
    refine ⟨_, rfl, ?_⟩
    refine ef_int ?_
    obtain ⟨x, y, rfl⟩ := tup2 hk
    have hx : Dat x := hp.in (by simp)
    have hy : Dat y := hp.in (by simp)
    refine ⟨_, _, _, rfl, rfl, (atI_of (i := 0) rfl), ?_⟩
    refine ⟨_, rfl, ?_⟩
    refine ea_nil ?_
    refine ⟨x, rfl, hx.pl, ?_⟩
    refine ⟨_, rfl, ?_⟩
    refine ⟨fun hk => ?_, fun hk => ?_⟩
    · exact ⟨(by rw [notPr_1 hk]; rfl), rfl⟩
    refine ew_one_or ?_
    refine et_not ?_
    refine et_v ?_
    refine ef_cF k_is_whole (hr.mono (by omega)) ?_
    refine ea_d ?_
    refine ef_ixT ?_
    refine ef_i 0 rfl ?_
    refine ⟨_, rfl, ?_⟩
    refine ef_int ?_
    refine ⟨_, _, _, rfl, rfl, (atI_of (i := 1) rfl), ?_⟩
    refine ⟨_, rfl, ?_⟩
    refine ea_nil ?_
    refine ⟨y, rfl, hy.pl, ?_⟩
    refine ⟨_, rfl, ?_⟩
    exact ⟨notPr_2 (by assumption), rfl⟩
  refine ⟨fun hk => ?_, fun hk => ?_⟩
  ·
    refine ss_retD ?_
    refine ef_bl ?_
    refine ⟨_, rfl, ?_⟩
    exact (by rw [isPr2_not (by simpa using hk)])
  refine ss_nil ?_
  refine ss_retD ?_
  obtain ⟨x, y, rfl⟩ := isPr2_inv (by simpa using hk)
  refine ef_cut (.bool (isFr (.tuple [.int x, .int y]))) ?_ ?_
  ·
    refine ef_and2 ?_
    refine ef_c ?_
    refine ec_gt' ?_
    refine ef_ixT ?_
    refine ef_i 0 rfl ?_
    refine ⟨_, rfl, ?_⟩
    refine ef_int ?_
    refine ⟨_, _, _, rfl, rfl, (atI_of (i := 1) rfl), ?_⟩
    refine ⟨_, rfl, ?_⟩
    refine ef_int ?_
    refine ⟨_, _, rfl, rfl, ?_⟩
    refine ⟨_, rfl, fun hk => ?_, fun hk => ?_⟩
    · exact ⟨(by simp [isFr]; intro h; simp at hk; omega), rfl⟩
    refine ef_c ?_
    refine ec_eqI ?_
    refine ef_cF k_common (hr.mono (by omega)) ?_
    refine ea_d ?_
    refine ef_abs B ?_
    refine ef_ixT ?_
    refine ef_i 0 rfl ?_
    refine ⟨_, rfl, ?_⟩
    refine ef_int ?_
    refine ⟨_, _, _, rfl, rfl, (atI_of (i := 0) rfl), ?_⟩
    refine ⟨_, rfl, ?_⟩
    refine ⟨_, rfl, ?_⟩
    refine ea_d ?_
    refine ef_ixT ?_
    refine ef_i 0 rfl ?_
    refine ⟨_, rfl, ?_⟩
    refine ef_int ?_
    refine ⟨_, _, _, rfl, rfl, (atI_of (i := 1) rfl), ?_⟩
    refine ⟨_, rfl, ?_⟩
    refine ea_nil ?_
    refine ⟨((x.natAbs : Int), y), by rw [abs_abs]; rfl, ⟨by show (0:Int) ≤ (x.natAbs : Int); omega, by have := of_decide_eq_true hk; show (0:Int) ≤ y; omega⟩, ?_⟩
    refine ⟨_, rfl, ?_⟩
    refine ef_int ?_
    refine ⟨_, _, rfl, rfl, ?_⟩
    exact ⟨(by simp [isFr, hk]; simp at hk; simp [hk, gcdI, Int.gcd]), rfl⟩
  refine ⟨_, rfl, ?_⟩
  exact rfl
theorem mem_let {c : Nat} (h : isL c) : c ∈ (Str.ofString "abcdefghijklmnopqrstuvwxyz").cps.toList := by
  have e : (Str.ofString "abcdefghijklmnopqrstuvwxyz").cps.toList = List.range' 97 26 := by decide +kernel
  rw [e, List.mem_range'_1]
  unfold isL at h
  omega
theorem mem_dig {c : Nat} (h : isG c) : c ∈ (Str.ofString "0123456789").cps.toList := by
  have e : (Str.ofString "0123456789").cps.toList = List.range' 48 10 := by decide +kernel
  rw [e, List.mem_range'_1]
  unfold isG at h
  omega
theorem mem_both {c : Nat} (h : isL c ∨ isG c) : c ∈ ((Str.ofString "abcdefghijklmnopqrstuvwxyz") ++ (Str.ofString "0123456789")).cps.toList := by
  have e : ((Str.ofString "abcdefghijklmnopqrstuvwxyz") ++ (Str.ofString "0123456789")).cps.toList = (Str.ofString "abcdefghijklmnopqrstuvwxyz").cps.toList ++ (Str.ofString "0123456789").cps.toList := by decide +kernel
  rw [e]
  rcases h with h | h
  · exact List.mem_append_left _ (mem_let h)
  · exact List.mem_append_right _ (mem_dig h)
theorem sc20 : FnScope ["value", "sign"] ["value"] (defScope (topS 20)) := ⟨rfl, rfl, rfl, by decide +kernel, rfl, by decide +kernel, by decide +kernel⟩
abbrev T_is_name (S : Sys) : Prop := Kn S.P S.w S.K S.mg S.base 1 "is_name" ["value"] (spF S.K S.C (α := Str) (fun z => [.str z]) (fun z => NmOk z) (fun _ => .bool true))
theorem w_is_name {S : Sys} (A : At S.K S.mg "is_name" (topS 20)) (B : Bt S.mg) (g : Gv S.K S.mg)  : T_is_name S := by
  refine kn_F A sc20 (fun _ _ => rfl) (b1 fun _ _ _ _ _ _ _ => rfl) fun f cdv A outer s H E a hr hp => ?_
  obtain ⟨c, hc, hc2⟩ := hp.fst
  refine ss_if ?_
  refine et_cut false ?_ ?_
  ·
    refine et_w ?_
    refine ew_or ?_
    refine et_not ?_
    refine et_v ?_
    refine ef_isStr B ?_
    refine ef_i 0 rfl ?_
    refine ⟨_, rfl, (by first | rfl | assumption | decide | omega | exact (nomatch hk)), ?_⟩
    refine ⟨_, rfl, ?_⟩
    refine ⟨fun hk => ?_, fun hk => ?_⟩
    · exact ⟨(nomatch hk), rfl⟩
    refine ew_one_or ?_
    refine et_not ?_
    refine et_cut true ?_ ?_
    ·
      refine et_ch ?_
      refine ef_int ?_
      refine ⟨_, rfl, ?_⟩
      refine ef_lenS B ?_
      refine ef_i 0 rfl ?_
      refine ⟨_, rfl, Nat.le_trans hp.hi (by decide), ?_⟩
      refine ⟨_, rfl, fun hn => ?_, fun hle => ?_⟩
      · exact ⟨absurd (show (1 : Int) ≤ ((a.cps.size : Nat) : Int) by have := hp.lo; omega) hn, rfl⟩
      refine ef_gi g.LONGEST_NAME ?_
      exact ⟨_, rfl, decide_eq_true (show ((a.cps.size : Nat) : Int) ≤ 8 by have := hp.hi; omega), rfl⟩
    exact ⟨(by first | rfl | assumption | decide | omega | exact (nomatch hk)), rfl⟩
  refine ⟨fun hk => ?_, fun hk => ?_⟩
  ·
    refine ss_retD ?_
    refine ef_bl ?_
    refine ⟨_, rfl, ?_⟩
    exact (nomatch hk)
  refine ss_nil ?_
  refine ss_retD ?_
  refine ef_cut (.bool true) ?_ ?_
  ·
    refine ef_and2 ?_
    refine ef_c ?_
    refine ec_inS ?_
    refine ef_ixS ?_
    refine ef_i 0 rfl ?_
    refine ⟨_, rfl, ?_⟩
    refine ef_int ?_
    refine ⟨_, _, _, rfl, rfl, Nat.le_trans hp.hi (by decide), (atI_of (i := 0) hc), ?_⟩
    refine ⟨_, rfl, ?_⟩
    refine ef_gs g.LETTERS ?_
    refine ⟨_, _, rfl, rfl, ?_⟩
    refine ⟨_, rfl, fun hk => ?_, fun hk => ?_⟩
    · exact ⟨absurd (decide_eq_true (mem_let hc2)) (by rw [hk]; decide), rfl⟩
    refine ef_allF B ?_
    refine ef_lcM (ts := [1]) [("sign", 1)] (fun _ => .bool true) (show blkC ["value", "sign"] (defScope (topS 20)) _ [("sign", 1)] = true from by decide +kernel) sc20.nd ?_
    refine ei_s ?_
    refine ef_i 0 rfl ?_
    refine ⟨_, rfl, ?_⟩
    refine ⟨rfl, (by simp [signsD]; have := hp.hi; omega), by decide, fun d hd s H0 Cc cl fp => ?_, ?_⟩
    ·
      refine sg_n 1 rfl ?_ sc20.nd
      obtain ⟨c1, hc1, rfl⟩ := signs_mem hd
      refine ⟨rfl, fun s H0 Cc cl fp => ?_⟩
      refine ef_c ?_
      refine ec_inS ?_
      refine ef_i 1 rfl ?_
      refine ⟨_, rfl, ?_⟩
      refine ef_addS ?_
      refine ef_gs g.LETTERS ?_
      refine ⟨_, rfl, ?_⟩
      refine ef_gs g.DIGITS ?_
      refine ⟨_, _, rfl, rfl, (by decide +kernel), ?_⟩
      refine ⟨_, _, rfl, rfl, ?_⟩
      exact ⟨by rw [decide_eq_true (mem_both (hp.all c1 hc1))], rfl⟩
    refine ⟨_, _, rfl, ?_⟩
    exact ⟨(by simp), rfl⟩
  refine ⟨_, rfl, ?_⟩
  exact rfl
end W
/-! M2: the sheet. -/
namespace M
open PySem PySem.Spec PyProof.Rows

def num (n : Int) : Str := Str.ofString (toString n)
def joinS (ws : List Str) : Str := Txt.join " " ws
def rowDW (p : Pt) : List Str := "divisors" :: p.dv.map num
def rowCW (c : Str × Int) : List Str := ["party", c.1, num c.2]
def rowHW (h : Int × List Str) : List Str := "pile" :: num h.1 :: h.2
def rowsW (p : Pt) : List (List Str) := rowDW p :: (p.cl.map rowCW ++ p.hp.map rowHW)
def rowsS (p : Pt) : List Str := (rowsW p).map joinS
def sheet (p : Pt) : Str := Txt.join "\n" (rowsS p)
/-- a word: no blank, no end of row -/
def Wd (z : Str) : Prop := z.cps.toList.all (fun c => decide (33 ≤ c) && decide (c ≤ 126)) = true
instance {z : Str} : Decidable (Wd z) := inferInstanceAs (Decidable (_ = true))
theorem Wd.at {z : Str} (h : Wd z) {c : Nat} (m : c ∈ z.cps.toList) : 33 ≤ c ∧ c ≤ 126 := by
  have := List.all_eq_true.mp h c m
  simpa using this
theorem wd_name {z : Str} (h : NmOk z) : Wd z := by
  refine List.all_eq_true.mpr fun c m => ?_
  have := h.all c m
  unfold isL isG at this
  simp
  omega
def dgB (z : Str) (n : Int) : Bool := decide (1 ≤ z.cps.size) && decide (z.cps.size ≤ 8) && (z.cps.toList.all fun c => decide (c ∈ (Str.ofString "0123456789").cps.toList)) && (match z.cps.toList[0]? with | some c => decide (z.cps.size ≤ 1) || decide (c ≠ 48) | none => false) && decide (PySem.intText? z = some n)
theorem dgB_ok {z : Str} {n : Int} (h : dgB z n = true) : W.DgOk z n := by
  unfold dgB at h
  simp only [Bool.and_eq_true, decide_eq_true_eq, List.all_eq_true] at h
  obtain ⟨⟨⟨⟨h1, h2⟩, h3⟩, h4⟩, h5⟩ := h
  refine ⟨h1, h2, h3, ?_, h5⟩
  split at h4
  · rename_i c hc
    refine ⟨c, hc, ?_⟩
    simpa using h4
  · cases h4
theorem num_all : ((List.range 13).all fun n => dgB (num (n : Int)) (n : Int) && decide (Wd (num (n : Int)))) = true := by
  decide +kernel
theorem num_ok {n : Int} (h0 : 0 ≤ n) (h : n ≤ 12) : W.DgOk (num n) n ∧ Wd (num n) := by
  obtain ⟨m, rfl⟩ := Int.eq_ofNat_of_zero_le h0
  have := List.all_eq_true.mp num_all m (List.mem_range.mpr (by omega))
  rw [Bool.and_eq_true] at this
  exact ⟨dgB_ok this.1, of_decide_eq_true this.2⟩
theorem joinL_mem {s : List Nat} : ∀ {ps : List (List Nat)} {c : Nat}, c ∈ TL.joinL s ps → c ∈ s ∨ ∃ p ∈ ps, c ∈ p
  | [], c, h => by cases h
  | [p], c, h => .inr ⟨p, List.mem_singleton.mpr rfl, h⟩
  | p :: q :: r, c, h => by
    have h' : c ∈ p ++ (s ++ TL.joinL s (q :: r)) := h
    rcases List.mem_append.mp h' with h | h
    · exact .inr ⟨p, List.mem_cons_self, h⟩
    · rcases List.mem_append.mp h with h | h
      · exact .inl h
      · rcases joinL_mem h with h | ⟨u, hu, hc⟩
        · exact .inl h
        · exact .inr ⟨u, List.mem_cons_of_mem _ hu, hc⟩
theorem tl_sp : TL.tl (" " : Str) = [32] := by decide +kernel
theorem tl_nl : TL.tl ("\n" : Str) = [10] := by decide +kernel
theorem split_words {ws : List Str} (hne : ws ≠ []) (h : ∀ z ∈ ws, Wd z) : Txt.split (joinS ws) " " = ws :=
  TL.split_join tl_sp (by decide +kernel) hne fun p hp m => by
    have := (h p hp).at m
    omega
theorem row_chars {ws : List Str} (h : ∀ z ∈ ws, Wd z) {c : Nat} (m : c ∈ TL.tl (joinS ws)) : 32 ≤ c ∧ c ≤ 126 := by
  unfold joinS at m
  rw [TL.join_eq, TL.tl_join, tl_sp] at m
  rcases joinL_mem m with h1 | ⟨u, hu, hc⟩
  · simp at h1
    omega
  · obtain ⟨z, hz, rfl⟩ := List.mem_map.mp hu
    have := (h z hz).at hc
    omega
theorem rows_wd {p : Pt} (o : Ok p) : ∀ ws ∈ rowsW p, ws ≠ [] ∧ ∀ z ∈ ws, Wd z := by
  intro ws hw
  unfold rowsW at hw
  rcases List.mem_cons.mp hw with e | hw
  · subst e
    refine ⟨by simp [rowDW], fun z hz => ?_⟩
    rcases List.mem_cons.mp hz with e | hz
    · subst e
      unfold Wd
      decide +kernel
    · obtain ⟨x, hx, rfl⟩ := List.mem_map.mp hz
      have := o.dr x hx
      exact (num_ok (by omega) (by omega)).2
  · rcases List.mem_append.mp hw with hw | hw
    · obtain ⟨c, hc, rfl⟩ := List.mem_map.mp hw
      refine ⟨by simp [rowCW], fun z hz => ?_⟩
      have hct := o.ct c hc
      rcases List.mem_cons.mp hz with e | hz
      · subst e
        unfold Wd
        decide +kernel
      · rcases List.mem_cons.mp hz with e | hz
        · subst e
          exact wd_name (o.cv _ (List.mem_map.mpr ⟨c, hc, rfl⟩))
        · rw [List.mem_singleton] at hz
          subst hz
          exact (num_ok hct.1 hct.2).2
    · obtain ⟨h, hh, rfl⟩ := List.mem_map.mp hw
      refine ⟨by simp [rowHW], fun z hz => ?_⟩
      have hht := o.hs h hh
      rcases List.mem_cons.mp hz with e | hz
      · subst e
        unfold Wd
        decide +kernel
      · rcases List.mem_cons.mp hz with e | hz
        · subst e
          exact (num_ok hht.1 (by omega)).2
        · have hn := (o.hn h hh).2
          rw [hn] at hz
          exact wd_name (o.cv _ (List.mem_filter.mp hz).1)
theorem split_sheet {p : Pt} (o : Ok p) : Txt.split (sheet p) "\n" = rowsS p :=
  TL.split_join tl_nl (by decide +kernel) (by simp [rowsS, rowsW]) fun z hz m => by
    obtain ⟨ws, hw, rfl⟩ := List.mem_map.mp hz
    have := row_chars (rows_wd o ws hw).2 m
    omega
/-- the words of the rows that begin with a word -/
def wordsOf (rows : List Str) (head : Str) : List (List Str) := (rows.takeWhile fun r => decide ((Txt.split r " ").head? = some head)).map fun r => (Txt.split r " ").tail
theorem words_row {p : Pt} (o : Ok p) {ws : List Str} (h : ws ∈ rowsW p) : Txt.split (joinS ws) " " = ws := split_words (rows_wd o ws h).1 (rows_wd o ws h).2
theorem takeWhile_map_app {α β : Type} {f : α → β} {pr : β → Bool} {xs ys : List α} (h1 : ∀ x ∈ xs, pr (f x) = true) (h2 : ∀ y ∈ ys, pr (f y) = false) : ((xs ++ ys).map f).takeWhile pr = xs.map f := by
  induction xs with
  | nil =>
    cases ys with
    | nil => rfl
    | cons y ys =>
      rw [List.nil_append, List.map_cons, List.takeWhile_cons, h2 y List.mem_cons_self]
      rfl
  | cons x xs ih =>
    rw [List.cons_append, List.map_cons, List.takeWhile_cons, h1 x List.mem_cons_self, ih fun z hz => h1 z (List.mem_cons_of_mem _ hz)]
    rfl
theorem wordsOf_gen {p : Pt} (o : Ok p) {xs ys : List (List Str)} (hx : ∀ ws ∈ xs, ws ∈ rowsW p) (hy : ∀ ws ∈ ys, ws ∈ rowsW p) {head : Str} (h1 : ∀ ws ∈ xs, ws.head? = some head) (h2 : ∀ ws ∈ ys, ws.head? ≠ some head) :
    wordsOf ((xs ++ ys).map joinS) head = xs.map List.tail := by
  unfold wordsOf
  rw [takeWhile_map_app (fun ws hw => by rw [words_row o (hx ws hw)]; exact decide_eq_true (h1 ws hw)) (fun ws hw => by rw [words_row o (hy ws hw)]; exact decide_eq_false (h2 ws hw)), List.map_map]
  refine List.map_congr_left fun ws hw => ?_
  show (Txt.split (joinS ws) " ").tail = ws.tail
  rw [words_row o (hx ws hw)]
theorem ne_pd : ("party" : Str) ≠ "pile" := by decide +kernel
theorem words_d {p : Pt} (o : Ok p) : wordsOf ((rowsS p).take 1) "divisors" = [p.dv.map num] := by
  have e : (rowsS p).take 1 = (([rowDW p] ++ []).map joinS) := by simp [rowsS, rowsW]
  rw [e, wordsOf_gen o (by simp [rowsW]) (by simp) (by simp [rowDW]) (by simp)]
  rfl
theorem words_c {p : Pt} (o : Ok p) : wordsOf ((rowsS p).drop 1) "party" = p.cl.map fun c => [c.1, num c.2] := by
  have e : (rowsS p).drop 1 = ((p.cl.map rowCW ++ p.hp.map rowHW).map joinS) := by simp [rowsS, rowsW]
  rw [e, wordsOf_gen o (fun ws h => List.mem_cons_of_mem _ (List.mem_append_left _ h)) (fun ws h => List.mem_cons_of_mem _ (List.mem_append_right _ h)) ?_ ?_, List.map_map]
  · rfl
  · intro ws h
    obtain ⟨c, _, rfl⟩ := List.mem_map.mp h
    rfl
  · intro ws h
    obtain ⟨c, _, rfl⟩ := List.mem_map.mp h
    intro q
    exact ne_pd (Option.some.inj q).symm
theorem words_h {p : Pt} (o : Ok p) : wordsOf ((rowsS p).drop (1 + p.cl.length)) "pile" = p.hp.map fun h => num h.1 :: h.2 := by
  have e : (rowsS p).drop (1 + p.cl.length) = ((p.hp.map rowHW ++ []).map joinS) := by
    unfold rowsS rowsW
    rw [Nat.add_comm, List.map_cons, List.drop_succ_cons, List.append_nil, List.map_append, List.drop_append_of_le_length (by simp), List.drop_of_length_le (by simp), List.nil_append]
  rw [e, wordsOf_gen o (fun ws h => List.mem_cons_of_mem _ (List.mem_append_right _ h)) (by simp) ?_ (by simp), List.map_map]
  · rfl
  · intro ws h
    obtain ⟨c, _, rfl⟩ := List.mem_map.mp h
    rfl
end M
/-! W4: the checks, the sheet read -/
namespace W
open PySem PySem.Spec PyProof.Rows L2 DL M

def ltP : PyData → Bool
  | .tuple [.int a, .int b] => decide (a < b)
  | _ => false
theorem dv_in {p : Pt} (o : Ok p) {d : PyData} (h : d ∈ p.dv.map PyData.int) : ∃ x : Int, d = .int x ∧ 1 ≤ x ∧ x ≤ 9 := by
  obtain ⟨x, hx, rfl⟩ := List.mem_map.mp h
  have := o.dr x hx
  exact ⟨x, rfl, this.1, this.2⟩
theorem dv_all {p : Pt} (o : Ok p) : (p.dv.map PyData.int).all (inB 1 100) = true := by
  refine List.all_eq_true.mpr fun d h => ?_
  obtain ⟨x, rfl, h1, h2⟩ := dv_in o h
  simp [inB]
  omega
theorem asc_all : ∀ {xs : List Int}, xs.Pairwise (· < ·) → (zipD (xs.map PyData.int) ((xs.map PyData.int).drop 1)).all ltP = true
  | [], _ => rfl
  | [x], _ => rfl
  | x :: y :: r, h => by
    have h2 := asc_all (List.pairwise_cons.mp h).2
    have h1 := (List.pairwise_cons.mp h).1 y List.mem_cons_self
    show (decide (x < y) && _) = true
    rw [decide_eq_true h1, Bool.true_and]
    exact h2
theorem zip_ints {xs ys : List Int} {d : PyData} (h : d ∈ zipD (xs.map PyData.int) (ys.map PyData.int)) : ∃ x y : Int, d = .tuple [.int x, .int y] := by
  rw [zipD_map] at h
  obtain ⟨q, _, rfl⟩ := List.mem_map.mp h
  exact ⟨q.1, q.2, rfl⟩
theorem cut1 (xs : List PyData) : cutD xs (some 1) none = xs.drop 1 := cut_from xs 1
theorem sc29 : FnScope ["value", "each", "one", "other"] ["value"] (defScope (topS 29)) := ⟨rfl, rfl, rfl, by decide +kernel, rfl, by decide +kernel, by decide +kernel⟩
abbrev T_are_divisors (S : Sys) : Prop := Kn S.P S.w S.K S.mg S.base 3 "are_divisors" ["value"] (spF S.K S.C (α := Pt) (fun p => [dvD p]) (fun p => Ok p) (fun _ => .bool true))
theorem w_are_divisors {S : Sys} (A : At S.K S.mg "are_divisors" (topS 29)) (B : Bt S.mg) (g : Gv S.K S.mg) (k_is_integer : T_is_integer S) : T_are_divisors S := by
  refine kn_F A sc29 (fun _ _ => rfl) (b1 fun _ _ _ _ _ _ _ => rfl) fun f cdv A outer s H E a hr hp => ?_
  refine ss_if ?_
  refine et_cut false ?_ ?_
  ·
    refine et_w ?_
    refine ew_or ?_
    refine et_not ?_
    refine et_v ?_
    refine ef_isTup B ?_
    refine ef_i 0 rfl ?_
    refine ⟨_, rfl, (by first | rfl | assumption | decide | omega | exact (nomatch hk)), ?_⟩
    refine ⟨_, rfl, ?_⟩
    refine ⟨fun hk => ?_, fun hk => ?_⟩
    · exact ⟨(nomatch hk), rfl⟩
    refine ew_one_or ?_
    refine et_not ?_
    refine et_cut true ?_ ?_
    ·
      refine et_ch ?_
      refine ef_int ?_
      refine ⟨_, rfl, ?_⟩
      refine ef_len B ?_
      refine ef_i 0 rfl ?_
      refine ⟨_, (by first | exact .inr rfl | exact .inl rfl | exact ⟨_, rfl, rfl⟩), ?_⟩
      refine ⟨_, rfl, fun hn => ?_, fun hle => ?_⟩
      · exact ⟨absurd (show (1 : Int) ≤ (((a.dv.map PyData.int).length : Nat) : Int) by have := hp.d1; simp; omega) hn, rfl⟩
      refine ef_gi g.MOST_SEATS ?_
      exact ⟨_, rfl, decide_eq_true (show (((a.dv.map PyData.int).length : Nat) : Int) ≤ 12 by have := hp.d3; simp; omega), rfl⟩
    exact ⟨(by first | rfl | assumption | decide | omega | exact (nomatch hk)), rfl⟩
  refine ⟨fun hk => ?_, fun hk => ?_⟩
  ·
    refine ss_retD ?_
    refine ef_bl ?_
    refine ⟨_, rfl, ?_⟩
    exact (nomatch hk)
  refine ss_nil ?_
  refine ss_if ?_
  refine et_not ?_
  refine et_v ?_
  refine ef_allF B ?_
  refine ef_lcM (ts := [1]) [("each", 1)] (fun d => .bool (inB 1 100 d)) (show blkC ["value", "each", "one", "other"] (defScope (topS 29)) _ [("each", 1)] = true from by decide +kernel) sc29.nd ?_
  refine ei_t ?_
  refine ef_i 0 rfl ?_
  refine ⟨_, rfl, ?_⟩
  refine ⟨rfl, (by have := hp.d3; simp; omega), by decide, fun d hd s H0 Cc cl fp => ?_, ?_⟩
  ·
    refine sg_n 1 rfl ?_ sc29.nd
    refine ⟨rfl, fun s H0 Cc cl fp => ?_⟩
    refine ef_cF k_is_integer (hr.mono (by omega)) ?_
    refine ea_d ?_
    refine ef_i 1 rfl ?_
    refine ⟨_, rfl, ?_⟩
    refine ea_d ?_
    refine ef_int ?_
    refine ⟨_, rfl, ?_⟩
    refine ea_d ?_
    refine ef_gi g.MOST_DIVISOR ?_
    refine ⟨_, rfl, ?_⟩
    refine ea_nil ?_
    obtain ⟨x, rfl, _, _⟩ := dv_in hp hd
    refine ⟨(.int x, 1, 100), rfl, rfl, ?_⟩
    exact ⟨rfl, rfl⟩
  refine ⟨_, _, rfl, ?_⟩
  refine ⟨_, rfl, ?_⟩
  refine ⟨fun hk => ?_, fun hk => ?_⟩
  ·
    refine ss_retD ?_
    refine ef_bl ?_
    refine ⟨_, rfl, ?_⟩
    exact (by rw [dv_all hp] at hk; cases hk)
  refine ss_nil ?_
  refine ss_retD ?_
  refine ef_allF B ?_
  refine ef_lcM (ts := ([2] ++ ([3] ++ []))) [("one", 2), ("other", 3)] (fun d => .bool (ltP d)) (show blkC ["value", "each", "one", "other"] (defScope (topS 29)) _ [("one", 2), ("other", 3)] = true from by decide +kernel) sc29.nd ?_
  refine ei_zip true true B ?_
  refine ef_i 0 rfl ?_
  refine ⟨_, rfl, ?_⟩
  refine ef_slT ?_
  refine ef_i 0 rfl ?_
  refine ⟨_, rfl, ?_⟩
  refine eo_some ?_
  refine ef_int ?_
  refine ⟨_, rfl, ?_⟩
  refine eo_none ?_
  refine ⟨_, rfl, ?_⟩
  refine ⟨_, rfl, ?_⟩
  refine ⟨rfl, (by have := hp.d3; simp [zipD_len]; omega), by decide, fun d hd s H0 Cc cl fp => ?_, ?_⟩
  ·
    rw [cut1, ← List.map_drop] at hd
    obtain ⟨x, y, rfl⟩ := zip_ints hd
    refine sg_t ?_
    refine sr_cons ?_
    refine sg_n 2 rfl ?_ sc29.nd
    refine sr_cons ?_
    refine sg_n 3 rfl ?_ sc29.nd
    refine sr_nil ?_
    refine ⟨rfl, fun s H0 Cc cl fp => ?_⟩
    refine ef_c ?_
    refine ec_lt ?_
    refine ef_i 2 rfl ?_
    refine ⟨_, rfl, ?_⟩
    refine ef_i 3 rfl ?_
    refine ⟨_, _, rfl, rfl, ?_⟩
    exact ⟨rfl, rfl⟩
  refine ⟨_, _, rfl, ?_⟩
  refine ⟨_, rfl, ?_⟩
  exact (by rw [cut1, asc_all hp.da])
theorem sc30 : FnScope ["value"] ["value"] (defScope (topS 30)) := ⟨rfl, rfl, rfl, by decide +kernel, rfl, by decide +kernel, by decide +kernel⟩
abbrev T_check_divisors (S : Sys) : Prop := Kn S.P S.w S.K S.mg S.base 4 "check_divisors" ["value"] (spF S.K S.C (α := Pt) (fun p => [dvD p]) (fun p => Ok p) (fun _ => .none))
theorem w_check_divisors {S : Sys} (A : At S.K S.mg "check_divisors" (topS 30)) (B : Bt S.mg) (g : Gv S.K S.mg) (k_are_divisors : T_are_divisors S) : T_check_divisors S := by
  refine kn_F A sc30 (fun _ _ => rfl) (b1 fun _ _ _ _ _ _ _ => rfl) fun f cdv A outer s H E a hr hp => ?_
  refine ss_if ?_
  refine et_not ?_
  refine et_v ?_
  refine ef_cF k_are_divisors (hr.mono (by omega)) ?_
  refine ea_d ?_
  refine ef_i 0 rfl ?_
  refine ⟨_, rfl, ?_⟩
  refine ea_nil ?_
  refine ⟨a, rfl, hp, ?_⟩
  refine ⟨_, rfl, ?_⟩
  refine ⟨fun hk => ?_, fun hk => ?_⟩
  ·
    exact absurd hk (by first | rfl | assumption | decide | omega | exact (nomatch hk))
  refine ss_nil ?_
  exact ss_nil (by first | rfl | assumption | decide | omega | exact (nomatch hk))
theorem nm_at {p : Pt} {i : Nat} {c : Str × Int} (h : p.cl[i]? = some c) : p.names[i]? = some c.1 := by
  unfold Pt.names
  rw [List.getElem?_map, h]
  rfl
theorem nm_new {p : Pt} (o : Ok p) {i : Nat} {c : Str × Int} (h : p.cl[i]? = some c) : c.1 ∉ p.names.take i := by
  intro m
  obtain ⟨j, hj, e⟩ := List.mem_iff_getElem.mp m
  have h1 := nm_at h
  have hi : i < p.names.length := (List.getElem?_eq_some_iff.mp h1).1
  have hj2 : j < i := by
    rw [List.length_take] at hj
    omega
  have h2 : p.names[i] = c.1 := (List.getElem?_eq_some_iff.mp h1).2
  rw [List.getElem_take] at e
  exact List.pairwise_iff_getElem.mp o.cn j i (by omega) hi hj2 (e.trans h2.symm)
theorem nm_succ {p : Pt} {i : Nat} {c : Str × Int} (h : p.cl[i]? = some c) : (p.names.take (i + 1)).map PyData.str = (p.names.take i).map PyData.str ++ [.str c.1] := by
  rw [List.take_add_one, nm_at h, List.map_append]
  rfl
theorem cl_at {p : Pt} {i : Nat} {d : PyData} (h : (enumD (p.cl.map ptyD))[i]? = some d) : ∃ c, p.cl[i]? = some c ∧ d = .tuple [.int (i : Int), .tuple [.str c.1, .int c.2]] := by
  obtain ⟨e, h1, rfl⟩ := enumD_inv h
  rw [List.getElem?_map] at h1
  obtain ⟨c, hc, rfl⟩ := Option.map_eq_some_iff.mp h1
  exact ⟨c, hc, rfl⟩
theorem sc31 : FnScope ["value", "names", "index", "party"] ["value"] (defScope (topS 31)) := ⟨rfl, rfl, rfl, by decide +kernel, rfl, by decide +kernel, by decide +kernel⟩
abbrev T_check_parties (S : Sys) : Prop := Kn S.P S.w S.K S.mg S.base 3 "check_parties" ["value"] (spF S.K S.C (α := Pt) (fun p => [clD p]) (fun p => Ok p) (fun _ => .none))
theorem w_check_parties {S : Sys} (A : At S.K S.mg "check_parties" (topS 31)) (B : Bt S.mg) (g : Gv S.K S.mg) (k_is_tuple_of : T_is_tuple_of S) (k_is_name : T_is_name S) (k_is_integer : T_is_integer S) : T_check_parties S := by
  refine kn_F A sc31 (fun _ _ => rfl) (b1 fun _ _ _ _ _ _ _ => rfl) fun f cdv A outer s H E a hr hp => ?_
  refine ss_if ?_
  refine et_cut false ?_ ?_
  ·
    refine et_w ?_
    refine ew_or ?_
    refine et_not ?_
    refine et_v ?_
    refine ef_isTup B ?_
    refine ef_i 0 rfl ?_
    refine ⟨_, rfl, (by first | rfl | assumption | decide | omega | exact (nomatch hk)), ?_⟩
    refine ⟨_, rfl, ?_⟩
    refine ⟨fun hk => ?_, fun hk => ?_⟩
    · exact ⟨(nomatch hk), rfl⟩
    refine ew_one_or ?_
    refine et_c ?_
    refine ec_eqI ?_
    refine ef_len B ?_
    refine ef_i 0 rfl ?_
    refine ⟨_, (by first | exact .inr rfl | exact .inl rfl | exact ⟨_, rfl, rfl⟩), ?_⟩
    refine ⟨_, rfl, ?_⟩
    refine ef_int ?_
    refine ⟨_, _, rfl, rfl, ?_⟩
    refine ⟨_, rfl, ?_⟩
    exact ⟨(by have := hp.c1; exact (decide_eq_false (show ¬ (((a.cl.map ptyD).length : Nat) : Int) = 0 by simp; intro h; rw [h] at this; simp at this))), rfl⟩
  refine ⟨fun hk => ?_, fun hk => ?_⟩
  ·
    exact absurd hk (by first | rfl | assumption | decide | omega | exact (nomatch hk))
  refine ss_nil ?_
  refine ss_own 1 ?_ rfl sc31.nd
  refine ea_nil ?_
  refine ⟨[], rfl, by decide, rfl, ?_⟩
  refine ss_for (ts := ([2] ++ ([3] ++ []))) ?_
  refine ei_enum B ?_
  refine ef_i 0 rfl ?_
  refine ⟨_, rfl, ?_⟩
  refine ⟨(fun i G' => G' = [.imm (clD a), .own ((a.names.take i).map .str), .un, .un]), rfl, fun i d G1 hd hP => ?_, fun G1 hP => ?_⟩
  ·
    have hP2 : G1 = [.imm (clD a), .own ((a.names.take i).map .str), .un, .un] := hP
    clear hP
    subst hP2
    obtain ⟨c, hc, rfl⟩ := cl_at hd
    have hct := hp.ct c (List.mem_of_getElem? hc)
    have hil : i < a.cl.length := (List.getElem?_eq_some_iff.mp hc).1
    refine sg_t ?_
    refine sr_cons ?_
    refine sg_n 2 rfl ?_ sc31.nd
    refine sr_cons ?_
    refine sg_n 3 rfl ?_ sc31.nd
    refine sr_nil ?_
    refine ss_if ?_
    refine et_cut false ?_ ?_
    ·
      refine et_w ?_
      refine ew_or ?_
      refine et_c ?_
      refine ec_eqI ?_
      refine ef_i 2 rfl ?_
      refine ⟨_, rfl, ?_⟩
      refine ef_gi g.MOST_PARTIES ?_
      refine ⟨_, _, rfl, rfl, ?_⟩
      refine ⟨_, rfl, ?_⟩
      refine ⟨fun hk => ?_, fun hk => ?_⟩
      · exact ⟨(by have := hp.c3; have h2 := of_decide_eq_true hk; omega), rfl⟩
      refine ew_or ?_
      refine et_not ?_
      refine et_v ?_
      refine ef_cF k_is_tuple_of (hr.mono (by omega)) ?_
      refine ea_d ?_
      refine ef_i 3 rfl ?_
      refine ⟨_, rfl, ?_⟩
      refine ea_d ?_
      refine ef_int ?_
      refine ⟨_, rfl, ?_⟩
      refine ea_nil ?_
      refine ⟨(.tuple [.str c.1, .int c.2], 2), rfl, (by first | rfl | assumption | decide | omega | exact (nomatch hk)), ?_⟩
      refine ⟨_, rfl, ?_⟩
      refine ⟨fun hk => ?_, fun hk => ?_⟩
      · exact ⟨(nomatch hk), rfl⟩
      refine ew_or ?_
      refine et_not ?_
      refine et_v ?_
      refine ef_cF k_is_name (hr.mono (by omega)) ?_
      refine ea_d ?_
      refine ef_ixT ?_
      refine ef_i 3 rfl ?_
      refine ⟨_, rfl, ?_⟩
      refine ef_int ?_
      refine ⟨_, _, _, rfl, rfl, (atI_of (i := 0) rfl), ?_⟩
      refine ⟨_, rfl, ?_⟩
      refine ea_nil ?_
      refine ⟨c.1, rfl, hp.cv _ (List.mem_of_getElem? (nm_at hc)), ?_⟩
      refine ⟨_, rfl, ?_⟩
      refine ⟨fun hk => ?_, fun hk => ?_⟩
      · exact ⟨(nomatch hk), rfl⟩
      refine ew_one_or ?_
      refine et_c ?_
      refine ec_in ?_
      refine ef_ixT ?_
      refine ef_i 3 rfl ?_
      refine ⟨_, rfl, ?_⟩
      refine ef_int ?_
      refine ⟨_, _, _, rfl, rfl, (atI_of (i := 0) rfl), ?_⟩
      refine ⟨_, rfl, ?_⟩
      refine ef_o 1 rfl rfl ?_
      refine ⟨_, _, rfl, ⟨_, rfl, rfl⟩, ?_⟩
      refine ⟨_, rfl, ?_⟩
      exact ⟨decide_eq_false (nm_new hp hc), rfl⟩
    refine ⟨fun hk => ?_, fun hk => ?_⟩
    ·
      exact absurd hk (by first | rfl | assumption | decide | omega | exact (nomatch hk))
    refine ss_nil ?_
    refine ss_if ?_
    refine et_not ?_
    refine et_v ?_
    refine ef_cF k_is_integer (hr.mono (by omega)) ?_
    refine ea_d ?_
    refine ef_ixT ?_
    refine ef_i 3 rfl ?_
    refine ⟨_, rfl, ?_⟩
    refine ef_int ?_
    refine ⟨_, _, _, rfl, rfl, (atI_of (i := 1) rfl), ?_⟩
    refine ⟨_, rfl, ?_⟩
    refine ea_d ?_
    refine ef_int ?_
    refine ⟨_, rfl, ?_⟩
    refine ea_d ?_
    refine ef_gi g.MOST_COUNT ?_
    refine ⟨_, rfl, ?_⟩
    refine ea_nil ?_
    refine ⟨(.int c.2, 0, 1000000), rfl, (by first | rfl | assumption | decide | omega | exact (nomatch hk)), ?_⟩
    refine ⟨_, rfl, ?_⟩
    refine ⟨fun hk => ?_, fun hk => ?_⟩
    ·
      exact absurd hk (by rw [show inB 0 1000000 (.int c.2) = true by simp [inB]; omega]; decide)
    refine ss_nil ?_
    refine ss_expr ?_
    refine ef_append 1 rfl rfl ?_
    refine ef_ixT ?_
    refine ef_i 3 rfl ?_
    refine ⟨_, rfl, ?_⟩
    refine ef_int ?_
    refine ⟨_, _, _, rfl, rfl, (atI_of (i := 0) rfl), ?_⟩
    refine ⟨_, _, rfl, rfl, _, rfl, (by simp; have := hp.c3; omega), ?_⟩
    refine ss_fgt [2, 3] rfl (ss_nil ?_)
    exact (show (_ : Ga) = [.imm (clD a), .own ((a.names.take (i + 1)).map .str), .un, .un] by rw [nm_succ hc]; rfl)
  exact ss_nil (by first | rfl | assumption | decide | omega | exact (nomatch hk))
theorem nm_strOk {z : Str} (h : NmOk z) : PyData.strOk z = true := strOk_of fun c hc => by
  have := h.all c hc
  unfold isL isG at this
  omega
theorem pil_strOk {p : Pt} (o : Ok p) {h : Int × List Str} (hh : h ∈ p.hp) : ∀ z ∈ h.2, PyData.strOk z = true := fun z hz => by
  rw [(o.hn h hh).2] at hz
  exact nm_strOk (o.cv _ (List.mem_filter.mp hz).1)
theorem pil_len {p : Pt} (o : Ok p) {h : Int × List Str} (hh : h ∈ p.hp) : h.2.length ≤ 3 := by
  have h1 := congrArg List.length (o.hn h hh).2
  have h2 := List.length_filter_le (fun z => decide (z ∈ h.2)) p.names
  have h3 : p.names.length = p.cl.length := by simp [Pt.names]
  have := o.c3
  omega
def inS (ss : List Str) : PyData → Bool
  | .str z => decide (z ∈ ss)
  | _ => false
theorem filt_eq (ns : List Str) (ss : List Str) : (((ns.map PyData.str).filter (inS ss)).map fun d => d) = (ns.filter fun z => decide (z ∈ ss)).map PyData.str := by
  rw [List.map_id', List.filter_map]
  rfl
theorem sc32 : FnScope ["value", "names", "name"] ["value", "names"] (defScope (topS 32)) := ⟨rfl, rfl, rfl, by decide +kernel, rfl, by decide +kernel, by decide +kernel⟩
abbrev T_is_pile (S : Sys) : Prop := Kn S.P S.w S.K S.mg S.base 3 "is_pile" ["value", "names"] (spF S.K S.C (α := Pt × Int × List Str) (fun q => [pilD q.2, .list (q.1.names.map .str)]) (fun q => Ok q.1 ∧ q.2 ∈ q.1.hp) (fun _ => .bool true))
theorem w_is_pile {S : Sys} (A : At S.K S.mg "is_pile" (topS 32)) (B : Bt S.mg) (g : Gv S.K S.mg) (k_is_tuple_of : T_is_tuple_of S) (k_is_integer : T_is_integer S) : T_is_pile S := by
  refine kn_F A sc32 (fun _ _ => rfl) (b2 fun _ _ _ _ _ _ _ _ => rfl) fun f cdv A outer s H E a hr hp => ?_
  obtain ⟨p, h⟩ := a
  obtain ⟨o, hh⟩ := hp
  have hs := o.hs h hh
  have hne := (o.hn h hh).1
  refine ss_if ?_
  refine et_cut false ?_ ?_
  ·
    refine et_w ?_
    refine ew_or ?_
    refine et_not ?_
    refine et_v ?_
    refine ef_cF k_is_tuple_of (hr.mono (by omega)) ?_
    refine ea_d ?_
    refine ef_i 0 rfl ?_
    refine ⟨_, rfl, ?_⟩
    refine ea_d ?_
    refine ef_int ?_
    refine ⟨_, rfl, ?_⟩
    refine ea_nil ?_
    refine ⟨(pilD h, 2), rfl, (by first | rfl | assumption | decide | omega | exact (nomatch hk)), ?_⟩
    refine ⟨_, rfl, ?_⟩
    refine ⟨fun hk => ?_, fun hk => ?_⟩
    · exact ⟨(nomatch hk), rfl⟩
    refine ew_one_or ?_
    refine et_not ?_
    refine et_v ?_
    refine ef_cF k_is_integer (hr.mono (by omega)) ?_
    refine ea_d ?_
    refine ef_ixT ?_
    refine ef_i 0 rfl ?_
    refine ⟨_, rfl, ?_⟩
    refine ef_int ?_
    refine ⟨_, _, _, rfl, rfl, (atI_of (i := 0) rfl), ?_⟩
    refine ⟨_, rfl, ?_⟩
    refine ea_d ?_
    refine ef_int ?_
    refine ⟨_, rfl, ?_⟩
    refine ea_d ?_
    refine ef_gi g.MOST_COUNT ?_
    refine ⟨_, rfl, ?_⟩
    refine ea_nil ?_
    refine ⟨(.int h.1, 0, 1000000), rfl, (by first | rfl | assumption | decide | omega | exact (nomatch hk)), ?_⟩
    refine ⟨_, rfl, ?_⟩
    exact ⟨(by rw [show inB 0 1000000 (.int h.1) = true by simp [inB]; omega]; rfl), rfl⟩
  refine ⟨fun hk => ?_, fun hk => ?_⟩
  ·
    refine ss_retD ?_
    refine ef_bl ?_
    refine ⟨_, rfl, ?_⟩
    exact (nomatch hk)
  refine ss_nil ?_
  refine ss_if ?_
  refine et_cut false ?_ ?_
  ·
    refine et_w ?_
    refine ew_or ?_
    refine et_not ?_
    refine et_v ?_
    refine ef_isTup B ?_
    refine ef_ixT ?_
    refine ef_i 0 rfl ?_
    refine ⟨_, rfl, ?_⟩
    refine ef_int ?_
    refine ⟨_, _, _, rfl, rfl, (atI_of (i := 1) rfl), ?_⟩
    refine ⟨_, rfl, (by first | rfl | assumption | decide | omega | exact (nomatch hk)), ?_⟩
    refine ⟨_, rfl, ?_⟩
    refine ⟨fun hk => ?_, fun hk => ?_⟩
    · exact ⟨(nomatch hk), rfl⟩
    refine ew_or ?_
    refine et_c ?_
    refine ec_eqI ?_
    refine ef_len B ?_
    refine ef_ixT ?_
    refine ef_i 0 rfl ?_
    refine ⟨_, rfl, ?_⟩
    refine ef_int ?_
    refine ⟨_, _, _, rfl, rfl, (atI_of (i := 1) rfl), ?_⟩
    refine ⟨_, (by first | exact .inr rfl | exact .inl rfl | exact ⟨_, rfl, rfl⟩), ?_⟩
    refine ⟨_, rfl, ?_⟩
    refine ef_int ?_
    refine ⟨_, _, rfl, rfl, ?_⟩
    refine ⟨_, rfl, ?_⟩
    refine ⟨fun hk => ?_, fun hk => ?_⟩
    · exact ⟨absurd (of_decide_eq_true hk) (by simp; exact hne), rfl⟩
    refine ew_one_or ?_
    refine et_not ?_
    refine et_v ?_
    refine ef_allF B ?_
    refine ef_lcM (ts := [2]) [("name", 2)] (fun _ => .bool true) (show blkC ["value", "names", "name"] (defScope (topS 32)) _ [("name", 2)] = true from by decide +kernel) sc32.nd ?_
    refine ei_t ?_
    refine ef_ixT ?_
    refine ef_i 0 rfl ?_
    refine ⟨_, rfl, ?_⟩
    refine ef_int ?_
    refine ⟨_, _, _, rfl, rfl, (atI_of (i := 1) rfl), ?_⟩
    refine ⟨_, rfl, ?_⟩
    refine ⟨rfl, (by have h3 : h.2.length ≤ 3 := pil_len o hh; show (h.2.map PyData.str).length ≤ 100000; simp; omega), by decide, fun d hd s H0 Cc cl fp => ?_, ?_⟩
    ·
      refine sg_n 2 rfl ?_ sc32.nd
      refine ⟨rfl, fun s H0 Cc cl fp => ?_⟩
      refine ef_isStr B ?_
      refine ef_i 2 rfl ?_
      obtain ⟨z, _, rfl⟩ := List.mem_map.mp hd
      refine ⟨_, rfl, rfl, ?_⟩
      exact ⟨rfl, rfl⟩
    refine ⟨_, _, rfl, ?_⟩
    refine ⟨_, rfl, ?_⟩
    exact ⟨(by simp), rfl⟩
  refine ⟨fun hk => ?_, fun hk => ?_⟩
  ·
    refine ss_retD ?_
    refine ef_bl ?_
    refine ⟨_, rfl, ?_⟩
    exact (nomatch hk)
  refine ss_nil ?_
  refine ss_retD ?_
  refine ef_c ?_
  refine ec_eqD hr ?_
  refine ef_ixT ?_
  refine ef_i 0 rfl ?_
  refine ⟨_, rfl, ?_⟩
  refine ef_int ?_
  refine ⟨_, _, _, rfl, rfl, (atI_of (i := 1) rfl), ?_⟩
  refine ⟨trivial, ?_⟩
  refine ef_tuple B ?_
  refine ef_lcP (ts := [2]) [("name", 2)] (fun d => d) (inS h.2) (show blkC ["value", "names", "name"] (defScope (topS 32)) _ [("name", 2)] = true from by decide +kernel) sc32.nd ?_
  refine ei_l ?_
  refine ef_i 1 rfl ?_
  refine ⟨_, rfl, ?_⟩
  refine ⟨rfl, (by have h3 : p.cl.length ≤ 3 := o.c3; show (p.names.map PyData.str).length ≤ 100000; unfold Pt.names; simp; omega), by decide, fun d hd s H0 Cc cl fp => ?_, ?_⟩
  ·
    refine sg_n 2 rfl ?_ sc32.nd
    obtain ⟨z, hz, rfl⟩ := List.mem_map.mp hd
    intro s H0 Cc cl fp
    refine et_c ?_
    refine ec_in ?_
    refine ef_i 2 rfl ?_
    refine ⟨_, rfl, ?_⟩
    refine ef_ixT ?_
    refine ef_i 0 rfl ?_
    refine ⟨_, rfl, ?_⟩
    refine ef_int ?_
    refine ⟨_, _, _, rfl, rfl, (atI_of (i := 1) rfl), ?_⟩
    refine ⟨_, _, rfl, .inr rfl, ?_⟩
    refine ⟨_, rfl, ?_⟩
    refine ⟨rfl, rfl, rfl, fun hk s H0 Cc cl fp => ?_⟩
    refine ef_i 2 rfl ?_
    exact ⟨rfl, rfl⟩
  refine ⟨_, rfl, ?_⟩
  refine ⟨_, _, rfl, rfl, cmp_strsT (pil_strOk o hh), (by rw [filt_eq]; exact cmp_strsT fun z hz => nm_strOk (o.cv _ (List.mem_filter.mp hz).1)), ?_⟩
  refine ⟨_, rfl, ?_⟩
  exact (by rw [filt_eq, eqv_tupS, decide_eq_true (o.hn h hh).2])
theorem hp_at {p : Pt} {i : Nat} {d : PyData} (h : (enumD (p.hp.map pilD))[i]? = some d) : ∃ c, p.hp[i]? = some c ∧ d = .tuple [.int (i : Int), pilD c] := by
  obtain ⟨e, h1, rfl⟩ := enumD_inv h
  rw [List.getElem?_map] at h1
  obtain ⟨c, hc, rfl⟩ := Option.map_eq_some_iff.mp h1
  exact ⟨c, hc, rfl⟩
theorem sc33 : FnScope ["names", "value", "index", "pile"] ["names", "value"] (defScope (topS 33)) := ⟨rfl, rfl, rfl, by decide +kernel, rfl, by decide +kernel, by decide +kernel⟩
abbrev T_check_piles (S : Sys) : Prop := Kn S.P S.w S.K S.mg S.base 4 "check_piles" ["names", "value"] (spF S.K S.C (α := Pt) (fun p => [.list (p.names.map .str), hpD p]) (fun p => Ok p) (fun _ => .none))
theorem w_check_piles {S : Sys} (A : At S.K S.mg "check_piles" (topS 33)) (B : Bt S.mg) (g : Gv S.K S.mg) (k_is_pile : T_is_pile S) : T_check_piles S := by
  refine kn_F A sc33 (fun _ _ => rfl) (b2 fun _ _ _ _ _ _ _ _ => rfl) fun f cdv A outer s H E a hr hp => ?_
  refine ss_if ?_
  refine et_not ?_
  refine et_v ?_
  refine ef_isTup B ?_
  refine ef_i 1 rfl ?_
  refine ⟨_, rfl, rfl, ?_⟩
  refine ⟨_, rfl, ?_⟩
  refine ⟨fun hk => ?_, fun hk => ?_⟩
  ·
    exact absurd hk (nomatch hk)
  refine ss_nil ?_
  refine ss_for (ts := ([2] ++ ([3] ++ []))) ?_
  refine ei_enum B ?_
  refine ef_i 1 rfl ?_
  refine ⟨_, rfl, ?_⟩
  refine ⟨(fun i G' => G' = [.imm (.list (a.names.map .str)), .imm (hpD a), .un, .un]), rfl, fun i d G1 hd hP => ?_, fun G1 hP => ?_⟩
  ·
    have hP2 : G1 = [.imm (.list (a.names.map .str)), .imm (hpD a), .un, .un] := hP
    clear hP
    subst hP2
    obtain ⟨h, hh, rfl⟩ := hp_at hd
    have hil : i < a.hp.length := (List.getElem?_eq_some_iff.mp hh).1
    refine sg_t ?_
    refine sr_cons ?_
    refine sg_n 2 rfl ?_ sc33.nd
    refine sr_cons ?_
    refine sg_n 3 rfl ?_ sc33.nd
    refine sr_nil ?_
    refine ss_if ?_
    refine et_cut false ?_ ?_
    ·
      refine et_w ?_
      refine ew_or ?_
      refine et_c ?_
      refine ec_eqI ?_
      refine ef_i 2 rfl ?_
      refine ⟨_, rfl, ?_⟩
      refine ef_gi g.MOST_PILES ?_
      refine ⟨_, _, rfl, rfl, ?_⟩
      refine ⟨_, rfl, ?_⟩
      refine ⟨fun hk => ?_, fun hk => ?_⟩
      · exact ⟨(by have := hp.h2; have h2 := of_decide_eq_true hk; omega), rfl⟩
      refine ew_one_or ?_
      refine et_not ?_
      refine et_v ?_
      refine ef_cF k_is_pile (hr.mono (by omega)) ?_
      refine ea_d ?_
      refine ef_i 3 rfl ?_
      refine ⟨_, rfl, ?_⟩
      refine ea_d ?_
      refine ef_i 0 rfl ?_
      refine ⟨_, rfl, ?_⟩
      refine ea_nil ?_
      refine ⟨(a, h), rfl, ⟨hp, List.mem_of_getElem? hh⟩, ?_⟩
      refine ⟨_, rfl, ?_⟩
      exact ⟨(by first | rfl | assumption | decide | omega | exact (nomatch hk)), rfl⟩
    refine ⟨fun hk => ?_, fun hk => ?_⟩
    ·
      exact absurd hk (by first | rfl | assumption | decide | omega | exact (nomatch hk))
    refine ss_nil ?_
    refine ss_fgt [2, 3] rfl (ss_nil ?_)
    exact (by first | rfl | assumption | decide | omega | exact (nomatch hk))
  exact ss_nil (by first | rfl | assumption | decide | omega | exact (nomatch hk))
end W
/-! W5: the sheet read -/
namespace W
open PySem PySem.Spec PyProof.Rows L2 DL M

def rowT (r : Str) : PyData := .list ((Txt.split r " ").tail.map .str)
def wordsD (ws : List (List Str)) : PyData := .list (ws.map fun w => .list (w.map .str))
theorem split_cons (r : Str) : ∃ w ws, Txt.split r " " = w :: ws := by
  have h := split_pos r " "
  match e : Txt.split r " ", h with
  | [], h => simp [e] at h
  | w :: ws, _ => exact ⟨w, ws, rfl⟩
theorem tw_stop {α : Type} {pr : α → Bool} : ∀ {xs : List α} {i : Nat} {r : α}, (∀ x ∈ xs.take i, pr x = true) → xs[i]? = some r → pr r = false → xs.takeWhile pr = xs.take i
  | x :: xs, 0, r, _, hr, hn => by
    cases hr
    rw [List.takeWhile_cons, hn]
    rfl
  | x :: xs, i + 1, r, h, hr, hn => by
    rw [List.takeWhile_cons, h x (by simp), List.take_succ_cons, tw_stop (i := i) (fun y hy => h y (by rw [List.take_succ_cons]; exact List.mem_cons_of_mem _ hy)) (by simpa using hr) hn]
    rfl
theorem tw_all {α : Type} {pr : α → Bool} : ∀ {xs : List α}, (∀ x ∈ xs, pr x = true) → xs.takeWhile pr = xs
  | [], _ => rfl
  | x :: xs, h => by
    rw [List.takeWhile_cons, h x (by simp), tw_all fun y hy => h y (by simp [hy])]
    rfl
theorem words_eq (rows : List Str) (head : Str) : wordsD (M.wordsOf rows head) = .list ((rows.takeWhile fun r => decide ((Txt.split r " ").head? = some head)).map rowT) := by
  unfold wordsD M.wordsOf
  rw [List.map_map]
  rfl
structure RowsOk (q : List Str × Str) : Prop where
  n : q.1.length ≤ 3000
  l : ∀ r ∈ q.1, r.length ≤ 100000
theorem sc34 : FnScope ["rows", "head", "found", "row", "words"] ["rows", "head"] (defScope (topS 34)) := ⟨rfl, rfl, rfl, by decide +kernel, rfl, by decide +kernel, by decide +kernel⟩
abbrev T_words_of (S : Sys) : Prop := Kn S.P S.w S.K S.mg S.base 1 "words_of" ["rows", "head"] (spF S.K S.C (α := List Str × Str) (fun q => [.list (q.1.map .str), .str q.2]) (fun q => RowsOk q) (fun q => wordsD (M.wordsOf q.1 q.2)))
theorem w_words_of {S : Sys} (A : At S.K S.mg "words_of" (topS 34)) (B : Bt S.mg) (g : Gv S.K S.mg)  : T_words_of S := by
  refine kn_F A sc34 (fun _ _ => rfl) (b2 fun _ _ _ _ _ _ _ _ => rfl) fun f cdv A outer s H E a hr hp => ?_
  refine ss_own 2 ?_ rfl sc34.nd
  refine ea_nil ?_
  refine ⟨[], rfl, by decide, rfl, ?_⟩
  refine ss_for (ts := [3]) ?_
  refine ei_l ?_
  refine ef_i 0 rfl ?_
  refine ⟨_, rfl, ?_⟩
  refine ⟨(fun i G' => G' = [.imm (.list (a.1.map .str)), .imm (.str a.2), .own ((a.1.take i).map rowT), .un, .un] ∧ ∀ r ∈ a.1.take i, decide ((Txt.split r " ").head? = some a.2) = true), ⟨rfl, by simp⟩, fun i d G1 hd hP => ?_, fun G1 hP => ?_⟩
  ·
    obtain ⟨hP2, hP3⟩ := hP
    subst hP2
    rw [List.getElem?_map] at hd
    obtain ⟨r, hr, rfl⟩ := Option.map_eq_some_iff.mp hd
    obtain ⟨w0, ws, he⟩ := split_cons r
    refine sg_n 3 rfl ?_ sc34.nd
    refine ss_set 4 ?_ rfl sc34.nd
    refine ef_split ?_
    refine ef_i 3 rfl ?_
    refine ⟨_, rfl, ?_⟩
    refine ef_str ?_
    refine ⟨_, rfl, rfl, Nat.le_trans (Nat.add_le_add_right (hp.l r (List.mem_of_getElem? hr)) 2) (by decide), ?_⟩
    rw [he]
    refine ⟨_, rfl, rfl, ?_⟩
    refine ss_if ?_
    refine et_c ?_
    refine ec_neS ?_
    refine ef_ixL ?_
    refine ef_i 4 rfl ?_
    refine ⟨_, rfl, ?_⟩
    refine ef_int ?_
    refine ⟨_, _, _, rfl, rfl, (atI_of (i := 0) rfl), ?_⟩
    refine ⟨_, rfl, ?_⟩
    refine ef_i 1 rfl ?_
    refine ⟨_, _, rfl, rfl, ?_⟩
    refine ⟨_, rfl, ?_⟩
    refine ⟨fun hk => ?_, fun hk => ?_⟩
    ·
      refine ss_ret ?_
      refine ef_o 2 rfl rfl ?_
      refine .inr ⟨2, _, rfl, rfl, ?_⟩
      exact (by rw [words_eq, tw_stop hP3 hr (by rw [he]; simp at hk; simp [hk])])
    refine ss_nil ?_
    refine ss_expr ?_
    refine ef_append 2 rfl rfl ?_
    refine ef_slL ?_
    refine ef_i 4 rfl ?_
    refine ⟨_, rfl, ?_⟩
    refine eo_some ?_
    refine ef_int ?_
    refine ⟨_, rfl, ?_⟩
    refine eo_none ?_
    refine ⟨_, rfl, ?_⟩
    refine ⟨_, _, rfl, rfl, _, rfl, (by have := hp.n; simp; omega), ?_⟩
    refine ss_fgt [3, 4] rfl (ss_nil ?_)
    exact ⟨(show (_ : Ga) = [.imm (.list (a.1.map .str)), .imm (.str a.2), .own ((a.1.take (i + 1)).map rowT), .un, .un] by rw [List.take_add_one, hr, List.map_append]; show _ = _; simp only [Option.toList, List.map_cons, List.map_nil, rowT, he]; rw [cut1]; rfl), fun r2 h2 => by rw [List.take_add_one, hr] at h2; exact (List.mem_append.mp h2).elim (hP3 r2) fun h2 => by (simp at h2; subst h2; rw [he]; simp at hk; simp [hk])⟩
  obtain ⟨hP2, hP3⟩ := hP
  rw [List.length_map, List.take_length] at hP2 hP3
  subst hP2
  refine ss_ret ?_
  refine ef_o 2 rfl rfl ?_
  refine .inr ⟨2, _, rfl, rfl, ?_⟩
  exact (by rw [words_eq, tw_all hP3])
end W
/-! W6: the parts of a sheet -/
namespace W
open PySem PySem.Spec PyProof.Rows L2 DL M

theorem join_len {sep : Str} {ws : List Str} {k : Nat} (h : ∀ z ∈ ws, z.length ≤ k) : (Txt.join sep ws).length ≤ ws.length * k + ws.length * sep.length := by
  rw [TL.join_eq]
  refine Nat.le_trans (StrLaws.join_length_le sep ws) (Nat.add_le_add_right ?_ _)
  induction ws with
  | nil => simp
  | cons z ws ih =>
    rw [List.map_cons, List.sum_cons, List.length_cons, Nat.succ_mul]
    have h1 := h z List.mem_cons_self
    have h2 := ih fun y hy => h y (List.mem_cons_of_mem _ hy)
    omega
theorem rows_len {p : Pt} (o : Ok p) : ∀ ws ∈ rowsW p, ws.length ≤ 5 ∧ ∀ z ∈ ws, z.length ≤ 8 := by
  intro ws hw
  unfold rowsW at hw
  rcases List.mem_cons.mp hw with e | hw
  · subst e
    refine ⟨by simp [rowDW]; have := o.d3; omega, fun z hz => ?_⟩
    rcases List.mem_cons.mp hz with e | hz
    · subst e
      decide +kernel
    · obtain ⟨x, hx, rfl⟩ := List.mem_map.mp hz
      have := o.dr x hx
      exact (num_ok (by omega) (by omega)).1.hi
  · rcases List.mem_append.mp hw with hw | hw
    · obtain ⟨c, hc, rfl⟩ := List.mem_map.mp hw
      refine ⟨by simp [rowCW], fun z hz => ?_⟩
      have hct := o.ct c hc
      rcases List.mem_cons.mp hz with e | hz
      · subst e
        decide +kernel
      · rcases List.mem_cons.mp hz with e | hz
        · subst e
          exact (o.cv _ (List.mem_map.mpr ⟨c, hc, rfl⟩)).hi
        · rw [List.mem_singleton] at hz
          subst hz
          exact (num_ok hct.1 hct.2).1.hi
    · obtain ⟨h, hh, rfl⟩ := List.mem_map.mp hw
      refine ⟨by simp [rowHW]; have := pil_len o hh; omega, fun z hz => ?_⟩
      have hht := o.hs h hh
      rcases List.mem_cons.mp hz with e | hz
      · subst e
        decide +kernel
      · rcases List.mem_cons.mp hz with e | hz
        · subst e
          exact (num_ok hht.1 (by omega)).1.hi
        · have hn := (o.hn h hh).2
          rw [hn] at hz
          exact (o.cv _ (List.mem_filter.mp hz).1).hi
theorem row_len {p : Pt} (o : Ok p) : ∀ r ∈ rowsS p, r.length ≤ 45 := by
  intro r hr
  obtain ⟨ws, hw, rfl⟩ := List.mem_map.mp hr
  obtain ⟨h1, h2⟩ := rows_len o ws hw
  have h3 := join_len (sep := " ") h2
  have h4 : (" " : Str).length = 1 := by decide +kernel
  rw [h4] at h3
  show (Txt.join " " ws).length ≤ 45
  omega
theorem rowsS_n {p : Pt} (o : Ok p) : (rowsS p).length ≤ 6 := by
  have h1 := o.c3
  have h2 := o.h2
  simp [rowsS, rowsW]
  omega
theorem sheet_len {p : Pt} (o : Ok p) : (sheet p).length ≤ 300 := by
  have h3 := join_len (sep := "\n") (row_len o)
  have h4 : ("\n" : Str).length = 1 := by decide +kernel
  have h5 := rowsS_n o
  rw [h4] at h3
  show (Txt.join "\n" (rowsS p)).length ≤ 300
  omega
theorem rowsOk {p : Pt} (o : Ok p) {rs : List Str} (h : ∀ r ∈ rs, r ∈ rowsS p) (hl : rs.length ≤ (rowsS p).length) (z : Str) : RowsOk (rs, z) :=
  ⟨by have := rowsS_n o; show rs.length ≤ 3000; omega, fun r hr => Nat.le_trans (row_len o r (h r hr)) (by decide)⟩
theorem cutS_to (ss : List Str) : cutD (ss.map PyData.str) none (some 1) = (ss.take 1).map .str := by
  rw [show (some (1 : Int)) = some ((1 : Nat) : Int) from rfl, cut_to, List.map_take]
theorem cutS_from {i : Int} {k : Nat} (ss : List Str) (h : i = (k : Int)) : cutD (ss.map PyData.str) (some i) none = (ss.drop k).map .str := by
  rw [h, cut_from, List.map_drop]
theorem cutS_from1 (ss : List Str) : cutD (ss.map PyData.str) (some 1) none = (ss.drop 1).map .str := cutS_from (k := 1) ss rfl
def unN : PyData → Int
  | .str z => (PySem.intText? z).getD 0
  | _ => 0
theorem unN_num {n : Int} (h0 : 0 ≤ n) (h : n ≤ 12) : unN (.str (num n)) = n := by
  show (PySem.intText? (num n)).getD 0 = n
  rw [(num_ok h0 h).1.it]
  rfl
def unC : PyData → PyData
  | .list [a, b] => .tuple [a, .int (unN b)]
  | _ => .none
def unH : PyData → PyData
  | .list (a :: r) => .tuple [.int (unN a), .tuple r]
  | _ => .none
theorem fin_d {p : Pt} (o : Ok p) : PyData.tuple ((((p.dv.map num).map PyData.str)).map fun d => .int (unN d)) = dvD p := by
  unfold dvD
  rw [List.map_map, List.map_map]
  congr 1
  refine List.map_congr_left fun x hx => ?_
  have := o.dr x hx
  show PyData.int (unN (.str (num x))) = _
  rw [unN_num (by omega) (by omega)]
theorem fin_c {p : Pt} (o : Ok p) : PyData.tuple (((p.cl.map fun c => [c.1, num c.2]).map fun w => PyData.list (w.map .str)).map unC) = clD p := by
  unfold clD
  rw [List.map_map, List.map_map]
  congr 1
  refine List.map_congr_left fun c hc => ?_
  have := o.ct c hc
  show PyData.tuple [.str c.1, .int (unN (.str (num c.2)))] = _
  rw [unN_num this.1 this.2]
  rfl
theorem fin_h {p : Pt} (o : Ok p) : PyData.tuple (((p.hp.map fun h => num h.1 :: h.2).map fun w => PyData.list (w.map .str)).map unH) = hpD p := by
  unfold hpD
  rw [List.map_map, List.map_map]
  congr 1
  refine List.map_congr_left fun h hh => ?_
  have := o.hs h hh
  show PyData.tuple [.int (unN (.str (num h.1))), .tuple (h.2.map .str)] = _
  rw [unN_num this.1 (by omega)]
  rfl
theorem c_in {p : Pt} {d : PyData} (h : d ∈ (p.cl.map fun c => [c.1, num c.2]).map fun w => PyData.list (w.map .str)) : ∃ c ∈ p.cl, d = .list [.str c.1, .str (num c.2)] := by
  obtain ⟨w, hw, rfl⟩ := List.mem_map.mp h
  obtain ⟨c, hc, rfl⟩ := List.mem_map.mp hw
  exact ⟨c, hc, rfl⟩
theorem h_in {p : Pt} {d : PyData} (h : d ∈ (p.hp.map fun h => num h.1 :: h.2).map fun w => PyData.list (w.map .str)) : ∃ c ∈ p.hp, d = .list (.str (num c.1) :: c.2.map .str) := by
  obtain ⟨w, hw, rfl⟩ := List.mem_map.mp h
  obtain ⟨c, hc, rfl⟩ := List.mem_map.mp hw
  exact ⟨c, hc, rfl⟩
theorem sc35 : FnScope ["text", "rows", "heads", "parties", "piles", "words", "word"] ["text"] (defScope (topS 35)) := ⟨rfl, rfl, rfl, by decide +kernel, rfl, by decide +kernel, by decide +kernel⟩
abbrev T_parts_of (S : Sys) : Prop := Kn S.P S.w S.K S.mg S.base 2 "parts_of" ["text"] (spF S.K S.C (α := Pt) (fun p => [.str (sheet p)]) (fun p => Ok p) (fun p => .tuple [dvD p, clD p, hpD p]))
theorem w_parts_of {S : Sys} (A : At S.K S.mg "parts_of" (topS 35)) (B : Bt S.mg) (g : Gv S.K S.mg) (k_words_of : T_words_of S) (k_written : T_written S) : T_parts_of S := by
  refine kn_F A sc35 (fun _ _ => rfl) (b1 fun _ _ _ _ _ _ _ => rfl) fun f cdv A outer s H E a hr hp => ?_
  refine ss_set 1 ?_ rfl sc35.nd
  refine ef_split ?_
  refine ef_i 0 rfl ?_
  refine ⟨_, rfl, ?_⟩
  refine ef_str ?_
  refine ⟨_, rfl, rfl, Nat.le_trans (Nat.add_le_add_right (sheet_len hp) 2) (by decide), ?_⟩
  rw [split_sheet hp]
  refine ⟨_, rfl, rfl, ?_⟩
  refine ss_set 2 ?_ rfl sc35.nd
  refine ef_cF k_words_of (hr.mono (by omega)) ?_
  refine ea_d ?_
  refine ef_slL ?_
  refine ef_i 1 rfl ?_
  refine ⟨_, rfl, ?_⟩
  refine eo_none ?_
  refine eo_some ?_
  refine ef_int ?_
  refine ⟨_, rfl, ?_⟩
  refine ⟨_, rfl, ?_⟩
  refine ⟨_, rfl, ?_⟩
  refine ea_d ?_
  refine ef_str ?_
  refine ⟨_, rfl, ?_⟩
  refine ea_nil ?_
  refine ⟨((rowsS a).take 1, "divisors"), (by rw [cutS_to]; rfl), rowsOk hp (fun r h => List.mem_of_mem_take h) (by simp; omega) _, ?_⟩
  dsimp only
  rw [words_d hp]
  refine ⟨_, rfl, rfl, ?_⟩
  refine ss_set 3 ?_ rfl sc35.nd
  refine ef_cF k_words_of (hr.mono (by omega)) ?_
  refine ea_d ?_
  refine ef_slL ?_
  refine ef_i 1 rfl ?_
  refine ⟨_, rfl, ?_⟩
  refine eo_some ?_
  refine ef_int ?_
  refine ⟨_, rfl, ?_⟩
  refine eo_none ?_
  refine ⟨_, rfl, ?_⟩
  refine ⟨_, rfl, ?_⟩
  refine ea_d ?_
  refine ef_str ?_
  refine ⟨_, rfl, ?_⟩
  refine ea_nil ?_
  refine ⟨((rowsS a).drop 1, "party"), (by rw [cutS_from1]; rfl), rowsOk hp (fun r h => List.mem_of_mem_drop h) (by simp) _, ?_⟩
  dsimp only
  rw [words_c hp]
  refine ⟨_, rfl, rfl, ?_⟩
  refine ss_set 4 ?_ rfl sc35.nd
  refine ef_cF k_words_of (hr.mono (by omega)) ?_
  refine ea_d ?_
  refine ef_slL ?_
  refine ef_i 1 rfl ?_
  refine ⟨_, rfl, ?_⟩
  refine eo_some ?_
  refine ef_add ?_
  refine ef_int ?_
  refine ⟨_, rfl, ?_⟩
  refine ef_len B ?_
  refine ef_i 3 rfl ?_
  refine ⟨_, (by first | exact .inr rfl | exact .inl rfl | exact ⟨_, rfl, rfl⟩), ?_⟩
  refine ⟨_, _, rfl, rfl, ?_⟩
  refine ⟨_, rfl, ?_⟩
  refine eo_none ?_
  refine ⟨_, rfl, ?_⟩
  refine ⟨_, rfl, ?_⟩
  refine ea_d ?_
  refine ef_str ?_
  refine ⟨_, rfl, ?_⟩
  refine ea_nil ?_
  refine ⟨((rowsS a).drop (1 + a.cl.length), "pile"), (by rw [cutS_from (k := 1 + a.cl.length) _ (by simp)]; rfl), rowsOk hp (fun r h => List.mem_of_mem_drop h) (by simp) _, ?_⟩
  dsimp only
  rw [words_h hp]
  refine ⟨_, rfl, rfl, ?_⟩
  refine ss_if ?_
  refine et_cut false ?_ ?_
  ·
    refine et_w ?_
    refine ew_or ?_
    refine et_c ?_
    refine ec_neI ?_
    refine ef_len B ?_
    refine ef_i 2 rfl ?_
    refine ⟨_, (by first | exact .inr rfl | exact .inl rfl | exact ⟨_, rfl, rfl⟩), ?_⟩
    refine ⟨_, rfl, ?_⟩
    refine ef_int ?_
    refine ⟨_, _, rfl, rfl, ?_⟩
    refine ⟨_, rfl, ?_⟩
    refine ⟨fun hk => ?_, fun hk => ?_⟩
    · exact ⟨(by simp at hk), rfl⟩
    refine ew_one_or ?_
    refine et_c ?_
    refine ec_neI ?_
    refine ef_add ?_
    refine ef_add ?_
    refine ef_int ?_
    refine ⟨_, rfl, ?_⟩
    refine ef_len B ?_
    refine ef_i 3 rfl ?_
    refine ⟨_, (by first | exact .inr rfl | exact .inl rfl | exact ⟨_, rfl, rfl⟩), ?_⟩
    refine ⟨_, _, rfl, rfl, ?_⟩
    refine ⟨_, rfl, ?_⟩
    refine ef_len B ?_
    refine ef_i 4 rfl ?_
    refine ⟨_, (by first | exact .inr rfl | exact .inl rfl | exact ⟨_, rfl, rfl⟩), ?_⟩
    refine ⟨_, _, rfl, rfl, ?_⟩
    refine ⟨_, rfl, ?_⟩
    refine ef_len B ?_
    refine ef_i 1 rfl ?_
    refine ⟨_, (by first | exact .inr rfl | exact .inl rfl | exact ⟨_, rfl, rfl⟩), ?_⟩
    refine ⟨_, _, rfl, rfl, ?_⟩
    refine ⟨_, rfl, ?_⟩
    exact ⟨(by simp [rowsS, rowsW]; omega), rfl⟩
  refine ⟨fun hk => ?_, fun hk => ?_⟩
  ·
    refine ss_retD ?_
    refine ef_non ?_
    refine ⟨_, rfl, ?_⟩
    exact (nomatch hk)
  refine ss_nil ?_
  refine ss_if ?_
  refine et_cut false ?_ ?_
  ·
    refine et_w ?_
    refine ew_or ?_
    refine et_not ?_
    refine et_v ?_
    refine ef_allF B ?_
    refine ef_lcM (ts := [5]) [("words", 5)] (fun _ => .bool true) (show blkC ["text", "rows", "heads", "parties", "piles", "words", "word"] (defScope (topS 35)) _ [("words", 5)] = true from by decide +kernel) sc35.nd ?_
    refine ei_l ?_
    refine ef_i 3 rfl ?_
    refine ⟨_, rfl, ?_⟩
    refine ⟨rfl, (by have := hp.c3; simp; omega), by decide, fun d hd s H0 Cc cl fp => ?_, ?_⟩
    ·
      obtain ⟨c, hc, rfl⟩ := c_in hd
      have hct := hp.ct c hc
      refine sg_n 5 rfl ?_ sc35.nd
      refine ⟨rfl, fun s H0 Cc cl fp => ?_⟩
      refine ef_c ?_
      refine ec_eqI ?_
      refine ef_len B ?_
      refine ef_i 5 rfl ?_
      refine ⟨_, (by first | exact .inr rfl | exact .inl rfl | exact ⟨_, rfl, rfl⟩), ?_⟩
      refine ⟨_, rfl, ?_⟩
      refine ef_int ?_
      refine ⟨_, _, rfl, rfl, ?_⟩
      exact ⟨rfl, rfl⟩
    refine ⟨_, _, rfl, ?_⟩
    refine ⟨_, rfl, ?_⟩
    refine ⟨fun hk => ?_, fun hk => ?_⟩
    · exact ⟨(by simp at hk), rfl⟩
    refine ew_one_or ?_
    refine et_not ?_
    refine et_v ?_
    refine ef_allF B ?_
    refine ef_lcM (ts := [5]) [("words", 5)] (fun _ => .bool true) (show blkC ["text", "rows", "heads", "parties", "piles", "words", "word"] (defScope (topS 35)) _ [("words", 5)] = true from by decide +kernel) sc35.nd ?_
    refine ei_l ?_
    refine ef_i 4 rfl ?_
    refine ⟨_, rfl, ?_⟩
    refine ⟨rfl, (by have := hp.h2; simp; omega), by decide, fun d hd s H0 Cc cl fp => ?_, ?_⟩
    ·
      obtain ⟨h, hh, rfl⟩ := h_in hd
      have hht := hp.hs h hh
      refine sg_n 5 rfl ?_ sc35.nd
      refine ⟨rfl, fun s H0 Cc cl fp => ?_⟩
      refine ef_c ?_
      refine ec_gt' ?_
      refine ef_len B ?_
      refine ef_i 5 rfl ?_
      refine ⟨_, (by first | exact .inr rfl | exact .inl rfl | exact ⟨_, rfl, rfl⟩), ?_⟩
      refine ⟨_, rfl, ?_⟩
      refine ef_int ?_
      refine ⟨_, _, rfl, rfl, ?_⟩
      exact ⟨(by simp), rfl⟩
    refine ⟨_, _, rfl, ?_⟩
    refine ⟨_, rfl, ?_⟩
    exact ⟨(by simp), rfl⟩
  refine ⟨fun hk => ?_, fun hk => ?_⟩
  ·
    refine ss_retD ?_
    refine ef_non ?_
    refine ⟨_, rfl, ?_⟩
    exact (nomatch hk)
  refine ss_nil ?_
  refine ss_retD ?_
  refine ef_tup ?_
  refine ea_d ?_
  refine ef_tuple B ?_
  refine ef_lcM (ts := [6]) [("word", 6)] (fun d => .int (unN d)) (show blkC ["text", "rows", "heads", "parties", "piles", "words", "word"] (defScope (topS 35)) _ [("word", 6)] = true from by decide +kernel) sc35.nd ?_
  refine ei_l ?_
  refine ef_ixL ?_
  refine ef_i 2 rfl ?_
  refine ⟨_, rfl, ?_⟩
  refine ef_int ?_
  refine ⟨_, _, _, rfl, rfl, (atI_of (i := 0) rfl), ?_⟩
  refine ⟨_, rfl, ?_⟩
  refine ⟨rfl, (by have := hp.d3; simp; omega), by decide, fun d hd s H0 Cc cl fp => ?_, ?_⟩
  ·
    obtain ⟨z, hz, rfl⟩ := List.mem_map.mp hd
    obtain ⟨x, hx, rfl⟩ := List.mem_map.mp hz
    have hdr := hp.dr x hx
    refine sg_n 6 rfl ?_ sc35.nd
    refine ⟨rfl, fun s H0 Cc cl fp => ?_⟩
    refine ef_cF k_written (hr.mono (by omega)) ?_
    refine ea_d ?_
    refine ef_i 6 rfl ?_
    refine ⟨_, rfl, ?_⟩
    refine ea_nil ?_
    refine ⟨(num x, x), rfl, (num_ok (by omega) (by omega)).1, ?_⟩
    exact ⟨(by rw [unN_num (by omega) (by omega)]), rfl⟩
  refine ⟨_, rfl, ?_⟩
  refine ⟨_, rfl, ?_⟩
  refine ea_d ?_
  refine ef_tuple B ?_
  refine ef_lcM (ts := [5]) [("words", 5)] unC (show blkC ["text", "rows", "heads", "parties", "piles", "words", "word"] (defScope (topS 35)) _ [("words", 5)] = true from by decide +kernel) sc35.nd ?_
  refine ei_l ?_
  refine ef_i 3 rfl ?_
  refine ⟨_, rfl, ?_⟩
  refine ⟨rfl, (by have := hp.c3; simp; omega), by decide, fun d hd s H0 Cc cl fp => ?_, ?_⟩
  ·
    obtain ⟨c, hc, rfl⟩ := c_in hd
    have hct := hp.ct c hc
    refine sg_n 5 rfl ?_ sc35.nd
    refine ⟨rfl, fun s H0 Cc cl fp => ?_⟩
    refine ef_tup ?_
    refine ea_d ?_
    refine ef_ixL ?_
    refine ef_i 5 rfl ?_
    refine ⟨_, rfl, ?_⟩
    refine ef_int ?_
    refine ⟨_, _, _, rfl, rfl, (atI_of (i := 0) rfl), ?_⟩
    refine ⟨_, rfl, ?_⟩
    refine ea_d ?_
    refine ef_cF k_written (hr.mono (by omega)) ?_
    refine ea_d ?_
    refine ef_ixL ?_
    refine ef_i 5 rfl ?_
    refine ⟨_, rfl, ?_⟩
    refine ef_int ?_
    refine ⟨_, _, _, rfl, rfl, (atI_of (i := 1) rfl), ?_⟩
    refine ⟨_, rfl, ?_⟩
    refine ea_nil ?_
    refine ⟨(num c.2, c.2), rfl, (num_ok hct.1 hct.2).1, ?_⟩
    refine ⟨_, rfl, ?_⟩
    refine ea_nil ?_
    refine ⟨[_, _], rfl, show 2 ≤ sizeLine by decide, ?_⟩
    exact ⟨(by show _ = Vl.d (.tuple [.str c.1, .int (unN (.str (num c.2)))]); rw [unN_num hct.1 hct.2]), rfl⟩
  refine ⟨_, rfl, ?_⟩
  refine ⟨_, rfl, ?_⟩
  refine ea_d ?_
  refine ef_tuple B ?_
  refine ef_lcM (ts := [5]) [("words", 5)] unH (show blkC ["text", "rows", "heads", "parties", "piles", "words", "word"] (defScope (topS 35)) _ [("words", 5)] = true from by decide +kernel) sc35.nd ?_
  refine ei_l ?_
  refine ef_i 4 rfl ?_
  refine ⟨_, rfl, ?_⟩
  refine ⟨rfl, (by have := hp.h2; simp; omega), by decide, fun d hd s H0 Cc cl fp => ?_, ?_⟩
  ·
    obtain ⟨h, hh, rfl⟩ := h_in hd
    have hht := hp.hs h hh
    refine sg_n 5 rfl ?_ sc35.nd
    refine ⟨rfl, fun s H0 Cc cl fp => ?_⟩
    refine ef_tup ?_
    refine ea_d ?_
    refine ef_cF k_written (hr.mono (by omega)) ?_
    refine ea_d ?_
    refine ef_ixL ?_
    refine ef_i 5 rfl ?_
    refine ⟨_, rfl, ?_⟩
    refine ef_int ?_
    refine ⟨_, _, _, rfl, rfl, (atI_of (i := 0) rfl), ?_⟩
    refine ⟨_, rfl, ?_⟩
    refine ea_nil ?_
    refine ⟨(num h.1, h.1), rfl, (num_ok hht.1 (by omega)).1, ?_⟩
    refine ⟨_, rfl, ?_⟩
    refine ea_d ?_
    refine ef_tuple B ?_
    refine ef_slL ?_
    refine ef_i 5 rfl ?_
    refine ⟨_, rfl, ?_⟩
    refine eo_some ?_
    refine ef_int ?_
    refine ⟨_, rfl, ?_⟩
    refine eo_none ?_
    refine ⟨_, rfl, ?_⟩
    refine ⟨_, rfl, ?_⟩
    refine ⟨_, rfl, ?_⟩
    refine ea_nil ?_
    refine ⟨[_, _], rfl, show 2 ≤ sizeLine by decide, ?_⟩
    exact ⟨(by show _ = Vl.d (.tuple [.int (unN (.str (num h.1))), .tuple (h.2.map .str)]); rw [unN_num hht.1 (by omega), cut1]; rfl), rfl⟩
  refine ⟨_, rfl, ?_⟩
  refine ⟨_, rfl, ?_⟩
  refine ea_nil ?_
  refine ⟨[_, _, _], rfl, show 3 ≤ sizeLine by decide, ?_⟩
  refine ⟨_, rfl, ?_⟩
  exact (by rw [fin_d hp, fin_c hp, fin_h hp])
end W
/-! W7: needs, steps, piles, blocs -/
namespace W
open PySem PySem.Spec PyProof.Rows L2 DL M

abbrev P_divisors (S : Sys) : Prop := Pr S.P S.w S.K S.mg S.base S.C 1 "divisors" (fun p : Pt => [nig p]) (fun p => Ok p) dvD
abbrev P_parties (S : Sys) : Prop := Pr S.P S.w S.K S.mg S.base S.C 1 "parties" (fun p : Pt => [nig p]) (fun p => Ok p) clD
abbrev P_piles (S : Sys) : Prop := Pr S.P S.w S.K S.mg S.base S.C 1 "piles" (fun p : Pt => [nig p]) (fun p => Ok p) hpD
abbrev P_names (S : Sys) : Prop := Pr S.P S.w S.K S.mg S.base S.C 1 "names" (fun p : Pt => [nig p]) (fun p => Ok p) (fun p => .tuple (p.names.map .str))
abbrev P_seats (S : Sys) : Prop := Pr S.P S.w S.K S.mg S.base S.C 1 "seats" (fun p : Pt => [nig p]) (fun p => Ok p) (fun p => .int (p.dv.length : Int))
/-! lowest terms -/
theorem low_parts {t b : Int} (h : 0 < b) : ∃ g u v : Int, 0 < g ∧ 0 < v ∧ t = g * u ∧ b = g * v ∧ low t b = (u, v) := by
  have hg := gcd_pos (a := t) (b := b) h
  obtain ⟨u, hu⟩ := Int.gcd_dvd_left t b
  obtain ⟨v, hv⟩ := Int.gcd_dvd_right t b
  have e1 : t.fdiv (gcdI t b) = u := by
    conv => lhs; arg 1; rw [hu]
    exact Int.mul_fdiv_cancel_left _ (Int.ne_of_gt hg)
  have e2 : b.fdiv (gcdI t b) = v := by
    conv => lhs; arg 1; rw [hv]
    exact Int.mul_fdiv_cancel_left _ (Int.ne_of_gt hg)
  refine ⟨gcdI t b, u, v, hg, ?_, hu, hv, by unfold low; rw [e1, e2]⟩
  rcases Int.lt_or_le 0 v with q | q
  · exact q
  · have h2 := Int.mul_le_mul_of_nonneg_left q (Int.le_of_lt hg)
    rw [Int.mul_zero] at h2
    have h3 : b ≤ 0 := Int.le_trans (Int.le_of_eq hv) h2
    omega
theorem low_div {t b : Int} (h : 0 < b) : (0 - (low t b).1).fdiv (low t b).2 = (0 - t).fdiv b := by
  obtain ⟨g, u, v, hg, hv, rfl, rfl, e⟩ := low_parts (t := t) h
  rw [e]
  show (0 - u).fdiv v = (0 - g * u).fdiv (g * v)
  rw [show 0 - g * u = g * (0 - u) by rw [Int.mul_sub]; simp]
  exact (Int.mul_fdiv_mul_of_pos _ _ hg).symm
theorem low_lt {t b n : Int} (h : 0 < b) : decide ((low t b).1 * 1 < n * (low t b).2) = decide (t < n * b) := by
  obtain ⟨g, u, v, hg, hv, rfl, rfl, e⟩ := low_parts (t := t) h
  rw [e]
  show decide (u * 1 < n * v) = decide (g * u < n * (g * v))
  rw [Int.mul_one, show n * (g * v) = g * (n * v) by rw [← Int.mul_assoc, Int.mul_comm n g, Int.mul_assoc]]
  have : (u < n * v) ↔ (g * u < g * (n * v)) := ⟨fun h => Int.mul_lt_mul_of_pos_left h hg, fun h => Int.lt_of_mul_lt_mul_left h (Int.le_of_lt hg)⟩
  exact decide_eq_decide.mpr this
theorem low_snd {t b : Int} (h : 0 < b) : 0 < (low t b).2 ∧ (low t b).2 ≤ b := by
  obtain ⟨g, u, v, hg, hv, rfl, rfl, e⟩ := low_parts (t := t) h
  rw [e]
  refine ⟨hv, ?_⟩
  have := Int.mul_le_mul_of_nonneg_right (show 1 ≤ g by omega) (Int.le_of_lt hv)
  show v ≤ g * v
  omega
theorem atI_eq {α : Type} {xs : List α} {i : Int} {k : Nat} {d : α} (e : i = (k : Int)) (h : xs[k]? = some d) : atI xs i = some d := by
  rw [e]
  exact atI_of h
theorem dv_at {p : Pt} {m : Nat} (h : m < p.dv.length) : (p.dv.map PyData.int)[m]? = some (.int (p.dv.getD m 0)) := by
  rw [List.getElem?_map, List.getElem?_eq_getElem h, List.getD_eq_getElem?_getD, List.getElem?_eq_getElem h]
  rfl
theorem dv_r {p : Pt} (o : Ok p) {m : Nat} (h : m < p.dv.length) : 1 ≤ p.dv.getD m 0 ∧ p.dv.getD m 0 ≤ 9 := by
  rw [List.getD_eq_getElem?_getD, List.getElem?_eq_getElem h]
  exact o.dr _ (List.getElem_mem h)
structure NdOk (a : Pt × Int × Nat × Int × Int) : Prop where
  o : Ok a.1
  c0 : 0 ≤ a.2.1
  s : a.2.2.1 ≤ a.1.dv.length
  f : FrOk a.2.2.2
theorem times_ok {f : Int × Int} (h : FrOk f) {d : Int} (h1 : 1 ≤ d) (h9 : d ≤ 9) : TimesOk (f, d, 1) := by
  have hp0 := h.p0
  have hq1 := h.q1
  have hq9 := h.q9
  refine ⟨⟨Int.mul_nonneg hp0 (show 0 ≤ d by omega), ?_, ?_⟩, ⟨?_, ?_⟩, ⟨?_, ?_⟩⟩
  · show 1 ≤ f.2 * 1
    omega
  · show f.2 * 1 ≤ 1000000
    omega
  · show -(2 ^ 64) < d
    omega
  · show d < 2 ^ 64
    omega
  · show -(2 ^ 64) < (1 : Int)
    decide
  · show (1 : Int) < 2 ^ 64
    decide
theorem needI_0 (dv : List Int) (c : Int) (f : Int × Int) : needI dv c 0 f = c := rfl
theorem needI_s (dv : List Int) (c : Int) (m : Nat) (f : Int × Int) : needI dv c (m + 1) f = mx c (0 - (0 - f.1 * dv.getD m 0).fdiv f.2) := rfl
theorem needI_nn {dv : List Int} {c : Int} {s : Nat} {f : Int × Int} (h : 0 ≤ c) : 0 ≤ needI dv c s f := by
  cases s with
  | zero => exact h
  | succ m =>
    rw [needI_s]
    unfold mx
    split <;> omega
theorem step_none {dv : List Int} {c : Int} {s : Nat} {f : Int × Int} (h : s < dv.length) (hq : 0 < f.2) (hk : (!decide ((low (f.1 * dv.getD s 0) (f.2 * 1)).1 * 1 < needI dv c s f * (low (f.1 * dv.getD s 0) (f.2 * 1)).2)) = true) : M.stepI dv c s f = none := by
  rw [low_lt (by omega), Int.mul_one] at hk
  unfold M.stepI
  rw [if_neg (by omega), if_pos]
  simpa using hk
theorem step_some {dv : List Int} {c : Int} {s : Nat} {f : Int × Int} (h : s < dv.length) (hq : 0 < f.2) (hk : (!decide ((low (f.1 * dv.getD s 0) (f.2 * 1)).1 * 1 < needI dv c s f * (low (f.1 * dv.getD s 0) (f.2 * 1)).2)) = false) : M.stepI dv c s f = some (low (needI dv c s f) (dv.getD s 0)) := by
  rw [low_lt (by omega), Int.mul_one] at hk
  unfold M.stepI
  rw [if_neg (by omega), if_neg]
  simpa using hk
theorem sc45 : FnScope ["divisors", "count", "seats", "price", "top", "bottom"] ["divisors", "count", "seats", "price"] (defScope (topS 45)) := ⟨rfl, rfl, rfl, by decide +kernel, rfl, by decide +kernel, by decide +kernel⟩
abbrev T_need_of (S : Sys) : Prop := Kn S.P S.w S.K S.mg S.base 4 "need_of" ["divisors", "count", "seats", "price"] (spF S.K S.C (α := Pt × Int × Nat × Int × Int) (fun a => [dvD a.1, .int a.2.1, .int (a.2.2.1 : Int), frD a.2.2.2]) (fun a => NdOk a) (fun a => .int (needI a.1.dv a.2.1 a.2.2.1 a.2.2.2)))
theorem w_need_of {S : Sys} (A : At S.K S.mg "need_of" (topS 45)) (B : Bt S.mg) (g : Gv S.K S.mg) (k_times : T_times S) : T_need_of S := by
  refine kn_F A sc45 (fun _ _ => rfl) (b4 fun _ _ _ _ _ _ _ _ _ _ => rfl) fun f cdv A outer s H E a hr hp => ?_
  obtain ⟨p, count, s, f⟩ := a
  have o : Ok p := hp.o
  have hs : s ≤ p.dv.length := hp.s
  have hf : FrOk f := hp.f
  refine ss_if ?_
  refine et_c ?_
  refine ec_eqI ?_
  refine ef_i 2 rfl ?_
  refine ⟨_, rfl, ?_⟩
  refine ef_int ?_
  refine ⟨_, _, rfl, rfl, ?_⟩
  refine ⟨_, rfl, ?_⟩
  refine ⟨fun hk => ?_, fun hk => ?_⟩
  ·
    refine ss_retD ?_
    refine ef_i 1 rfl ?_
    refine ⟨_, rfl, ?_⟩
    have h1 : ((s : Nat) : Int) = 0 := of_decide_eq_true hk
    have h2 : s = 0 := by omega
    subst h2
    exact rfl
  refine ss_nil ?_
  refine ss_asg (ts := ([4] ++ ([5] ++ []))) ?_
  refine ef_cF k_times (hr.mono (by omega)) ?_
  refine ea_d ?_
  refine ef_i 3 rfl ?_
  refine ⟨_, rfl, ?_⟩
  refine ea_d ?_
  refine ef_tup ?_
  refine ea_d ?_
  refine ef_ixT ?_
  refine ef_i 0 rfl ?_
  refine ⟨_, rfl, ?_⟩
  refine ef_sub ?_
  refine ef_i 2 rfl ?_
  refine ⟨_, rfl, ?_⟩
  refine ef_int ?_
  refine ⟨_, _, rfl, rfl, ?_⟩
  obtain ⟨m, rfl⟩ : ∃ m, s = m + 1 := ⟨s - 1, by have h1 := of_decide_eq_false hk; have h2 : ¬ ((s : Nat) : Int) = 0 := h1; omega⟩
  have hm : m < p.dv.length := hs
  obtain ⟨hd1, hd9⟩ := dv_r o hm
  have hq1 := hf.q1
  have hq9 := hf.q9
  have hlow := low_snd (t := f.1 * p.dv.getD m 0) (b := f.2 * 1) (by omega)
  refine ⟨_, _, _, rfl, rfl, (atI_eq (k := m) (by show (((m + 1 : Nat) : Int) - 1) = (m : Int); omega) (dv_at hm)), ?_⟩
  refine ⟨_, rfl, ?_⟩
  refine ea_d ?_
  refine ef_int ?_
  refine ⟨_, rfl, ?_⟩
  refine ea_nil ?_
  refine ⟨[_, _], rfl, show 2 ≤ sizeLine by decide, ?_⟩
  refine ⟨_, rfl, ?_⟩
  refine ea_nil ?_
  refine ⟨(f, p.dv.getD m 0, 1), rfl, times_ok hf hd1 hd9, ?_⟩
  refine ⟨_, rfl, ?_⟩
  refine sg_t ?_
  refine sr_cons ?_
  refine sg_n 4 rfl ?_ sc45.nd
  refine sr_cons ?_
  refine sg_n 5 rfl ?_ sc45.nd
  refine sr_nil ?_
  refine ss_retD ?_
  refine ef_max2 B ?_
  refine ef_i 1 rfl ?_
  refine ⟨_, rfl, ?_⟩
  refine ef_sub ?_
  refine ef_int ?_
  refine ⟨_, rfl, ?_⟩
  refine ef_fdiv ?_
  refine ef_sub ?_
  refine ef_int ?_
  refine ⟨_, rfl, ?_⟩
  refine ef_i 4 rfl ?_
  refine ⟨_, _, rfl, rfl, ?_⟩
  refine ⟨_, rfl, ?_⟩
  refine ef_i 5 rfl ?_
  refine ⟨_, _, rfl, rfl, (show CDivN _ (low (f.1 * p.dv.getD m 0) (f.2 * 1)).2 from ⟨by omega, by omega⟩), ?_⟩
  refine ⟨_, _, rfl, rfl, ?_⟩
  refine ⟨_, _, rfl, rfl, ?_⟩
  refine ⟨_, rfl, ?_⟩
  exact (by show _ = PyData.int (needI p.dv count (m + 1) f); rw [needI_s, ← low_div (t := f.1 * p.dv.getD m 0) (b := f.2) (by omega)]; rw [Int.mul_one]; rfl)
theorem sc46 : FnScope ["divisors", "count", "seats", "price", "need"] ["divisors", "count", "seats", "price"] (defScope (topS 46)) := ⟨rfl, rfl, rfl, by decide +kernel, rfl, by decide +kernel, by decide +kernel⟩
abbrev T_step_of (S : Sys) : Prop := Kn S.P S.w S.K S.mg S.base 5 "step_of" ["divisors", "count", "seats", "price"] (spF S.K S.C (α := Pt × Int × Nat × Int × Int) (fun a => [dvD a.1, .int a.2.1, .int (a.2.2.1 : Int), frD a.2.2.2]) (fun a => NdOk a) (fun a => optD frD (M.stepI a.1.dv a.2.1 a.2.2.1 a.2.2.2)))
theorem w_step_of {S : Sys} (A : At S.K S.mg "step_of" (topS 46)) (B : Bt S.mg) (g : Gv S.K S.mg) (k_times : T_times S) (k_need_of : T_need_of S) (k_is_above : T_is_above S) (k_lowest : T_lowest S) : T_step_of S := by
  refine kn_F A sc46 (fun _ _ => rfl) (b4 fun _ _ _ _ _ _ _ _ _ _ => rfl) fun f cdv A outer s H E a hr hp => ?_
  obtain ⟨p, count, s, f⟩ := a
  have o : Ok p := hp.o
  have hs : s ≤ p.dv.length := hp.s
  have hf : FrOk f := hp.f
  have hc0 : 0 ≤ count := hp.c0
  refine ss_if ?_
  refine et_c ?_
  refine ec_eqI ?_
  refine ef_i 2 rfl ?_
  refine ⟨_, rfl, ?_⟩
  refine ef_len B ?_
  refine ef_i 0 rfl ?_
  refine ⟨_, (by first | exact .inr rfl | exact .inl rfl | exact ⟨_, rfl, rfl⟩), ?_⟩
  refine ⟨_, _, rfl, rfl, ?_⟩
  refine ⟨_, rfl, ?_⟩
  refine ⟨fun hk => ?_, fun hk => ?_⟩
  ·
    refine ss_retD ?_
    refine ef_non ?_
    refine ⟨_, rfl, ?_⟩
    have h1 : ((s : Nat) : Int) = (((p.dv.map PyData.int).length : Nat) : Int) := of_decide_eq_true hk
    rw [List.length_map] at h1
    have h2 : s = p.dv.length := by omega
    subst h2
    exact (by show _ = optD frD (M.stepI p.dv count p.dv.length f); unfold M.stepI; rw [if_pos rfl]; rfl)
  refine ss_nil ?_
  refine ss_set 4 ?_ rfl sc46.nd
  refine ef_cF k_need_of (hr.mono (by omega)) ?_
  refine ea_d ?_
  refine ef_i 0 rfl ?_
  refine ⟨_, rfl, ?_⟩
  refine ea_d ?_
  refine ef_i 1 rfl ?_
  refine ⟨_, rfl, ?_⟩
  refine ea_d ?_
  refine ef_i 2 rfl ?_
  refine ⟨_, rfl, ?_⟩
  refine ea_d ?_
  refine ef_i 3 rfl ?_
  refine ⟨_, rfl, ?_⟩
  refine ea_nil ?_
  have h1 : ¬ ((s : Nat) : Int) = (((p.dv.map PyData.int).length : Nat) : Int) := of_decide_eq_false hk
  rw [List.length_map] at h1
  have hsl : s < p.dv.length := by omega
  obtain ⟨hd1, hd9⟩ := dv_r o hsl
  have hq1 := hf.q1
  have hq9 := hf.q9
  have hlow := low_snd (t := f.1 * p.dv.getD s 0) (b := f.2 * 1) (by omega)
  have hnn := needI_nn (dv := p.dv) (s := s) (f := f) hc0
  refine ⟨(p, count, s, f), rfl, hp, ?_⟩
  refine ⟨_, rfl, rfl, ?_⟩
  refine ss_if ?_
  refine et_not ?_
  refine et_v ?_
  refine ef_cF k_is_above (hr.mono (by omega)) ?_
  refine ea_d ?_
  refine ef_tup ?_
  refine ea_d ?_
  refine ef_i 4 rfl ?_
  refine ⟨_, rfl, ?_⟩
  refine ea_d ?_
  refine ef_int ?_
  refine ⟨_, rfl, ?_⟩
  refine ea_nil ?_
  refine ⟨[_, _], rfl, show 2 ≤ sizeLine by decide, ?_⟩
  refine ⟨_, rfl, ?_⟩
  refine ea_d ?_
  refine ef_cF k_times (hr.mono (by omega)) ?_
  refine ea_d ?_
  refine ef_i 3 rfl ?_
  refine ⟨_, rfl, ?_⟩
  refine ea_d ?_
  refine ef_tup ?_
  refine ea_d ?_
  refine ef_ixT ?_
  refine ef_i 0 rfl ?_
  refine ⟨_, rfl, ?_⟩
  refine ef_i 2 rfl ?_
  refine ⟨_, _, _, rfl, rfl, (atI_of (dv_at hsl)), ?_⟩
  refine ⟨_, rfl, ?_⟩
  refine ea_d ?_
  refine ef_int ?_
  refine ⟨_, rfl, ?_⟩
  refine ea_nil ?_
  refine ⟨[_, _], rfl, show 2 ≤ sizeLine by decide, ?_⟩
  refine ⟨_, rfl, ?_⟩
  refine ea_nil ?_
  refine ⟨(f, p.dv.getD s 0, 1), rfl, times_ok hf hd1 hd9, ?_⟩
  refine ⟨_, rfl, ?_⟩
  refine ea_nil ?_
  refine ⟨((needI p.dv count s f, 1), low (f.1 * p.dv.getD s 0) (f.2 * 1)), rfl, ⟨by show -(2 ^ 64) < (low (f.1 * p.dv.getD s 0) (f.2 * 1)).2 ∧ (low (f.1 * p.dv.getD s 0) (f.2 * 1)).2 < 2 ^ 64; omega, by show -(2 ^ 64) < (1 : Int) ∧ (1 : Int) < 2 ^ 64; decide⟩, ?_⟩
  refine ⟨_, rfl, ?_⟩
  refine ⟨fun hk => ?_, fun hk => ?_⟩
  ·
    refine ss_retD ?_
    refine ef_non ?_
    refine ⟨_, rfl, ?_⟩
    exact (by rw [step_none hsl (by omega) hk]; rfl)
  refine ss_nil ?_
  refine ss_retD ?_
  refine ef_cF k_lowest (hr.mono (by omega)) ?_
  refine ea_d ?_
  refine ef_i 4 rfl ?_
  refine ⟨_, rfl, ?_⟩
  refine ea_d ?_
  refine ef_ixT ?_
  refine ef_i 0 rfl ?_
  refine ⟨_, rfl, ?_⟩
  refine ef_i 2 rfl ?_
  refine ⟨_, _, _, rfl, rfl, (atI_of (dv_at hsl)), ?_⟩
  refine ⟨_, rfl, ?_⟩
  refine ea_nil ?_
  refine ⟨(needI p.dv count s f, p.dv.getD s 0), rfl, ⟨hnn, hd1, by show p.dv.getD s 0 ≤ 1000000; omega⟩, ?_⟩
  refine ⟨_, rfl, ?_⟩
  exact (by rw [step_some hsl (by omega) hk]; rfl)
end W
/-! W8: tables, piles, blocs -/
namespace W
open PySem PySem.Spec PyProof.Rows L2 DL M

theorem mem_le_sum : ∀ {t : List Nat} {n : Nat}, n ∈ t → n ≤ t.sum
  | x :: xs, n, h => by
    rw [List.sum_cons]
    rcases List.mem_cons.mp h with e | h
    · omega
    · have := mem_le_sum h
      omega
def natD (n : Nat) : PyData := .int (n : Int)
theorem tabD_eq (t : List Nat) : tabD t = .tuple (t.map natD) := rfl
def ndF (p : Pt) (f : Int × Int) : PyData → Int
  | .tuple [.tuple [_, .int c], .int s] => needI p.dv c s.toNat f
  | _ => 0
def cnF : PyData → PyData
  | .tuple [_, b] => b
  | _ => .none
def subF : PyData → Int
  | .tuple [.int a, .int b] => a - b
  | _ => 0
structure TfOk (a : Pt × List Nat × Int × Int) : Prop where
  o : Ok a.1
  t : TabOk a.1 a.2.1
  f : FrOk a.2.2
theorem cl_in {p : Pt} (o : Ok p) {q : (Str × Int) × Nat} {t : List Nat} (h : q ∈ p.cl.zip t) : q.1 ∈ p.cl ∧ q.2 ∈ t := ⟨(List.of_mem_zip h).1, (List.of_mem_zip h).2⟩
theorem needs_fin (p : Pt) (t : List Nat) (f : Int × Int) : PyData.tuple ((zipD (p.cl.map ptyD) (t.map natD)).map fun d => .int (ndF p f d)) = .tuple ((needs p t f).map .int) := by
  rw [zipD_map, List.map_map]
  unfold needs
  rw [List.map_map]
  congr 1
theorem lacks_fin : ∀ (cl : List (Str × Int)) (t : List Nat) (g : (Str × Int) × Nat → Int), (zipD (((cl.zip t).map g).map PyData.int) ((cl.map Prod.snd).map .int)).map (fun d => PyData.int (subF d)) = ((cl.zip t).map fun q => g q - q.1.2).map .int
  | [], t, g => by rfl
  | c :: cl, [], g => by rfl
  | c :: cl, n :: t, g => by
    have ih := lacks_fin cl t g
    rw [zipD_map] at ih ⊢
    simp only [List.zip_cons_cons, List.map_cons] at ih ⊢
    rw [ih]
    rfl
theorem sc42 : FnScope ["night", "name", "count"] ["night"] (defScope (topS 42)) := ⟨rfl, rfl, rfl, by decide +kernel, rfl, by decide +kernel, by decide +kernel⟩
abbrev T_counts_of (S : Sys) : Prop := Kn S.P S.w S.K S.mg S.base 3 "counts_of" ["night"] (spF S.K S.C (α := Pt) (fun p => [nig p]) (fun p => Ok p) (fun p => .list (p.tl.map .int)))
theorem w_counts_of {S : Sys} (A : At S.K S.mg "counts_of" (topS 42)) (B : Bt S.mg) (g : Gv S.K S.mg) (N : Nc S.K S.C) (k_parties : P_parties S) : T_counts_of S := by
  refine kn_F A sc42 (fun _ _ => rfl) (b1 fun _ _ _ _ _ _ _ => rfl) fun f cdv A outer s H E a hr hp => ?_
  refine ss_retD ?_
  refine ef_lcM (ts := ([1] ++ ([2] ++ []))) [("name", 1), ("count", 2)] cnF (show blkC ["night", "name", "count"] (defScope (topS 42)) _ [("name", 1), ("count", 2)] = true from by decide +kernel) sc42.nd ?_
  refine ei_t ?_
  refine ef_prop N k_parties (hr.mono (by omega)) ?_
  refine ef_i 0 rfl ?_
  refine ⟨a, _, _, _, rfl, rfl, hp, ?_⟩
  refine ⟨_, rfl, ?_⟩
  refine ⟨rfl, (by have h3 := hp.c3; show (a.cl.map ptyD).length ≤ 100000; rw [List.length_map]; omega), by decide, fun d hd s H0 Cc cl fp => ?_, ?_⟩
  ·
    obtain ⟨c, hc, rfl⟩ := List.mem_map.mp hd
    unfold ptyD
    refine sg_t ?_
    refine sr_cons ?_
    refine sg_n 1 rfl ?_ sc42.nd
    refine sr_cons ?_
    refine sg_n 2 rfl ?_ sc42.nd
    refine sr_nil ?_
    refine ⟨rfl, fun s H0 Cc cl fp => ?_⟩
    refine ef_i 2 rfl ?_
    exact ⟨rfl, rfl⟩
  refine ⟨_, rfl, ?_⟩
  exact (by rw [List.map_map]; show _ = PyData.list ((a.cl.map Prod.snd).map .int); rw [List.map_map]; rfl)
theorem sc47 : FnScope ["night", "table", "price", "party", "seats"] ["night", "table", "price"] (defScope (topS 47)) := ⟨rfl, rfl, rfl, by decide +kernel, rfl, by decide +kernel, by decide +kernel⟩
abbrev T_needs_at (S : Sys) : Prop := Kn S.P S.w S.K S.mg S.base 5 "needs_at" ["night", "table", "price"] (spF S.K S.C (α := Pt × List Nat × Int × Int) (fun a => [nig a.1, tabD a.2.1, frD a.2.2]) (fun a => TfOk a) (fun a => .tuple ((needs a.1 a.2.1 a.2.2).map .int)))
theorem w_needs_at {S : Sys} (A : At S.K S.mg "needs_at" (topS 47)) (B : Bt S.mg) (g : Gv S.K S.mg) (N : Nc S.K S.C) (k_parties : P_parties S) (k_divisors : P_divisors S) (k_need_of : T_need_of S) : T_needs_at S := by
  refine kn_F A sc47 (fun _ _ => rfl) (b3 fun _ _ _ _ _ _ _ _ _ => rfl) fun f cdv A outer s H E a hr hp => ?_
  refine ss_retD ?_
  refine ef_tuple B ?_
  refine ef_lcM (ts := ([3] ++ ([4] ++ []))) [("party", 3), ("seats", 4)] (fun d => .int (ndF a.1 a.2.2 d)) (show blkC ["night", "table", "price", "party", "seats"] (defScope (topS 47)) _ [("party", 3), ("seats", 4)] = true from by decide +kernel) sc47.nd ?_
  refine ei_zip true true B ?_
  refine ef_prop N k_parties (hr.mono (by omega)) ?_
  refine ef_i 0 rfl ?_
  refine ⟨a.1, _, _, _, rfl, rfl, hp.o, ?_⟩
  refine ⟨_, rfl, ?_⟩
  refine ef_i 1 rfl ?_
  refine ⟨_, rfl, ?_⟩
  refine ⟨rfl, (by have h3 := hp.o.c3; show (zipD (a.1.cl.map ptyD) (a.2.1.map natD)).length ≤ 100000; rw [zipD_len, List.length_map]; omega), by decide, fun d hd s H0 Cc cl fp => ?_, ?_⟩
  ·
    rw [show (List.map (fun n : Nat => PyData.int (n : Int)) a.2.1) = a.2.1.map natD from rfl, zipD_map] at hd
    obtain ⟨q, hq, rfl⟩ := List.mem_map.mp hd
    obtain ⟨hq1, hq2⟩ := cl_in hp.o hq
    unfold ptyD natD
    refine sg_t ?_
    refine sr_cons ?_
    refine sg_n 3 rfl ?_ sc47.nd
    refine sr_cons ?_
    refine sg_n 4 rfl ?_ sc47.nd
    refine sr_nil ?_
    refine ⟨rfl, fun s H0 Cc cl fp => ?_⟩
    refine ef_cF k_need_of (hr.mono (by omega)) ?_
    refine ea_d ?_
    refine ef_prop N k_divisors (hr.mono (by omega)) ?_
    refine ef_i 0 rfl ?_
    refine ⟨a.1, _, _, _, rfl, rfl, hp.o, ?_⟩
    refine ⟨_, rfl, ?_⟩
    refine ea_d ?_
    refine ef_ixT ?_
    refine ef_i 3 rfl ?_
    refine ⟨_, rfl, ?_⟩
    refine ef_int ?_
    refine ⟨_, _, _, rfl, rfl, (atI_of (i := 1) rfl), ?_⟩
    refine ⟨_, rfl, ?_⟩
    refine ea_d ?_
    refine ef_i 4 rfl ?_
    refine ⟨_, rfl, ?_⟩
    refine ea_d ?_
    refine ef_i 2 rfl ?_
    refine ⟨_, rfl, ?_⟩
    refine ea_nil ?_
    refine ⟨(a.1, q.1.2, q.2, a.2.2), rfl, ⟨hp.o, (hp.o.ct _ hq1).1, by have h1 := mem_le_sum hq2; have h2 := hp.t.sum; show q.2 ≤ a.1.dv.length; omega, hp.f⟩, ?_⟩
    exact ⟨rfl, rfl⟩
  refine ⟨_, rfl, ?_⟩
  refine ⟨_, rfl, ?_⟩
  exact needs_fin a.1 a.2.1 a.2.2
theorem sc62 : FnScope ["night", "table", "price", "need", "count"] ["night", "table", "price"] (defScope (topS 62)) := ⟨rfl, rfl, rfl, by decide +kernel, rfl, by decide +kernel, by decide +kernel⟩
abbrev T_lacks_at (S : Sys) : Prop := Kn S.P S.w S.K S.mg S.base 6 "lacks_at" ["night", "table", "price"] (spF S.K S.C (α := Pt × List Nat × Int × Int) (fun a => [nig a.1, tabD a.2.1, frD a.2.2]) (fun a => TfOk a) (fun a => .list ((lacks a.1 a.2.1 a.2.2).map .int)))
theorem w_lacks_at {S : Sys} (A : At S.K S.mg "lacks_at" (topS 62)) (B : Bt S.mg) (g : Gv S.K S.mg) (k_needs_at : T_needs_at S) (k_counts_of : T_counts_of S) : T_lacks_at S := by
  refine kn_F A sc62 (fun _ _ => rfl) (b3 fun _ _ _ _ _ _ _ _ _ => rfl) fun f cdv A outer s H E a hr hp => ?_
  refine ss_retD ?_
  refine ef_lcM (ts := ([3] ++ ([4] ++ []))) [("need", 3), ("count", 4)] (fun d => .int (subF d)) (show blkC ["night", "table", "price", "need", "count"] (defScope (topS 62)) _ [("need", 3), ("count", 4)] = true from by decide +kernel) sc62.nd ?_
  refine ei_zip true false B ?_
  refine ef_cF k_needs_at (hr.mono (by omega)) ?_
  refine ea_d ?_
  refine ef_i 0 rfl ?_
  refine ⟨_, rfl, ?_⟩
  refine ea_d ?_
  refine ef_i 1 rfl ?_
  refine ⟨_, rfl, ?_⟩
  refine ea_d ?_
  refine ef_i 2 rfl ?_
  refine ⟨_, rfl, ?_⟩
  refine ea_nil ?_
  refine ⟨a, rfl, hp, ?_⟩
  refine ⟨_, rfl, ?_⟩
  refine ef_cF k_counts_of (hr.mono (by omega)) ?_
  refine ea_d ?_
  refine ef_i 0 rfl ?_
  refine ⟨_, rfl, ?_⟩
  refine ea_nil ?_
  refine ⟨a.1, rfl, hp.o, ?_⟩
  refine ⟨_, rfl, ?_⟩
  refine ⟨rfl, (by have := hp.o.c3; simp [zipD_len, Pt.tl, needs]; omega), by decide, fun d hd s H0 Cc cl fp => ?_, ?_⟩
  ·
    obtain ⟨x, y, rfl⟩ := zip_ints hd
    refine sg_t ?_
    refine sr_cons ?_
    refine sg_n 3 rfl ?_ sc62.nd
    refine sr_cons ?_
    refine sg_n 4 rfl ?_ sc62.nd
    refine sr_nil ?_
    refine ⟨rfl, fun s H0 Cc cl fp => ?_⟩
    refine ef_sub ?_
    refine ef_i 3 rfl ?_
    refine ⟨_, rfl, ?_⟩
    refine ef_i 4 rfl ?_
    refine ⟨_, _, rfl, rfl, ?_⟩
    exact ⟨rfl, rfl⟩
  refine ⟨_, rfl, ?_⟩
  exact (by show PyData.list _ = _; unfold needs lacks Pt.tl; exact congrArg PyData.list (lacks_fin a.1.cl a.2.1 _))
def nmF (p : Pt) : PyData → Str
  | .int i => p.names.getD i.toNat ""
  | _ => ""
def szF : PyData → Int
  | .tuple [.int n, _] => n
  | _ => 0
def strG : PyData → Str
  | .str z => z
  | _ => ""
def ownF : PyData → List Str
  | .tuple [_, .tuple ds] => ds.map strG
  | _ => []
theorem ownF_pil (h : Int × List Str) : ownF (pilD h) = h.2 := by
  show (h.2.map PyData.str).map strG = h.2
  rw [List.map_map]
  exact List.map_id' _
structure GpOk (a : Pt × List Nat) : Prop where
  o : Ok a.1
  i : ∀ n ∈ a.2, n < a.1.cl.length
  l : a.2.length ≤ 3000
def grp (p : Pt) (is : List Nat) : List Str := is.map fun i => p.names.getD i ""
theorem given_fin (p : Pt) (ss : List Str) : (((p.hp.map pilD).filter fun d => ss.any fun z => decide (z ∈ ownF d)).map szF).sum = given p ss := by
  unfold given
  rw [List.filter_map, List.map_map]
  congr 1
  have e : ((fun d => ss.any fun z => decide (z ∈ ownF d)) ∘ pilD) = fun h : Int × List Str => ss.any fun z => decide (z ∈ h.2) := by
    funext h
    show (ss.any fun z => decide (z ∈ ownF (pilD h))) = _
    rw [ownF_pil]
  rw [e]
  rfl
theorem pty_at {p : Pt} {n : Nat} (h : n < p.cl.length) : ∃ c, (p.cl.map ptyD)[n]? = some (ptyD c) ∧ p.names.getD n "" = c.1 := by
  refine ⟨p.cl[n], by rw [List.getElem?_map, List.getElem?_eq_getElem h]; rfl, ?_⟩
  unfold Pt.names
  rw [List.getD_eq_getElem?_getD, List.getElem?_map, List.getElem?_eq_getElem h]
  rfl
theorem any_grp (p : Pt) (is : List Nat) (own : List Str) : ((is.map natD).map fun d => PyData.str (nmF p d)).any (inS own) = (grp p is).any fun z => decide (z ∈ own) := by
  unfold grp
  rw [List.any_map, List.any_map, List.any_map]
  rfl
theorem sc49 : FnScope ["night", "group", "names", "index", "size", "own", "name"] ["night", "group"] (defScope (topS 49)) := ⟨rfl, rfl, rfl, by decide +kernel, rfl, by decide +kernel, by decide +kernel⟩
abbrev T_given_to (S : Sys) : Prop := Kn S.P S.w S.K S.mg S.base 3 "given_to" ["night", "group"] (spF S.K S.C (α := Pt × List Nat) (fun a => [nig a.1, .list (a.2.map natD)]) (fun a => GpOk a) (fun a => .int (given a.1 (grp a.1 a.2))))
theorem w_given_to {S : Sys} (A : At S.K S.mg "given_to" (topS 49)) (B : Bt S.mg) (g : Gv S.K S.mg) (N : Nc S.K S.C) (k_parties : P_parties S) (k_piles : P_piles S) : T_given_to S := by
  refine kn_F A sc49 (fun _ _ => rfl) (b2 fun _ _ _ _ _ _ _ _ => rfl) fun f cdv A outer s H E a hr hp => ?_
  refine ss_set 2 ?_ rfl sc49.nd
  refine ef_lcM (ts := [3]) [("index", 3)] (fun d => .str (nmF a.1 d)) (show blkC ["night", "group", "names", "index", "size", "own", "name"] (defScope (topS 49)) _ [("index", 3)] = true from by decide +kernel) sc49.nd ?_
  refine ei_l ?_
  refine ef_i 1 rfl ?_
  refine ⟨_, rfl, ?_⟩
  refine ⟨rfl, (by have := hp.l; simp; omega), by decide, fun d hd s H0 Cc cl fp => ?_, ?_⟩
  ·
    obtain ⟨n, hn, rfl⟩ := List.mem_map.mp hd
    obtain ⟨c, hc, hc2⟩ := pty_at (hp.i n hn)
    refine sg_n 3 rfl ?_ sc49.nd
    refine ⟨rfl, fun s H0 Cc cl fp => ?_⟩
    refine ef_ixT ?_
    refine ef_ixT ?_
    refine ef_prop N k_parties (hr.mono (by omega)) ?_
    refine ef_i 0 rfl ?_
    refine ⟨a.1, _, _, _, rfl, rfl, hp.o, ?_⟩
    refine ⟨_, rfl, ?_⟩
    refine ef_i 3 rfl ?_
    refine ⟨_, _, _, rfl, rfl, (atI_of hc), ?_⟩
    unfold ptyD
    refine ⟨_, rfl, ?_⟩
    refine ef_int ?_
    refine ⟨_, _, _, rfl, rfl, (atI_of (i := 0) rfl), ?_⟩
    exact ⟨(by show _ = Vl.d (.str (a.1.names.getD n "")); rw [hc2]), rfl⟩
  refine ⟨_, rfl, rfl, ?_⟩
  refine ss_retD ?_
  refine ef_sumF B ?_
  refine ef_lcP (ts := ([4] ++ ([5] ++ []))) [("size", 4), ("own", 5)] (fun d => .int (szF d)) (fun d => (grp a.1 a.2).any fun z => decide (z ∈ ownF d)) (show blkC ["night", "group", "names", "index", "size", "own", "name"] (defScope (topS 49)) _ [("size", 4), ("own", 5)] = true from by decide +kernel) sc49.nd ?_
  refine ei_t ?_
  refine ef_prop N k_piles (hr.mono (by omega)) ?_
  refine ef_i 0 rfl ?_
  refine ⟨a.1, _, _, _, rfl, rfl, hp.o, ?_⟩
  refine ⟨_, rfl, ?_⟩
  refine ⟨rfl, (by have h3 := hp.o.h2; show (a.1.hp.map pilD).length ≤ 100000; rw [List.length_map]; omega), by decide, fun d hd s H0 Cc cl fp => ?_, ?_⟩
  ·
    obtain ⟨h, hh, rfl⟩ := List.mem_map.mp hd
    unfold pilD
    refine sg_t ?_
    refine sr_cons ?_
    refine sg_n 4 rfl ?_ sc49.nd
    refine sr_cons ?_
    refine sg_n 5 rfl ?_ sc49.nd
    refine sr_nil ?_
    intro s H0 Cc cl fp
    refine et_v ?_
    refine ef_anyF B ?_
    refine ef_lcM (ts := [6]) [("name", 6)] (fun d => .bool (inS h.2 d)) (by kernel_rfl) sc49.nd ?_
    refine ei_l ?_
    refine ef_i 2 rfl ?_
    refine ⟨_, rfl, ?_⟩
    refine ⟨rfl, (by have h3 := hp.l; show (((a.2.map natD)).map fun d => PyData.str (nmF a.1 d)).length ≤ 100000; rw [List.length_map, List.length_map]; omega), by decide, fun d hd s H0 Cc cl fp => ?_, ?_⟩
    ·
      obtain ⟨d1, hd1, rfl⟩ := List.mem_map.mp hd
      refine sg_n 6 rfl ?_ sc49.nd
      refine ⟨rfl, fun s H0 Cc cl fp => ?_⟩
      refine ef_c ?_
      refine ec_in ?_
      refine ef_i 6 rfl ?_
      refine ⟨_, rfl, ?_⟩
      refine ef_i 5 rfl ?_
      refine ⟨_, _, rfl, .inr rfl, ?_⟩
      exact ⟨rfl, rfl⟩
    refine ⟨_, _, rfl, ?_⟩
    refine ⟨_, rfl, ?_⟩
    refine ⟨(by rw [any_grp]; show _ = ((grp a.1 a.2).any fun z => decide (z ∈ ownF (pilD h))); rw [ownF_pil]), rfl, rfl, fun hk s H0 Cc cl fp => ?_⟩
    refine ef_i 4 rfl ?_
    exact ⟨rfl, rfl⟩
  refine ⟨_, _, rfl, ?_⟩
  refine ⟨_, rfl, ?_⟩
  exact (by rw [given_fin])
def stF : PyData → Nat
  | .tuple [_, .int n] => n.toNat
  | _ => 0
def inF (ss : List Str) : PyData → Bool
  | .tuple [.str z, _] => decide (z ∈ ss)
  | _ => false
theorem held_fin (p : Pt) (ss : List Str) (t : List Nat) : (((zipD (p.names.map PyData.str) (t.map natD)).filter (inF ss)).map fun d => ((stF d : Nat) : Int)).sum = ((held p ss t : Nat) : Int) := by
  unfold held Pt.names
  generalize p.cl = cl
  induction cl generalizing t with
  | nil => rfl
  | cons c cl ih =>
    cases t with
    | nil => rfl
    | cons n t =>
      have e : zipD (((c :: cl).map Prod.fst).map PyData.str) ((n :: t).map natD) = .tuple [.str c.1, natD n] :: zipD ((cl.map Prod.fst).map PyData.str) (t.map natD) := rfl
      rw [e, List.zip_cons_cons, List.filter_cons, List.filter_cons]
      have e2 : inF ss (.tuple [.str c.1, natD n]) = decide (c.1 ∈ ss) := rfl
      rw [e2]
      by_cases h : c.1 ∈ ss
      · rw [if_pos (by simpa using h), if_pos (by simpa using h), List.map_cons, List.sum_cons, ih, List.map_cons, List.sum_cons]
        rfl
      · rw [if_neg (by simpa using h), if_neg (by simpa using h), ih]
structure SiOk (a : Pt × List Str × List Nat) : Prop where
  o : Ok a.1
  l : a.2.2.length ≤ 3000
theorem zip_sn {p : Pt} {t : List Nat} {d : PyData} (h : d ∈ zipD (p.names.map PyData.str) (t.map natD)) : ∃ z n, d = .tuple [.str z, natD n] := by
  rw [zipD_map] at h
  obtain ⟨q, _, rfl⟩ := List.mem_map.mp h
  exact ⟨q.1, q.2, rfl⟩
theorem sc52 : FnScope ["night", "bloc", "table", "name", "seats"] ["night", "bloc", "table"] (defScope (topS 52)) := ⟨rfl, rfl, rfl, by decide +kernel, rfl, by decide +kernel, by decide +kernel⟩
abbrev T_seats_in (S : Sys) : Prop := Kn S.P S.w S.K S.mg S.base 3 "seats_in" ["night", "bloc", "table"] (spF S.K S.C (α := Pt × List Str × List Nat) (fun a => [nig a.1, .tuple (a.2.1.map .str), tabD a.2.2]) (fun a => SiOk a) (fun a => .int (held a.1 a.2.1 a.2.2 : Int)))
theorem w_seats_in {S : Sys} (A : At S.K S.mg "seats_in" (topS 52)) (B : Bt S.mg) (g : Gv S.K S.mg) (N : Nc S.K S.C) (k_names : P_names S) : T_seats_in S := by
  refine kn_F A sc52 (fun _ _ => rfl) (b3 fun _ _ _ _ _ _ _ _ _ => rfl) fun f cdv A outer s H E a hr hp => ?_
  refine ss_retD ?_
  refine ef_sumF B ?_
  refine ef_lcP (ts := ([3] ++ ([4] ++ []))) [("name", 3), ("seats", 4)] (fun d => .int ((stF d : Nat) : Int)) (inF a.2.1) (show blkC ["night", "bloc", "table", "name", "seats"] (defScope (topS 52)) _ [("name", 3), ("seats", 4)] = true from by decide +kernel) sc52.nd ?_
  refine ei_zip true true B ?_
  refine ef_prop N k_names (hr.mono (by omega)) ?_
  refine ef_i 0 rfl ?_
  refine ⟨a.1, _, _, _, rfl, rfl, hp.o, ?_⟩
  refine ⟨_, rfl, ?_⟩
  refine ef_i 2 rfl ?_
  refine ⟨_, rfl, ?_⟩
  refine ⟨rfl, (by have h3 := hp.l; show (zipD (a.1.names.map PyData.str) (a.2.2.map natD)).length ≤ 100000; rw [zipD_len, List.length_map, List.length_map]; omega), by decide, fun d hd s H0 Cc cl fp => ?_, ?_⟩
  ·
    obtain ⟨z, n, rfl⟩ := zip_sn hd
    refine sg_t ?_
    refine sr_cons ?_
    refine sg_n 3 rfl ?_ sc52.nd
    refine sr_cons ?_
    refine sg_n 4 rfl ?_ sc52.nd
    refine sr_nil ?_
    intro s H0 Cc cl fp
    refine et_c ?_
    refine ec_in ?_
    refine ef_i 3 rfl ?_
    refine ⟨_, rfl, ?_⟩
    refine ef_i 1 rfl ?_
    refine ⟨_, _, rfl, .inr rfl, ?_⟩
    refine ⟨_, rfl, ?_⟩
    refine ⟨(by first | rfl | assumption | decide | omega | exact (nomatch hk)), rfl, rfl, fun hk s H0 Cc cl fp => ?_⟩
    refine ef_i 4 rfl ?_
    exact ⟨(by show Vl.d (natD n) = Vl.d (.int ((((n : Int)).toNat : Nat) : Int)); rw [Int.toNat_natCast]; rfl), rfl⟩
  refine ⟨_, _, rfl, ?_⟩
  refine ⟨_, rfl, ?_⟩
  exact congrArg PyData.int (held_fin a.1 a.2.1 a.2.2)
theorem strsOf_map : ∀ ss : List Str, strsOf (ss.map .str) = some ss
  | [] => rfl
  | s :: ss => by
    show (strsOf (ss.map .str)).map (s :: ·) = _
    rw [strsOf_map ss]
    rfl
theorem strs_all : ∀ {ds : List PyData}, ds.all isStr = true → ∃ ss : List Str, ds = ss.map .str
  | [], _ => ⟨[], rfl⟩
  | d :: ds, h => by
    rw [List.all_cons, Bool.and_eq_true] at h
    obtain ⟨z, rfl⟩ := isStr_inv h.1
    obtain ⟨ss, rfl⟩ := strs_all h.2
    exact ⟨z :: ss, rfl⟩
theorem strs_not : ∀ {ds : List PyData}, ds.all isStr = false → strsOf ds = none
  | d :: ds, h => by
    rw [List.all_cons, Bool.and_eq_false_iff] at h
    rcases h with h | h
    · cases d <;> first | rfl | cases h
    · have := strs_not h
      cases d <;> first | rfl | (show (strsOf ds).map _ = none; rw [this]; rfl)
/-- a nonempty tuple of texts -/
def bl0 : PyData → Bool
  | .tuple ds => decide (ds ≠ []) && ds.all isStr
  | _ => false
theorem bl0_inv {d : PyData} (h : bl0 d = true) : ∃ ss : List Str, d = .tuple (ss.map .str) ∧ ss ≠ [] := by
  unfold bl0 at h
  split at h
  · rw [Bool.and_eq_true] at h
    obtain ⟨ss, rfl⟩ := strs_all h.2
    refine ⟨ss, rfl, fun e => ?_⟩
    subst e
    simp at h
  · cases h
theorem bl0_t (ds : List PyData) : bl0 (.tuple ds) = (decide (ds ≠ []) && ds.all isStr) := rfl
theorem gang_t (p : Pt) (ds : List PyData) : gang p (.tuple ds) = match strsOf ds with
    | none => none
    | some ss => if ss ≠ [] ∧ (∀ z ∈ ss, z ∈ p.names) ∧ ascS ss = true then some ss else none := rfl
theorem bl0_not {p : Pt} {d : PyData} (h : bl0 d = false) : gang p d = none := by
  cases d with
  | tuple ds =>
    rw [bl0_t, Bool.and_eq_false_iff] at h
    rcases h with h | h
    · have e : ds = [] := by simpa using h
      subst e
      rfl
    · rw [gang_t, strs_not h]
  | _ => rfl
theorem gang_eq (p : Pt) {ss : List Str} (h : ss ≠ []) : (gang p (.tuple (ss.map .str))).isSome = (ss.all (fun z => decide (z ∈ p.names)) && ascS ss) := by
  unfold gang
  dsimp only
  rw [strsOf_map]
  dsimp only
  by_cases h1 : ∀ z ∈ ss, z ∈ p.names
  · rw [show ss.all (fun z => decide (z ∈ p.names)) = true from List.all_eq_true.mpr fun z hz => decide_eq_true (h1 z hz)]
    cases h2 : ascS ss with
    | true => rw [if_pos ⟨h, h1, rfl⟩]; rfl
    | false => rw [if_neg (by simp)]; rfl
  · rw [if_neg (fun q => h1 q.2.1)]
    have : ss.all (fun z => decide (z ∈ p.names)) = false := by
      rw [Bool.eq_false_iff]
      intro q
      exact h1 fun z hz => of_decide_eq_true (List.all_eq_true.mp q z hz)
    rw [this]
    rfl
def ltS : PyData → Bool
  | .tuple [.str a, .str b] => decide (a.cps.toList < b.cps.toList)
  | _ => false
theorem asc_fin (ss : List Str) : (zipD (ss.map PyData.str) ((ss.map PyData.str).drop 1)).all ltS = ascS ss := by
  rw [← List.map_drop, zipD_map, List.all_map]
  unfold ascS
  rw [List.drop_one]
  rfl
theorem all_in (ss ns : List Str) : (ss.map PyData.str).all (inS ns) = ss.all fun z => decide (z ∈ ns) := by
  rw [List.all_map]
  rfl
structure BlOk (a : Pt × PyData) : Prop where
  o : Ok a.1
  d : Dat a.2
  l : ∀ ds, a.2 = .tuple ds → ds.length ≤ 3000
theorem sc51 : FnScope ["night", "value", "name", "one", "other"] ["night", "value"] (defScope (topS 51)) := ⟨rfl, rfl, rfl, by decide +kernel, rfl, by decide +kernel, by decide +kernel⟩
abbrev T_is_bloc (S : Sys) : Prop := Kn S.P S.w S.K S.mg S.base 3 "is_bloc" ["night", "value"] (spF S.K S.C (α := Pt × PyData) (fun a => [nig a.1, a.2]) (fun a => BlOk a) (fun a => .bool (gang a.1 a.2).isSome))
theorem w_is_bloc {S : Sys} (A : At S.K S.mg "is_bloc" (topS 51)) (B : Bt S.mg) (g : Gv S.K S.mg) (N : Nc S.K S.C) (k_names : P_names S) : T_is_bloc S := by
  refine kn_F A sc51 (fun _ _ => rfl) (b2 fun _ _ _ _ _ _ _ _ => rfl) fun f cdv A outer s H E a hr hp => ?_
  obtain ⟨p, v⟩ := a
  have o : Ok p := hp.o
  have hv : Dat v := hp.d
  refine ss_if ?_
  refine et_cut (!bl0 v) ?_ ?_
  ·
    refine et_w ?_
    refine ew_or ?_
    refine et_not ?_
    refine et_v ?_
    refine ef_isTup B ?_
    refine ef_i 1 rfl ?_
    refine ⟨_, rfl, hv.pl, ?_⟩
    refine ⟨_, rfl, ?_⟩
    refine ⟨fun hk => ?_, fun hk => ?_⟩
    · exact ⟨(by cases v <;> first | rfl | cases hk), rfl⟩
    refine ew_or ?_
    refine et_c ?_
    refine ec_eqI ?_
    refine ef_len B ?_
    refine ef_i 1 rfl ?_
    obtain ⟨ds, rfl⟩ := isTup_inv (show isTup v = true by simpa using hk)
    have hl : ds.length ≤ 3000 := hp.l ds rfl
    refine ⟨_, .inr rfl, ?_⟩
    refine ⟨_, rfl, ?_⟩
    refine ef_int ?_
    refine ⟨_, _, rfl, rfl, ?_⟩
    refine ⟨_, rfl, ?_⟩
    refine ⟨fun hk => ?_, fun hk => ?_⟩
    · exact ⟨(by have h1 : ((ds.length : Nat) : Int) = 0 := of_decide_eq_true hk; have h2 : ds = [] := List.eq_nil_of_length_eq_zero (by omega); subst h2; rfl), rfl⟩
    refine ew_one_or ?_
    refine et_not ?_
    refine et_v ?_
    refine ef_allF B ?_
    refine ef_lcM (ts := [2]) [("name", 2)] (fun d => .bool (isStr d)) (show blkC ["night", "value", "name", "one", "other"] (defScope (topS 51)) _ [("name", 2)] = true from by decide +kernel) sc51.nd ?_
    refine ei_t ?_
    refine ef_i 1 rfl ?_
    refine ⟨_, rfl, ?_⟩
    refine ⟨rfl, (by omega), by decide, fun d hd s H0 Cc cl fp => ?_, ?_⟩
    ·
      refine sg_n 2 rfl ?_ sc51.nd
      refine ⟨rfl, fun s H0 Cc cl fp => ?_⟩
      refine ef_isStr B ?_
      refine ef_i 2 rfl ?_
      refine ⟨_, rfl, (hv.in hd).pl, ?_⟩
      exact ⟨rfl, rfl⟩
    refine ⟨_, _, rfl, ?_⟩
    refine ⟨_, rfl, ?_⟩
    have h1 : ¬ ((ds.length : Nat) : Int) = 0 := of_decide_eq_false hk
    have h2 : ds ≠ [] := fun e => h1 (by subst e; rfl)
    exact ⟨(by rw [bl0_t, decide_eq_true h2]; rfl), rfl⟩
  refine ⟨fun hk => ?_, fun hk => ?_⟩
  ·
    refine ss_retD ?_
    refine ef_bl ?_
    refine ⟨_, rfl, ?_⟩
    exact (by show _ = PyData.bool (gang p v).isSome; rw [bl0_not (by simpa using hk)]; rfl)
  refine ss_nil ?_
  refine ss_retD ?_
  obtain ⟨ss, rfl, hne⟩ := bl0_inv (show bl0 v = true by simpa using hk)
  have hl : ss.length ≤ 3000 := by have := hp.l _ rfl; simpa using this
  refine ef_cut (.bool (gang p (.tuple (ss.map .str))).isSome) ?_ ?_
  ·
    refine ef_and2 ?_
    refine ef_allF B ?_
    refine ef_lcM (ts := [2]) [("name", 2)] (fun d => .bool (inS p.names d)) (show blkC ["night", "value", "name", "one", "other"] (defScope (topS 51)) _ [("name", 2)] = true from by decide +kernel) sc51.nd ?_
    refine ei_t ?_
    refine ef_i 1 rfl ?_
    refine ⟨_, rfl, ?_⟩
    refine ⟨rfl, (by rw [List.length_map]; omega), by decide, fun d hd s H0 Cc cl fp => ?_, ?_⟩
    ·
      obtain ⟨z, hz, rfl⟩ := List.mem_map.mp hd
      refine sg_n 2 rfl ?_ sc51.nd
      refine ⟨rfl, fun s H0 Cc cl fp => ?_⟩
      refine ef_c ?_
      refine ec_in ?_
      refine ef_i 2 rfl ?_
      refine ⟨_, rfl, ?_⟩
      refine ef_prop N k_names (hr.mono (by omega)) ?_
      refine ef_i 0 rfl ?_
      refine ⟨p, _, _, _, rfl, rfl, o, ?_⟩
      refine ⟨_, _, rfl, .inr rfl, ?_⟩
      exact ⟨rfl, rfl⟩
    refine ⟨_, _, rfl, ?_⟩
    refine ⟨_, rfl, fun hk => ?_, fun hk => ?_⟩
    · exact ⟨(by rw [all_in] at hk; rw [gang_eq p hne, hk]; rfl), rfl⟩
    refine ef_allF B ?_
    refine ef_lcM (ts := ([3] ++ ([4] ++ []))) [("one", 3), ("other", 4)] (fun d => .bool (ltS d)) (show blkC ["night", "value", "name", "one", "other"] (defScope (topS 51)) _ [("one", 3), ("other", 4)] = true from by decide +kernel) sc51.nd ?_
    refine ei_zip true true B ?_
    refine ef_i 1 rfl ?_
    refine ⟨_, rfl, ?_⟩
    refine ef_slT ?_
    refine ef_i 1 rfl ?_
    refine ⟨_, rfl, ?_⟩
    refine eo_some ?_
    refine ef_int ?_
    refine ⟨_, rfl, ?_⟩
    refine eo_none ?_
    refine ⟨_, rfl, ?_⟩
    refine ⟨_, rfl, ?_⟩
    refine ⟨rfl, (by rw [zipD_len, List.length_map]; omega), by decide, fun d hd s H0 Cc cl fp => ?_, ?_⟩
    ·
      rw [cut1, ← List.map_drop, zipD_map] at hd
      obtain ⟨q, hq, rfl⟩ := List.mem_map.mp hd
      refine sg_t ?_
      refine sr_cons ?_
      refine sg_n 3 rfl ?_ sc51.nd
      refine sr_cons ?_
      refine sg_n 4 rfl ?_ sc51.nd
      refine sr_nil ?_
      refine ⟨rfl, fun s H0 Cc cl fp => ?_⟩
      refine ef_c ?_
      refine ec_ltS ?_
      refine ef_i 3 rfl ?_
      refine ⟨_, rfl, ?_⟩
      refine ef_i 4 rfl ?_
      refine ⟨_, _, rfl, rfl, ?_⟩
      exact ⟨rfl, rfl⟩
    refine ⟨_, _, rfl, ?_⟩
    exact ⟨(by rw [cut1, asc_fin, gang_eq p hne]; rw [all_in] at hk; rw [hk]; rfl), rfl⟩
  refine ⟨_, rfl, ?_⟩
  exact rfl
def nnB : PyData → Bool
  | .int i => decide (0 ≤ i)
  | _ => false
/-- a table of the night -/
def isTb (p : Pt) : PyData → Bool
  | .tuple ds => decide (ds.length = p.cl.length) && ds.all nnB && decide ((ds.map fun d => match d with | .int i => i | _ => 0).sum = (p.dv.length : Int))
  | _ => false
theorem nn_ints : ∀ {ds : List PyData}, ds.all nnB = true → ∃ ns : List Int, ds = ns.map .int ∧ (ds.map fun d => match d with | .int i => i | _ => 0) = ns
  | [], _ => ⟨[], rfl, rfl⟩
  | d :: ds, h => by
    rw [List.all_cons, Bool.and_eq_true] at h
    obtain ⟨ns, rfl, h2⟩ := nn_ints h.2
    cases d with
    | int i => exact ⟨i :: ns, rfl, by rw [List.map_cons, h2]⟩
    | _ => cases h.1
theorem notF {b : Bool} (h : (!b) = true) : b = false := by cases b <;> first | rfl | cases h
theorem notT {b : Bool} (h : (!b) = false) : b = true := by cases b <;> first | rfl | cases h
def tbA : PyData → Bool
  | .tuple ds => ds.all nnB
  | _ => false
def inV : PyData → Int
  | .int i => i
  | _ => 0
theorem isTb_t (p : Pt) (ds : List PyData) : isTb p (.tuple ds) = (decide (ds.length = p.cl.length) && ds.all nnB && decide ((ds.map inV).sum = (p.dv.length : Int))) := by
  unfold isTb
  rfl
theorem isTb_not {p : Pt} {v : PyData} (h : (isTupN p.cl.length v && tbA v) = false) : isTb p v = false := by
  cases v with
  | tuple ds =>
    rw [isTb_t]
    have h1 : (decide (ds.length = p.cl.length) && ds.all nnB) = false := h
    rw [h1]
    rfl
  | _ => rfl
theorem nn_all {ds : List PyData} (h : ds.all nnB = true) : ∃ ns : List Int, ds = ns.map .int ∧ ds.map inV = ns := by
  induction ds with
  | nil => exact ⟨[], rfl, rfl⟩
  | cons d ds ih =>
    rw [List.all_cons, Bool.and_eq_true] at h
    obtain ⟨ns, rfl, h2⟩ := ih h.2
    cases d with
    | int i => exact ⟨i :: ns, rfl, by rw [List.map_cons, h2]; rfl⟩
    | _ => cases h.1
theorem nnB_wh {d : PyData} (h : isWh d = false) : nnB d = false := by cases d <;> first | rfl | cases h
theorem sc39 : FnScope ["night", "value", "part"] ["night", "value"] (defScope (topS 39)) := ⟨rfl, rfl, rfl, by decide +kernel, rfl, by decide +kernel, by decide +kernel⟩
abbrev T_is_table (S : Sys) : Prop := Kn S.P S.w S.K S.mg S.base 3 "is_table" ["night", "value"] (spF S.K S.C (α := Pt × PyData) (fun a => [nig a.1, a.2]) (fun a => BlOk a) (fun a => .bool (isTb a.1 a.2)))
theorem w_is_table {S : Sys} (A : At S.K S.mg "is_table" (topS 39)) (B : Bt S.mg) (g : Gv S.K S.mg) (N : Nc S.K S.C) (k_parties : P_parties S) (k_divisors : P_divisors S) (k_is_tuple_of : T_is_tuple_of S) (k_is_whole : T_is_whole S) : T_is_table S := by
  refine kn_F A sc39 (fun _ _ => rfl) (b2 fun _ _ _ _ _ _ _ _ => rfl) fun f cdv A outer s H E a hr hp => ?_
  obtain ⟨p, v⟩ := a
  have o : Ok p := hp.o
  have hv : Dat v := hp.d
  refine ss_if ?_
  refine et_cut (!(isTupN p.cl.length v && tbA v)) ?_ ?_
  ·
    refine et_w ?_
    refine ew_or ?_
    refine et_not ?_
    refine et_v ?_
    refine ef_cF k_is_tuple_of (hr.mono (by omega)) ?_
    refine ea_d ?_
    refine ef_i 1 rfl ?_
    refine ⟨_, rfl, ?_⟩
    refine ea_d ?_
    refine ef_len B ?_
    refine ef_prop N k_parties (hr.mono (by omega)) ?_
    refine ef_i 0 rfl ?_
    refine ⟨p, _, _, _, rfl, rfl, o, ?_⟩
    refine ⟨_, (by first | exact .inr rfl | exact .inl rfl | exact ⟨_, rfl, rfl⟩), ?_⟩
    refine ⟨_, rfl, ?_⟩
    refine ea_nil ?_
    refine ⟨(v, p.cl.length), (by show [Vl.d v, Vl.d (PyData.int (((p.cl.map ptyD).length : Nat) : Int))] = _; rw [List.length_map]; rfl), hv.pl, ?_⟩
    refine ⟨_, rfl, ?_⟩
    refine ⟨fun hk => ?_, fun hk => ?_⟩
    have h1 : isTupN p.cl.length v = false := by simpa using hk
    · exact ⟨(by rw [h1]; rfl), rfl⟩
    obtain ⟨ds, rfl, hdl⟩ := isTupN_inv (show isTupN p.cl.length v = true by simpa using hk)
    have h1 : isTupN p.cl.length (.tuple ds) = true := by simpa using hk
    have hl : ds.length ≤ 3000 := hp.l ds rfl
    refine ew_one_or ?_
    refine et_not ?_
    refine et_v ?_
    refine ef_allF B ?_
    refine ef_lcM (ts := [2]) [("part", 2)] (fun d => .bool (nnB d)) (show blkC ["night", "value", "part"] (defScope (topS 39)) _ [("part", 2)] = true from by decide +kernel) sc39.nd ?_
    refine ei_t ?_
    refine ef_i 1 rfl ?_
    refine ⟨_, rfl, ?_⟩
    refine ⟨rfl, (by omega), by decide, fun d hd s H0 Cc cl fp => ?_, ?_⟩
    ·
      have hdd := hv.in hd
      refine sg_n 2 rfl ?_ sc39.nd
      refine ⟨rfl, fun s H0 Cc cl fp => ?_⟩
      refine ef_cut (.bool (nnB d)) ?_ ?_
      ·
        refine ef_and2 ?_
        refine ef_cF k_is_whole (hr.mono (by omega)) ?_
        refine ea_d ?_
        refine ef_i 2 rfl ?_
        refine ⟨_, rfl, ?_⟩
        refine ea_nil ?_
        refine ⟨d, rfl, hdd.pl, ?_⟩
        refine ⟨_, rfl, fun hk => ?_, fun hk => ?_⟩
        · exact ⟨(by rw [nnB_wh hk]), rfl⟩
        obtain ⟨i, rfl⟩ := isWh_inv hk
        refine ef_c ?_
        refine ec_ge ?_
        refine ef_i 2 rfl ?_
        refine ⟨_, rfl, ?_⟩
        refine ef_int ?_
        refine ⟨_, _, rfl, rfl, ?_⟩
        exact ⟨rfl, rfl⟩
      exact ⟨rfl, rfl⟩
    refine ⟨_, _, rfl, ?_⟩
    refine ⟨_, rfl, ?_⟩
    exact ⟨(by rw [h1]; rfl), rfl⟩
  refine ⟨fun hk => ?_, fun hk => ?_⟩
  ·
    refine ss_retD ?_
    refine ef_bl ?_
    refine ⟨_, rfl, ?_⟩
    exact (by show _ = PyData.bool (isTb p v); rw [isTb_not (notF hk)])
  refine ss_nil ?_
  obtain ⟨h1, h2⟩ : isTupN p.cl.length v = true ∧ tbA v = true := by simpa using hk
  obtain ⟨ds, rfl, hdl⟩ := isTupN_inv h1
  obtain ⟨ns, rfl, hns⟩ := nn_all (show ds.all nnB = true from h2)
  refine ss_retD ?_
  refine ef_c ?_
  refine ec_eqI ?_
  refine ef_sumT B ?_
  refine ef_i 1 rfl ?_
  refine ⟨ns, rfl, ?_⟩
  refine ⟨_, rfl, ?_⟩
  refine ef_len B ?_
  refine ef_prop N k_divisors (hr.mono (by omega)) ?_
  refine ef_i 0 rfl ?_
  refine ⟨p, _, _, _, rfl, rfl, o, ?_⟩
  refine ⟨_, (by first | exact .inr rfl | exact .inl rfl | exact ⟨_, rfl, rfl⟩), ?_⟩
  refine ⟨_, _, rfl, rfl, ?_⟩
  refine ⟨_, rfl, ?_⟩
  exact (by show _ = PyData.bool (isTb p (.tuple (ns.map .int))); rw [isTb_t, hns, decide_eq_true hdl, show (ns.map PyData.int).all nnB = true from h2]; show _ = PyData.bool (decide (ns.sum = ((p.dv.length : Nat) : Int))); rw [List.length_map])
end W
/-! W9: all tables -/
namespace W
open PySem PySem.Spec PyProof.Rows L2 DL M

theorem sc38 : FnScope ["many", "seats", "first", "rest"] ["many", "seats"] (defScope (topS 37)) := ⟨rfl, rfl, rfl, by decide +kernel, rfl, by decide +kernel, by decide +kernel⟩
abbrev T_tables_ofN (S : Sys) (n lev : Nat) : Prop := Kn S.P S.w S.K S.mg S.base lev "tables_of" ["many", "seats"] (spF S.K S.C (α := Nat × Nat) (fun q => [.int (q.1 : Int), .int (q.2 : Int)]) (fun q => 1 ≤ q.1 ∧ q.1 ≤ n ∧ n ≤ 3 ∧ q.2 ≤ 3) (fun q => .tuple ((tabs q.1 q.2).map tabD)))
abbrev T_tables_of (S : Sys) : Prop := T_tables_ofN S 3 4
def eoT (m s : Nat) : PyData → List PyData
  | .int i => (tabs m (s - i.toNat)).map tabD
  | _ => []
def foT : PyData → PyData → PyData
  | d, .tuple ds => .tuple (d :: ds)
  | d, _ => d
theorem tabs_fin (m s : Nat) : PyData.tuple ((rngD (s + 1)).flatMap fun d => (eoT (m + 1) s d).map (foT d)) = .tuple ((tabs (m + 2) s).map tabD) := by
  congr 1
  show ((List.range (s + 1)).map fun (i : Nat) => PyData.int (i : Int)).flatMap _ = ((List.range (s + 1)).flatMap fun f => (tabs (m + 1) (s - f)).map (f :: ·)).map tabD
  rw [List.flatMap_map, List.map_flatMap]
  congr 1
  funext i
  show ((tabs (m + 1) (s - ((i : Int)).toNat)).map tabD).map (foT (.int (i : Int))) = ((tabs (m + 1) (s - i)).map (i :: ·)).map tabD
  rw [Int.toNat_natCast, List.map_map, List.map_map]
  rfl
theorem tabs_n : ∀ m, m ≤ 3 → ∀ s, s ≤ 3 → (tabs m s).length ≤ 1000 := by decide
theorem tab_len : ∀ {m s : Nat} {t : List Nat}, m ≤ 3 → s ≤ 3 → t ∈ tabs m s → t.length ≤ 1000 := fun {m s t} h1 h2 h => by
  have : ∀ m, m ≤ 3 → ∀ s, s ≤ 3 → ∀ t ∈ tabs m s, t.length ≤ 1000 := by decide
  exact this m h1 s h2 t h
theorem w_tables_ofN {S : Sys} (A : At S.K S.mg "tables_of" (topS 37)) (B : Bt S.mg) : ∀ n, T_tables_ofN S n (n + 1)
  | 0 => kn_F A sc38 (fun _ _ => rfl) (b2 fun _ _ _ _ _ _ _ _ => rfl) fun f cdv A outer s H E a hr hp => by
    obtain ⟨h1, h2, _⟩ := hp
    omega
  | n + 1 => by
    have k_tables_of := w_tables_ofN A B n
    refine kn_F A sc38 (fun _ _ => rfl) (b2 fun _ _ _ _ _ _ _ _ => rfl) fun f cdv A outer s H E a hr hp => ?_
    obtain ⟨m, k⟩ := a
    obtain ⟨h1, h2, h3, h4⟩ := hp
    have h1 : 1 ≤ m := h1
    have h2 : m ≤ n + 1 := h2
    have h4 : k ≤ 3 := h4
    refine ss_if ?_
    refine et_c ?_
    refine ec_eqI ?_
    refine ef_i 0 rfl ?_
    refine ⟨_, rfl, ?_⟩
    refine ef_int ?_
    refine ⟨_, _, rfl, rfl, ?_⟩
    refine ⟨_, rfl, ?_⟩
    refine ⟨fun hk => ?_, fun hk => ?_⟩
    ·
      have hm : ((m : Nat) : Int) = 1 := of_decide_eq_true hk
      have hm1 : m = 1 := by omega
      subst hm1
      refine ss_retD ?_
      refine ef_tup ?_
      refine ea_d ?_
      refine ef_tup ?_
      refine ea_d ?_
      refine ef_i 1 rfl ?_
      refine ⟨_, rfl, ?_⟩
      refine ea_nil ?_
      refine ⟨[_], rfl, show 1 ≤ sizeLine by decide, ?_⟩
      refine ⟨_, rfl, ?_⟩
      refine ea_nil ?_
      refine ⟨[_], rfl, show 1 ≤ sizeLine by decide, ?_⟩
      refine ⟨_, rfl, ?_⟩
      rfl
    refine ss_nil ?_
    have hm : ¬ ((m : Nat) : Int) = 1 := of_decide_eq_false hk
    obtain ⟨j, rfl⟩ : ∃ j, m = j + 2 := ⟨m - 2, by omega⟩
    refine ss_retD ?_
    refine ef_tuple B ?_
    refine ef_lc2 (ts := [2]) (ts1 := [3]) (vs1 := [3]) [("first", 2), ("rest", 3)] (eoT (j + 1) k) foT (show blkC ["many", "seats", "first", "rest"] (defScope (topS 37)) _ [("first", 2), ("rest", 3)] = true from by decide +kernel) sc38.nd (by decide) (by decide) (by decide) ?_
    refine ei_r B ?_
    refine ef_add ?_
    refine ef_i 1 rfl ?_
    refine ⟨_, rfl, ?_⟩
    refine ef_int ?_
    refine ⟨_, _, rfl, rfl, ?_⟩
    refine ⟨((k : Nat) : Int) + 1, rfl, by omega, by omega, ?_⟩
    have ek : (((k : Nat) : Int) + 1).toNat = k + 1 := by omega
    rw [ek]
    have fin := tabs_fin j k
    have hlen : ((rngD (k + 1)).flatMap fun d => (eoT (j + 1) k d).map (foT d)).length ≤ 100000 := by
      have e := congrArg (fun d => match d with | PyData.tuple ds => ds.length | _ => 0) fin
      have e2 : ((rngD (k + 1)).flatMap fun d => (eoT (j + 1) k d).map (foT d)).length = ((tabs (j + 2) k).map tabD).length := e
      have := tabs_n (j + 2) (by omega) k h4
      rw [e2, List.length_map]
      omega
    refine ⟨rfl, hlen, fun d hd s H0 Cc cl fp => ?_, ?_⟩
    ·
      obtain ⟨i, hi, rfl⟩ := List.mem_map.mp hd
      have hik : i ≤ k := by
        have := List.mem_range.mp hi
        omega
      refine sg_n 2 rfl ?_ sc38.nd
      refine ⟨rfl, rfl, rfl, fun s H0 Cc cl fp => ?_⟩
      refine ei_t ?_
      refine ef_cF k_tables_of (hr.mono (by omega)) ?_
      refine ea_d ?_
      refine ef_sub ?_
      refine ef_i 0 rfl ?_
      refine ⟨_, rfl, ?_⟩
      refine ef_int ?_
      refine ⟨_, _, rfl, rfl, ?_⟩
      refine ⟨_, rfl, ?_⟩
      refine ea_d ?_
      refine ef_sub ?_
      refine ef_i 1 rfl ?_
      refine ⟨_, rfl, ?_⟩
      refine ef_i 2 rfl ?_
      refine ⟨_, _, rfl, rfl, ?_⟩
      refine ⟨_, rfl, ?_⟩
      refine ea_nil ?_
      refine ⟨(j + 1, k - i), by show [Vl.d (.int ((((j + 2 : Nat)) : Int) - 1)), Vl.d (.int (((k : Nat) : Int) - (i : Int)))] = [Vl.d (.int (((j + 1 : Nat)) : Int)), Vl.d (.int (((k - i : Nat)) : Int))]; rw [show (((j + 2 : Nat) : Int) - 1) = ((j + 1 : Nat) : Int) by omega, show (((k : Nat) : Int) - (i : Int)) = ((k - i : Nat) : Int) by omega], ⟨by show 1 ≤ j + 1; omega, by show j + 1 ≤ n; omega, by omega, by show k - i ≤ 3; omega⟩, ?_⟩
      refine ⟨_, rfl, by show _ = (tabs (j + 1) (k - ((i : Int)).toNat)).map tabD; rw [Int.toNat_natCast], rfl, fun e he s H0 Cc cl fp => ?_⟩
      obtain ⟨t, ht, rfl⟩ := List.mem_map.mp he
      refine sg_n 3 rfl ?_ sc38.nd
      refine ⟨rfl, fun s H0 Cc cl fp => ?_⟩
      refine ef_tup ?_
      refine ea_d ?_
      refine ef_i 2 rfl ?_
      refine ⟨_, rfl, ?_⟩
      refine ea_star ?_
      refine ef_i 3 rfl ?_
      refine ⟨_, rfl, ?_⟩
      refine ea_nil ?_
      have htl : t.length ≤ 1000 := tab_len (by omega) (by omega) ht
      refine ⟨_ :: _, by rw [List.append_nil]; exact (List.map_cons ..).symm, by rw [List.length_cons, List.length_map]; exact Nat.le_trans (show t.length + 1 ≤ 1001 by omega) (by decide), ?_⟩
      exact ⟨rfl, rfl⟩
    refine ⟨_, rfl, ?_⟩
    refine ⟨_, rfl, ?_⟩
    exact fin
end W
/-! W10: the last price -/
namespace W
open PySem PySem.Spec PyProof.Rows L2 DL M

/-! lowest terms are fractions -/
theorem low_one {t b : Int} (h : 0 < b) : gcdI (low t b).1 (low t b).2 = 1 := by
  have hg := gcd_pos (a := t) (b := b) h
  obtain ⟨u, hu⟩ := Int.gcd_dvd_left t b
  obtain ⟨v, hv⟩ := Int.gcd_dvd_right t b
  have e1 : t.fdiv (gcdI t b) = u := by
    conv => lhs; arg 1; rw [hu]
    exact Int.mul_fdiv_cancel_left _ (Int.ne_of_gt hg)
  have e2 : b.fdiv (gcdI t b) = v := by
    conv => lhs; arg 1; rw [hv]
    exact Int.mul_fdiv_cancel_left _ (Int.ne_of_gt hg)
  show gcdI (t.fdiv (gcdI t b)) (b.fdiv (gcdI t b)) = 1
  rw [e1, e2]
  have h3 : Int.gcd t b = Int.gcd t b * Int.gcd u v := by
    have h3 : Int.gcd t b = Int.gcd ((Int.gcd t b : Int) * u) ((Int.gcd t b : Int) * v) := by rw [← hu, ← hv]
    rw [Int.gcd_mul_left] at h3
    simpa using h3
  have h4 : 0 < Int.gcd t b := by
    unfold gcdI at hg
    omega
  have h5 : Int.gcd u v = 1 := by
    have : Int.gcd t b * 1 = Int.gcd t b * Int.gcd u v := by omega
    exact (Nat.eq_of_mul_eq_mul_left h4 this).symm
  unfold gcdI
  rw [h5]
  rfl
theorem asc_lt {dv : List Int} (h : dv.Pairwise (· < ·)) {i j : Nat} (hij : i < j) (hj : j < dv.length) : dv.getD i 0 + 1 ≤ dv.getD j 0 := by
  have := List.pairwise_iff_getElem.mp h i j (by omega) hj hij
  rw [List.getD_eq_getElem?_getD, List.getD_eq_getElem?_getD, List.getElem?_eq_getElem hj, List.getElem?_eq_getElem (show i < dv.length by omega)]
  show dv[i] + 1 ≤ dv[j]
  omega
theorem step_inv {p : Pt} (o : Ok p) {c : Int} {s : Nat} {f g : Int × Int} (hc0 : 0 ≤ c) (hc : c ≤ 12) (hs : s ≤ p.dv.length) (hf : FrOk f) (h : M.stepI p.dv c s f = some g) : FrOk g ∧ isFr (frD g) = true := by
  unfold M.stepI at h
  by_cases e1 : s = p.dv.length
  · rw [if_pos e1] at h
    cases h
  rw [if_neg e1] at h
  by_cases e2 : needI p.dv c s f * f.2 ≤ f.1 * p.dv.getD s 0
  · rw [if_pos e2] at h
    cases h
  rw [if_neg e2] at h
  cases h
  have hsl : s < p.dv.length := by omega
  obtain ⟨hd1, hd9⟩ := dv_r o hsl
  have hnn := needI_nn (dv := p.dv) (s := s) (f := f) hc0
  have hp0 := hf.p0
  have hq1 := hf.q1
  have hn : needI p.dv c s f ≤ 12 := by
    cases s with
    | zero => exact hc
    | succ m =>
      rw [needI_s] at e2 hnn ⊢
      have hdm := dv_r o (show m < p.dv.length by omega)
      have hasc := asc_lt o.da (show m < m + 1 by omega) hsl
      generalize p.dv.getD m 0 = d at *
      generalize p.dv.getD (m + 1) 0 = D at *
      -- the ceiling
      have hce : ∃ k : Int, 0 - (0 - f.1 * d).fdiv f.2 = k ∧ (k - 1) * f.2 < f.1 * d := by
        refine ⟨_, rfl, ?_⟩
        have h1 := Int.fmod_add_mul_fdiv (0 - f.1 * d) f.2
        have h2 := Int.fmod_lt_of_pos (0 - f.1 * d) (show 0 < f.2 by omega)
        generalize (0 - f.1 * d).fdiv f.2 = Z at *
        have e3 : (0 - Z - 1) * f.2 = 0 - f.2 * Z - f.2 := by
          rw [Int.sub_mul, Int.sub_mul, Int.mul_comm Z]
          simp
        rw [e3]
        omega
      obtain ⟨k, ek, hk⟩ := hce
      rw [ek] at e2 ⊢
      unfold mx at e2 ⊢
      split
      · rename_i hkc
        rw [if_pos hkc] at e2
        -- f.1 * D ≥ f.1 * d + f.1
        have h1 : f.1 * (d + 1) ≤ f.1 * D := Int.mul_le_mul_of_nonneg_left hasc hp0
        rw [Int.mul_add, Int.mul_one] at h1
        rw [Int.sub_mul, Int.one_mul] at hk
        have h2 : f.1 < f.2 := by omega
        have h3 : f.1 * d < f.2 * 9 + 1 := by
          have a := Int.mul_le_mul_of_nonneg_right (show f.1 ≤ f.2 by omega) (show 0 ≤ d by omega)
          have b := Int.mul_le_mul_of_nonneg_left (show d ≤ 9 by omega) (show 0 ≤ f.2 by omega)
          omega
        have h4 : k * f.2 < 12 * f.2 := by
          have : k * f.2 < f.2 * 9 + 1 + f.2 := by omega
          omega
        have h5 := Int.lt_of_mul_lt_mul_right h4 (by omega)
        omega
      · exact hc
  obtain ⟨G, u, v, hG, hv, h1, h2, e⟩ := low_parts (t := needI p.dv c s f) (b := p.dv.getD s 0) (by omega)
  have hone := low_one (t := needI p.dv c s f) (b := p.dv.getD s 0) (by omega)
  rw [e] at hone ⊢
  have hu0 : 0 ≤ u := by
    rcases Int.lt_or_le u 0 with q | q
    · have := Int.mul_neg_of_pos_of_neg hG q
      omega
    · exact q
  have hu1 : u ≤ G * u := by
    have := Int.mul_le_mul_of_nonneg_right (show 1 ≤ G by omega) hu0
    omega
  have hv1 : v ≤ G * v := by
    have := Int.mul_le_mul_of_nonneg_right (show 1 ≤ G by omega) (Int.le_of_lt hv)
    omega
  refine ⟨⟨hu0, hv, ?_, ?_⟩, ?_⟩
  · show v ≤ 9
    omega
  · show u ≤ 12 * v
    omega
  · show (decide (0 < v) && decide (gcdI u v = 1)) = true
    rw [decide_eq_true hv, decide_eq_true hone]
    rfl
theorem idx_some {ns : List Str} {z : Str} (h : z ∈ ns) : ∃ j, ns.idxOf? z = some j ∧ IsIx ns z j ∧ j < ns.length := by
  unfold List.idxOf?
  cases e : ns.findIdx? (· == z) with
  | none =>
    rw [List.findIdx?_eq_none_iff] at e
    have := e z h
    simp at this
  | some j =>
    obtain ⟨hj, h1, h2⟩ := List.findIdx?_eq_some_iff_getElem.mp e
    refine ⟨j, rfl, ⟨by rw [List.getElem?_eq_getElem hj]; congr 1; simpa using h1, fun m hm e2 => ?_⟩, hj⟩
    have h3 := h2 m hm
    have hml : m < ns.length := by omega
    rw [List.getElem?_eq_getElem hml] at e2
    injection e2 with e2
    rw [e2] at h3
    simp at h3
theorem idx_none {ns : List Str} {z : Str} (h : z ∉ ns) : ns.idxOf? z = none := by
  unfold List.idxOf?
  rw [List.findIdx?_eq_none_iff]
  intro x hx
  have : x ≠ z := fun e => h (e ▸ hx)
  simpa using this
def stepOk (ns : List Str) : PyData → Bool
  | .tuple [.str z, _] => decide (z ∈ ns)
  | _ => false
theorem stepOk_inv {ns : List Str} {d : PyData} (h : stepOk ns d = true) : ∃ z w, d = .tuple [.str z, w] ∧ z ∈ ns := by
  unfold stepOk at h
  split at h
  · exact ⟨_, _, rfl, of_decide_eq_true h⟩
  · cases h
def eqFr (g : Int × Int) : PyData → Bool
  | .tuple [.int a, .int b] => decide (a = g.1 ∧ b = g.2)
  | _ => false
theorem topM_bad {p : Pt} {t : List Nat} {d : PyData} {es : List PyData} {f : Int × Int} (h : stepOk p.names d = false) : topM p t (d :: es) f = none := by
  cases d with
  | tuple ds =>
    match ds, h with
    | [], _ => rfl
    | [a], _ => cases a <;> rfl
    | [a, b], h =>
      cases a with
      | str z =>
        have hz : z ∉ p.names := of_decide_eq_false h
        unfold topM
        rw [idx_none hz]
      | _ => rfl
    | a :: b :: c :: r, _ => cases a <;> rfl
  | _ => rfl
theorem topM_str {p : Pt} {t : List Nat} {z : Str} {w : PyData} {es : List PyData} {f : Int × Int} {j : Nat} (h : p.names.idxOf? z = some j) : topM p t (.tuple [.str z, w] :: es) f = match M.stepI p.dv (p.tl.getD j 0) (t.getD j 0) f with
    | none => none
    | some g => if eqFr g w = true then topM p t es g else none := by
  conv => lhs; unfold topM
  rw [h]
  dsimp only
  cases M.stepI p.dv (p.tl.getD j 0) (t.getD j 0) f with
  | none => rfl
  | some g =>
    dsimp only
    cases w with
    | tuple ds =>
      match ds with
      | [] => rfl
      | [a] => cases a <;> rfl
      | [a, b] =>
        cases a with
        | int x =>
          cases b with
          | int y =>
            by_cases q : x = g.1 ∧ y = g.2
            · have : eqFr g (.tuple [.int x, .int y]) = true := decide_eq_true q
              rw [this]
              simp only [if_pos q]
              rfl
            · have : eqFr g (.tuple [.int x, .int y]) = false := decide_eq_false q
              rw [this]
              simp only [if_neg q]
              rfl
          | _ => rfl
        | _ => rfl
      | a :: b :: c :: r =>
        cases a <;> first | rfl | (cases b <;> rfl)
    | _ => rfl
theorem eqFr_of {g : Int × Int} {w : PyData} (hg : isFr (frD g) = true) (h : isFr w = false) : eqFr g w = false := by
  cases hw : eqFr g w with
  | false => rfl
  | true =>
    unfold eqFr at hw
    split at hw
    · rename_i a b
      have := of_decide_eq_true hw
      obtain ⟨e1, e2⟩ := this
      subst e1 e2
      rw [show PyData.tuple [.int g.1, .int g.2] = frD g from rfl, hg] at h
      cases h
    · cases hw
theorem isFr_inv {w : PyData} (h : isFr w = true) : ∃ a b, w = .tuple [.int a, .int b] := by
  unfold isFr at h
  split at h
  · exact ⟨_, _, rfl⟩
  · cases h
theorem eqFr_eqv {g : Int × Int} {a b : Int} : (!PyData.eqv (.tuple [.int a, .int b]) (frD g)) = (!eqFr g (.tuple [.int a, .int b])) := by
  have := eqv_tupI (xs := [a, b]) (ys := [g.1, g.2])
  show (!PyData.eqv (.tuple ([a, b].map .int)) (.tuple ([g.1, g.2].map .int))) = _
  rw [this]
  congr 1
  show decide ([a, b] = [g.1, g.2]) = decide (a = g.1 ∧ b = g.2)
  simp
theorem stepOk_tup {ns : List Str} {d : PyData} (h : isTupN 2 d = false) : stepOk ns d = false := by
  unfold stepOk
  split
  · cases h
  · rfl
theorem stepOk_str {ns : List Str} {x w : PyData} (h : isStr x = false) : stepOk ns (.tuple [x, w]) = false := by cases x <;> first | rfl | cases h
structure LpOk (a : Pt × List Nat × PyData) : Prop where
  o : Ok a.1
  t : TabOk a.1 a.2.1
  d : Dat a.2.2
theorem tl_at {p : Pt} {j : Nat} {c : Str × Int} (h : p.cl[j]? = some c) : p.tl.getD j 0 = c.2 := by
  unfold Pt.tl
  rw [List.getD_eq_getElem?_getD, List.getElem?_map, h]
  rfl
theorem tab_at {p : Pt} {t : List Nat} (h : TabOk p t) {j : Nat} (hj : j < p.cl.length) : (t.map natD)[j]? = some (natD (t.getD j 0)) ∧ t.getD j 0 ≤ p.dv.length := by
  have hl : j < t.length := by rw [h.len]; exact hj
  have e : t.getD j 0 = t[j] := by
    rw [List.getD_eq_getElem?_getD, List.getElem?_eq_getElem hl]
    rfl
  refine ⟨by rw [List.getElem?_map, List.getElem?_eq_getElem hl, e]; rfl, ?_⟩
  rw [e, ← h.sum]
  exact mem_le_sum (List.getElem_mem hl)
abbrev N_names (S : Sys) : Prop := PrN S.P S.w S.K S.mg S.base S.C 1 "names" (fun p : Pt => [nig p]) (fun p => Ok p) (fun p => p.names)
theorem sc61 : FnScope ["night", "table", "value", "price", "step", "place", "later"] ["night", "table", "value"] (defScope (topS 61)) := ⟨rfl, rfl, rfl, by decide +kernel, rfl, by decide +kernel, by decide +kernel⟩
abbrev T_last_price (S : Sys) : Prop := Kn S.P S.w S.K S.mg S.base 6 "last_price" ["night", "table", "value"] (spF S.K S.C (α := Pt × List Nat × PyData) (fun a => [nig a.1, tabD a.2.1, a.2.2]) (fun a => LpOk a) (fun a => optD frD (top a.1 a.2.1 a.2.2)))
theorem w_last_price {S : Sys} (A : At S.K S.mg "last_price" (topS 61)) (B : Bt S.mg) (g : Gv S.K S.mg) (N : Nc S.K S.C) (n_names : N_names S) (k_divisors : P_divisors S) (k_parties : P_parties S) (k_is_tuple_of : T_is_tuple_of S) (k_step_of : T_step_of S) (k_is_fraction : T_is_fraction S) : T_last_price S := by
  refine kn_F A sc61 (fun _ _ => rfl) (b3 fun _ _ _ _ _ _ _ _ _ => rfl) fun f cdv A outer s H E a hr hp => ?_
  obtain ⟨p, t, v⟩ := a
  have o : Ok p := hp.o
  have ht : TabOk p t := hp.t
  have hv : Dat v := hp.d
  have k_names := n_names.pr
  refine ss_if ?_
  refine et_not ?_
  refine et_v ?_
  refine ef_isTup B ?_
  refine ef_i 2 rfl ?_
  refine ⟨_, rfl, hv.pl, ?_⟩
  refine ⟨_, rfl, ?_⟩
  refine ⟨fun hk => ?_, fun hk => ?_⟩
  ·
    refine ss_retD ?_
    refine ef_non ?_
    refine ⟨_, rfl, ?_⟩
    exact (by cases v <;> first | rfl | cases hk)
  refine ss_nil ?_
  obtain ⟨es, rfl⟩ := isTup_inv (notT hk)
  refine ss_set 3 ?_ rfl sc61.nd
  refine ef_gt g.ZERO ?_
  refine ⟨_, rfl, rfl, ?_⟩
  refine ss_for (ts := [4]) ?_
  refine ei_t ?_
  refine ef_i 2 rfl ?_
  refine ⟨_, rfl, ?_⟩
  refine ⟨(fun i G' => ∃ f : Int × Int, G' = [.imm (nig p), .imm (tabD t), .imm (.tuple es), .imm (frD f), .un, .un, .un] ∧ FrOk f ∧ topM p t es (0, 1) = topM p t (es.drop i) f), ⟨(0, 1), rfl, ⟨by decide, by decide, by decide, by decide⟩, rfl⟩, fun i d G1 hd hP => ?_, fun G1 hP => ?_⟩
  ·
    obtain ⟨f, hP2, hf, hT⟩ := hP
    subst hP2
    have hdd : Dat d := hv.in (List.mem_of_getElem? hd)
    have hdrop : es.drop i = d :: es.drop (i + 1) := by rw [List.drop_eq_getElem_cons (List.getElem?_eq_some_iff.mp hd).1]; rw [(List.getElem?_eq_some_iff.mp hd).2]
    rw [hdrop] at hT
    refine sg_n 4 rfl ?_ sc61.nd
    refine ss_if ?_
    refine et_cut (!stepOk p.names d) ?_ ?_
    ·
      refine et_w ?_
      refine ew_or ?_
      refine et_not ?_
      refine et_v ?_
      refine ef_cF k_is_tuple_of (hr.mono (by omega)) ?_
      refine ea_d ?_
      refine ef_i 4 rfl ?_
      refine ⟨_, rfl, ?_⟩
      refine ea_d ?_
      refine ef_int ?_
      refine ⟨_, rfl, ?_⟩
      refine ea_nil ?_
      refine ⟨(d, 2), rfl, hdd.pl, ?_⟩
      refine ⟨_, rfl, ?_⟩
      refine ⟨fun hk => ?_, fun hk => ?_⟩
      · exact ⟨(by rw [stepOk_tup (notF hk)]; rfl), rfl⟩
      refine ew_or ?_
      refine et_not ?_
      refine et_v ?_
      refine ef_isStr B ?_
      refine ef_ixT ?_
      refine ef_i 4 rfl ?_
      refine ⟨_, rfl, ?_⟩
      refine ef_int ?_
      obtain ⟨x, w, rfl⟩ := tup2 hk
      have hx : Dat x := hdd.in (by simp)
      have hw : Dat w := hdd.in (by simp)
      refine ⟨_, _, _, rfl, rfl, (atI_of (i := 0) rfl), ?_⟩
      refine ⟨_, rfl, hx.pl, ?_⟩
      refine ⟨_, rfl, ?_⟩
      refine ⟨fun hk => ?_, fun hk => ?_⟩
      · exact ⟨(by rw [stepOk_str (notF hk)]; rfl), rfl⟩
      obtain ⟨z, rfl⟩ := isStr_inv (notT hk)
      refine ew_one_or ?_
      refine et_c ?_
      refine ec_notIn ?_
      refine ef_ixT ?_
      refine ef_i 4 rfl ?_
      refine ⟨_, rfl, ?_⟩
      refine ef_int ?_
      refine ⟨_, _, _, rfl, rfl, (atI_of (i := 0) rfl), ?_⟩
      refine ⟨_, rfl, ?_⟩
      refine ef_prop N k_names (hr.mono (by omega)) ?_
      refine ef_i 0 rfl ?_
      refine ⟨p, _, _, _, rfl, rfl, o, ?_⟩
      refine ⟨_, _, rfl, .inr rfl, ?_⟩
      refine ⟨_, rfl, ?_⟩
      exact ⟨rfl, rfl⟩
    refine ⟨fun hk => ?_, fun hk => ?_⟩
    ·
      refine ss_retD ?_
      refine ef_non ?_
      refine ⟨_, rfl, ?_⟩
      exact (by show PyData.none = optD frD (topM p t es (0, 1)); rw [hT, topM_bad (notF hk)]; rfl)
    refine ss_nil ?_
    obtain ⟨z, w, rfl, hz⟩ := stepOk_inv (notT hk)
    have hw : Dat w := hdd.in (by simp)
    obtain ⟨j, hj, hix, hjl⟩ := idx_some hz
    have hjc : j < p.cl.length := by simpa [Pt.names] using hjl
    obtain ⟨c, hc⟩ : ∃ c, p.cl[j]? = some c := ⟨p.cl[j], List.getElem?_eq_getElem hjc⟩
    obtain ⟨htab, htl⟩ := tab_at ht hjc
    refine ss_set 5 ?_ rfl sc61.nd
    refine ef_pix N n_names (hr.mono (by omega)) ?_
    refine ef_i 0 rfl ?_
    refine ⟨p, _, _, _, rfl, rfl, o, ?_⟩
    refine ef_ixT ?_
    refine ef_i 4 rfl ?_
    refine ⟨_, rfl, ?_⟩
    refine ef_int ?_
    refine ⟨_, _, _, rfl, rfl, (atI_of (i := 0) rfl), ?_⟩
    refine ⟨_, _, rfl, hix, ?_⟩
    refine ⟨_, rfl, rfl, ?_⟩
    refine ss_set 6 ?_ rfl sc61.nd
    refine ef_cF k_step_of (hr.mono (by omega)) ?_
    refine ea_d ?_
    refine ef_prop N k_divisors (hr.mono (by omega)) ?_
    refine ef_i 0 rfl ?_
    refine ⟨p, _, _, _, rfl, rfl, o, ?_⟩
    refine ⟨_, rfl, ?_⟩
    refine ea_d ?_
    refine ef_ixT ?_
    refine ef_ixT ?_
    refine ef_prop N k_parties (hr.mono (by omega)) ?_
    refine ef_i 0 rfl ?_
    refine ⟨p, _, _, _, rfl, rfl, o, ?_⟩
    refine ⟨_, rfl, ?_⟩
    refine ef_i 5 rfl ?_
    refine ⟨_, _, _, rfl, rfl, (atI_of (by rw [List.getElem?_map, hc]; rfl)), ?_⟩
    unfold ptyD
    refine ⟨_, rfl, ?_⟩
    refine ef_int ?_
    refine ⟨_, _, _, rfl, rfl, (atI_of (i := 1) rfl), ?_⟩
    refine ⟨_, rfl, ?_⟩
    refine ea_d ?_
    refine ef_ixT ?_
    refine ef_i 1 rfl ?_
    refine ⟨_, rfl, ?_⟩
    refine ef_i 5 rfl ?_
    refine ⟨_, _, _, rfl, rfl, (atI_of htab), ?_⟩
    refine ⟨_, rfl, ?_⟩
    refine ea_d ?_
    refine ef_i 3 rfl ?_
    refine ⟨_, rfl, ?_⟩
    refine ea_nil ?_
    refine ⟨(p, c.2, t.getD j 0, f), rfl, ⟨o, (o.ct c (List.mem_of_getElem? hc)).1, htl, hf⟩, ?_⟩
    dsimp only
    generalize hs : M.stepI p.dv c.2 (t.getD j 0) f = sI
    refine ⟨_, rfl, rfl, ?_⟩
    refine ss_if ?_
    refine et_cut (match sI with | none => true | some g => !eqFr g w) ?_ ?_
    ·
      refine et_w ?_
      refine ew_or ?_
      refine et_c ?_
      refine ec_isN ?_
      refine ef_i 6 rfl ?_
      refine ⟨_, rfl, ?_⟩
      refine ⟨_, rfl, ?_⟩
      refine ⟨fun hk => ?_, fun hk => ?_⟩
      · exact ⟨(by cases sI with | none => rfl | some g => cases hk), rfl⟩
      obtain ⟨g, rfl⟩ : ∃ g, sI = some g := by cases sI with | none => cases hk | some g => exact ⟨g, rfl⟩
      obtain ⟨hgo, hgf⟩ := step_inv o (o.ct c (List.mem_of_getElem? hc)).1 (o.ct c (List.mem_of_getElem? hc)).2 htl hf hs
      refine ew_or ?_
      refine et_not ?_
      refine et_v ?_
      refine ef_cF k_is_fraction (hr.mono (by omega)) ?_
      refine ea_d ?_
      refine ef_ixT ?_
      refine ef_i 4 rfl ?_
      refine ⟨_, rfl, ?_⟩
      refine ef_int ?_
      refine ⟨_, _, _, rfl, rfl, (atI_of (i := 1) rfl), ?_⟩
      refine ⟨_, rfl, ?_⟩
      refine ea_nil ?_
      refine ⟨w, rfl, hw, ?_⟩
      refine ⟨_, rfl, ?_⟩
      refine ⟨fun hk => ?_, fun hk => ?_⟩
      · exact ⟨(by show true = !eqFr g w; rw [eqFr_of hgf (notF hk)]; rfl), rfl⟩
      obtain ⟨x, y, rfl⟩ := isFr_inv (notT hk)
      refine ew_one_or ?_
      refine et_c ?_
      refine ec_neD hr ?_
      refine ef_ixT ?_
      refine ef_i 4 rfl ?_
      refine ⟨_, rfl, ?_⟩
      refine ef_int ?_
      refine ⟨_, _, _, rfl, rfl, (atI_of (i := 1) rfl), ?_⟩
      refine ⟨trivial, ?_⟩
      refine ef_i 6 rfl ?_
      refine ⟨_, _, rfl, rfl, cmp_ints (xs := [x, y]), cmp_ints (xs := [g.1, g.2]), ?_⟩
      refine ⟨_, rfl, ?_⟩
      exact ⟨(by exact eqFr_eqv.symm ▸ rfl), rfl⟩
    refine ⟨fun hk => ?_, fun hk => ?_⟩
    ·
      refine ss_retD ?_
      refine ef_non ?_
      refine ⟨_, rfl, ?_⟩
      exact (by show PyData.none = optD frD (topM p t es (0, 1)); rw [hT, topM_str hj, tl_at hc, hs]; cases sI with | none => rfl | some g => (dsimp only; rw [if_neg (by rw [notF hk]; decide)]; rfl))
    refine ss_nil ?_
    obtain ⟨g, rfl⟩ : ∃ g, sI = some g := by cases sI with | none => cases hk | some g => exact ⟨g, rfl⟩
    obtain ⟨hgo, hgf⟩ := step_inv o (o.ct c (List.mem_of_getElem? hc)).1 (o.ct c (List.mem_of_getElem? hc)).2 htl hf hs
    refine ss_set 3 ?_ rfl sc61.nd
    refine ef_i 6 rfl ?_
    refine ⟨_, rfl, rfl, ?_⟩
    refine ss_fgt [4, 5, 6] rfl (ss_nil ?_)
    exact ⟨g, rfl, hgo, by rw [hT, topM_str hj, tl_at hc, hs]; dsimp only; rw [if_pos (notT hk)]⟩
  obtain ⟨f, hP2, hf, hT⟩ := hP
  subst hP2
  refine ss_retD ?_
  refine ef_i 3 rfl ?_
  refine ⟨_, rfl, ?_⟩
  exact (by show frD f = optD frD (topM p t es (0, 1)); rw [hT, List.drop_length]; rfl)
end W
/-! DL7: pure comprehensions, own defs called, own defs kept. -/
namespace DL
open PySem PySem.Spec PyProof.Rows L2

section
variable {C : Addr} {X : Cx} {G G' : Ga} {T : Es} {Q : Vl → Ga → Prop} {O O' : List Addr} {σ σ' : L2.St} {H H' : Hp}
variable {x y z : Str} {pos pos' p pt pa pb pc : Pos} {a b e c tg iter elt : Expr} {es : List Expr} {st : Stmt} {rest body b1 b2 : List Stmt} {scope : Scope}


/-- a reading that is met -/
def EL (C : Addr) (X : Cx) (t : TE) (G : Ga) (Q : Vl → Ga → Prop) : Prop := ∀ (O : List Addr) (σ : L2.St) (H : Hp), Env X.K C O H σ G → ∀ Q' : VK, Co C X σ G O H Q Q' → t σ H Q'
def tLcX (X : Cx) (scope : Scope) (tg iter : Expr) (ifs : List Expr) (elt : Expr) (own : List (Str × Nat)) : TE := tLc (tI X tg iter) (bG X scope tg) (tTs X scope ifs) (bE X scope elt) (own.map (·.2))
theorem el_lc {ifs : List Expr} {ts : List Nat} (own : List (Str × Nat)) (ok : blkC X.N X.env.scope scope own = true) (hN : X.N.Nodup)
    (h : Ei C X tg iter G fun ds G1 => okWipe G1 (own.map (·.2)) = true ∧ ds.length ≤ 100000 ∧ (∀ t ∈ ts, t ∈ own.map (·.2)) ∧ ∃ P : Nat → List PyData → Ga → Prop, P 0 [] (wipeG G1 (own.map (·.2))) ∧
      (∀ i d acc G', ds[i]? = some d → P i acc G' → ∀ s H0 Cc cl fp, Sg C (blkX X scope s H0 Cc cl fp) tg d G' ts fun G2 => ETs C X scope ifs G2 fun k G3 =>
        (k = true → ∀ s H0 Cc cl fp, Ef C (blkX X scope s H0 Cc cl fp) elt G3 fun v G4 => ∃ d', v = .d d' ∧ P (i + 1) (acc ++ [d']) (wipeG G4 (own.map (·.2)))) ∧ (k = false → P (i + 1) acc (wipeG G3 (own.map (·.2))))) ∧
      ∀ acc G', P ds.length acc G' → Q (.d (.list acc)) G')
    : EL C X (tLcX X scope tg iter ifs elt own) G Q := by
  intro O σ H E Q' q
  refine h O σ H E _ fun J ds G1 H1 E1 K1 ⟨Gd, Y, W, hG, hY⟩ ⟨okw, hlen, hts, P, p0, ps, pd⟩ => ?_
  intro D hD
  generalize own.map (·.2) = vs at *
  have fresh : ¬ Ow (wipe σ vs) (wipeG G1 vs) D := fun z => by
    obtain ⟨xs, e⟩ := E1.wo D (E1.ow_mem (Ow.of_wipe z))
    rw [hD] at e
    cases e
  have un1 : ∀ j ∈ vs, ∀ s, (wipeG G1 vs)[j]? = some s → s = .un := fun j hj s e => wipeG_in G1 hj e
  refine lc_it W (fun i H' => Cst X C vs O H1 σ G1 D P i H') ?_ (fun i H' _ ⟨G', acc, xs, E', K', _⟩ => hG (D :: O) H' ⟨fun a o e n => K'.obj a o e fun z => n (E1.ow_mem (Ow.of_wipe z)), K'.new⟩) (fun i v H' H2 hi ⟨G', acc, xs, E', K', hd', ra, hl, un, nO, hp⟩ y => ?_) fun H' ⟨G', acc, xs, E', K', hd', ra, hl, un, nO, hp⟩ => ?_
  · refine ⟨wipeG G1 vs, [], [], E1.inBlk hD, ?_, upd_same, .nil, Nat.le_refl _, un1, fresh, p0⟩
    exact ⟨fun a o e _ => same_new hD a o e, fun a m _ => List.mem_cons_of_mem _ m, fun a m => by
      rcases List.mem_cons.mp m with z | z
      · exact .inr (by rw [z]; exact hD)
      · exact .inl z, fun a z => .inl z, fun a z z' => by
      by_cases e : a = D
      · rw [e, upd_same] at z'
        cases z'
      · rw [upd_ne e] at z'
        exact z z', fun j us e => ⟨rfl, us, e⟩⟩
  · have kk : Keep O H1 (D :: O) H' := ⟨fun a o e n => K'.obj a o e fun z => n (E1.ow_mem (Ow.of_wipe z)), K'.new⟩
    obtain ⟨k2, d, hd, rd⟩ := hY i H' v H2 (D :: O) hi kk E'.wo y
    have E2 := E'.ext k2
    intro s H0 Cc cl fp
    refine ps i d acc G' hd hp s H0 Cc cl fp (D :: O) (wipe σ vs) H2 v E2 rd _ fun σ3 G3 f3 E3 K3 hb => ?_
    have sl : wipe σ3 vs = wipe σ vs := wipe_eq (f3.1.trans (wipe_length σ vs)) f3.2 hts
    have K2 : Kp (wipe σ vs) G' (D :: O) H' σ3 G3 (D :: O) H2 := (Kp.ext k2).trans K3 E'
    have KA : Kp (wipe σ vs) (wipeG G1 vs) O H1 σ3 G3 (D :: O) H2 := (K'.trans K2 E1.wiped)
    refine ⟨sl, ?_⟩
    refine ETs.go hb E3 fun k G4 H4 E4 K4 ⟨g1, g0⟩ => ?_
    have K5 : Kp (wipe σ vs) G' (D :: O) H' σ3 G4 (D :: O) H4 := K2.trans K4 E'
    have KB : Kp (wipe σ vs) (wipeG G1 vs) O H1 σ3 G4 (D :: O) H4 := KA.trans K4 E1.wiped
    have back : ∀ {G6 : Ga} {H6 : Hp} {ys : List V} {ac : List PyData}, Env X.K C (D :: O) H6 σ3 G6 → Kp (wipe σ vs) G' (D :: O) H' σ3 G6 (D :: O) H6 → Kp (wipe σ vs) (wipeG G1 vs) O H1 σ3 G6 (D :: O) H6 → RepAll X.K C (D :: O) H6 ys ac → ac.length ≤ i + 1 → P (i + 1) ac (wipeG G6 vs) →
        Cst X C vs O H1 σ G1 D P (i + 1) (upd H6 D (.lst ys)) := fun {G6 H6 ys ac} E6 K6 KC rr hl6 hp6 => by
      have nD : ¬ Ow σ3 G6 D := fun z => (K6.own D z).elim nO fun q => by
        rw [hd'] at q
        cases q
      have nD2 : ¬ Ow (wipe σ vs) (wipeG G6 vs) D := fun z => nD (Ow.of_wipe (sl ▸ z))
      have E7 : Env X.K C (D :: O) H6 (wipe σ vs) (wipeG G6 vs) := by
        have := E6.wiped (vs := vs)
        rw [sl] at this
        exact this
      have K7 : Kp (wipe σ vs) (wipeG G1 vs) O H1 (wipe σ vs) (wipeG G6 vs) (D :: O) H6 := by
        have := KC.wiped (vs := vs) un1 (by rw [sl]; exact (wipe_eq (wipe_length σ vs) (ts := []) (fun _ _ => rfl) (fun t ht => by cases ht)).symm)
        rw [sl] at this
        exact this
      refine ⟨wipeG G6 vs, ac, ys, E7.wrX List.mem_cons_self nD2, ⟨fun a o e n => ?_, K7.stay, K7.new, K7.own, fun a z q => ?_, K7.urn⟩, upd_same, rr.keep ⟨fun b o e n => by rw [upd_ne (fun z => n (by rw [z]; exact List.mem_cons_self))]; exact e, fun b h => .inl h⟩ E7.wo, hl6, fun j hj s e => wipeG_in G6 hj e, nD2, hp6⟩
      · rw [upd_ne (ne_of_none e hD)]
        exact K7.obj a o e n
      · by_cases e : a = D
        · rw [e, upd_same] at q
          cases q
        · rw [upd_ne e] at q
          exact K7.there a z q
    have hD4 : ∀ {G6 : Ga} {H6 : Hp}, Kp (wipe σ vs) G' (D :: O) H' σ3 G6 (D :: O) H6 → H6 D = some (.lst xs) := fun {G6 H6} K6 => K6.obj D _ hd' nO
    have ra4 : ∀ {G6 : Ga} {H6 : Hp}, Kp (wipe σ vs) G' (D :: O) H' σ3 G6 (D :: O) H6 → RepAll X.K C (D :: O) H6 xs acc := fun {G6 H6} K6 => ra.keep (K6.keep E') E'.wo
    cases k with
    | false =>
      refine iteF ?_
      have z := back E4 K5 KB (ra4 K5) (Nat.le_succ_of_le hl) (g0 rfl)
      have e : upd H4 D (.lst xs) = H4 := by
        funext b
        by_cases hb' : b = D
        · rw [hb', upd_same, hD4 K5]
        · rw [upd_ne hb']
      rw [e] at z
      exact z
    | true =>
      refine iteT ?_
      intro s' H0' Cc' cl' fp'
      refine g1 rfl s' H0' Cc' cl' fp' (D :: O) σ3 H4 E4 _ fun y vl G6 H6 E6 K6 R6 ⟨d', e6, hp6⟩ => ?_
      subst e6
      have K7 := K5.trans K6 E'
      refine ⟨xs, hD4 K7, sz' _ ?_, back E6 K7 (KB.trans K6 E1.wiped) ((ra4 K7).append (.cons R6 .nil)) (by simp; omega) hp6⟩
      rw [ra.1]
      omega
  · have nD := nO
    have E5 : Env X.K C O H' σ G' := by
      refine ⟨?_, fun j s h => ?_, fun j k s t ds es b g1 g2 g3 g4 g5 g6 => ?_, fun b hb => E'.wo b (List.mem_cons_of_mem _ hb)⟩
      · have := E'.len
        rw [wipe_length] at this
        exact this
      · by_cases hj : j ∈ vs
        · rw [un j hj s h]
          have hlt : j < σ.length := by
            have := (List.getElem?_eq_some_iff.mp h).1
            have e := E'.len
            rw [wipe_length] at e
            omega
          exact ⟨_, List.getElem?_eq_getElem hlt, trivial⟩
        · obtain ⟨o, g1, g2⟩ := E'.sl j s h
          rw [wipe_at σ hj] at g1
          refine ⟨o, g1, ?_⟩
          have ne : ∀ {b : Addr} {us : List PyData}, o = some (.ref b) → s.held = some us → b ≠ D := fun {b us} e1 e2 e3 => by
            subst e1 e3
            exact nO ⟨j, s, us, by rw [wipe_at σ hj]; exact g1, h, e2⟩
          have sub : ∀ b, b ∈ O → b ∈ D :: O := fun b => List.mem_cons_of_mem _
          cases s with
          | un => trivial
          | imm d =>
            obtain ⟨v, q1, q2⟩ := g2
            exact ⟨v, q1, q2.less sub⟩
          | own us =>
            obtain ⟨b, ys, q1, q2, q3, q4⟩ := g2
            exact ⟨b, ys, q1, (List.mem_cons.mp q2).resolve_left (ne q1 rfl), q3, q4.less sub⟩
          | urn us =>
            obtain ⟨b, ys, q1, q2, q3, q4⟩ := g2
            exact ⟨b, ys, q1, (List.mem_cons.mp q2).resolve_left (ne q1 rfl), q3, q4.less sub⟩
      · have n1 : j ∉ vs := fun z => by
          rw [un j z s g3] at g5
          cases g5
        have n2 : k ∉ vs := fun z => by
          rw [un k z t g4] at g6
          cases g6
        exact E'.dj j k s t ds es b (by rw [wipe_at σ n1]; exact g1) (by rw [wipe_at σ n2]; exact g2) g3 g4 g5 g6
    have back : ∀ {a : Addr}, Ow σ G' a → Ow (wipe σ vs) G' a := fun {a} ⟨j, s, us, g1, g2, g3⟩ => by
      have n1 : j ∉ vs := fun z => by
        rw [un j z s g2] at g3
        cases g3
      exact ⟨j, s, us, by rw [wipe_at σ n1]; exact g1, g2, g3⟩
    have K5 : Kp σ G1 O H1 σ G' O H' := by
      refine ⟨fun a o e n => K'.obj a o e fun z => n (Ow.of_wipe z), fun a m n => m, fun a m => .inl m, fun a z => (K'.own a (back z)).imp (fun z => Ow.of_wipe z) id, K'.there, fun j us e => ?_⟩
      have n1 : j ∉ vs := fun z => by
        have := okWipe_held okw z e
        cases this
      obtain ⟨_, ds', e'⟩ := K'.urn j us (by rw [wipeG_at G1 n1]; exact e)
      exact ⟨rfl, ds', e'⟩
    refine Co.at (Co.step q E (K1.trans K5 E)) E5 (.lstAll hd' (fun m => ?_) (ra.less fun b => List.mem_cons_of_mem _)) (pd acc G' hp)
    obtain ⟨ys, e⟩ := E1.wo D m
    rw [hD] at e
    cases e
theorem el_lcP {ifs : List Expr} {ts : List Nat} (own : List (Str × Nat)) (f : PyData → PyData) (pr : PyData → Bool) (ok : blkC X.N X.env.scope scope own = true) (hN : X.N.Nodup)
    (h : Ei C X tg iter G fun ds G1 => okWipe G1 (own.map (·.2)) = true ∧ ds.length ≤ 100000 ∧ (∀ t ∈ ts, t ∈ own.map (·.2)) ∧
      (∀ d ∈ ds, ∀ s H0 Cc cl fp, Sg C (blkX X scope s H0 Cc cl fp) tg d (wipeG G1 (own.map (·.2))) ts fun G2 => ETs C X scope ifs G2 fun k G3 =>
        k = pr d ∧ G3 = G2 ∧ wipeG G2 (own.map (·.2)) = wipeG G1 (own.map (·.2)) ∧ (k = true → ∀ s H0 Cc cl fp, Ef C (blkX X scope s H0 Cc cl fp) elt G2 fun v G4 => v = .d (f d) ∧ G4 = G2)) ∧
      Q (.d (.list ((ds.filter pr).map f))) (wipeG G1 (own.map (·.2))))
    : EL C X (tLcX X scope tg iter ifs elt own) G Q := by
  refine el_lc (ts := ts) own ok hN ?_
  intro O σ H E R q
  refine h O σ H E R fun J ds G1 H1 E1 K1 W ⟨h1, h2, h3, h4, h5⟩ => q J ds G1 H1 E1 K1 W ⟨h1, h2, h3, fun i acc G' => G' = wipeG G1 (own.map (·.2)) ∧ acc = ((ds.take i).filter pr).map f, ⟨rfl, by simp⟩, fun i d acc G' hd ⟨e1, e2⟩ s H0 Cc cl fp => ?_, fun acc G' ⟨e1, e2⟩ => ?_⟩
  · subst e1
    have hm : d ∈ ds := List.mem_of_getElem? hd
    have tk : ds.take (i + 1) = ds.take i ++ [d] := by rw [List.take_add_one, hd]; rfl
    intro O2 σ2 H2 v E2 r2 Q' k2
    refine h4 d hm s H0 Cc cl fp O2 σ2 H2 v E2 r2 Q' fun σ3 G3 f3 E3 K3 hb => k2 σ3 G3 f3 E3 K3 ?_
    have fin : ∀ (k : Bool) (G3' : Ga), (k = pr d ∧ G3' = G3 ∧ wipeG G3 (own.map (·.2)) = wipeG G1 (own.map (·.2)) ∧ (k = true → ∀ s H0 Cc cl fp, Ef C (blkX X scope s H0 Cc cl fp) elt G3 fun v G4 => v = .d (f d) ∧ G4 = G3)) →
        (k = true → ∀ s H0 Cc cl fp, Ef C (blkX X scope s H0 Cc cl fp) elt G3' fun v G4 => ∃ d', v = .d d' ∧ wipeG G4 (own.map (·.2)) = wipeG G1 (own.map (·.2)) ∧ acc ++ [d'] = ((ds.take (i + 1)).filter pr).map f) ∧ (k = false → wipeG G3' (own.map (·.2)) = wipeG G1 (own.map (·.2)) ∧ acc = ((ds.take (i + 1)).filter pr).map f) := by
      rintro k G3' ⟨ek, eG, ew, hh⟩
      subst eG
      refine ⟨fun kt s H0 Cc cl fp => (hh kt s H0 Cc cl fp).mono fun v G4 ⟨e3, e4⟩ => ⟨f d, e3, by rw [e4]; exact ew, ?_⟩, fun kf => ⟨ew, ?_⟩⟩
      · rw [e2, tk, List.filter_append, List.map_append, List.filter_cons, if_pos (by rw [← ek]; exact kt)]
        rfl
      · rw [e2, tk, List.filter_append, List.map_append, List.filter_cons, if_neg (by rw [← ek, kf]; decide)]
        simp
    match ifs, hb with
    | [], hb => exact fin true G3 hb
    | [c], hb => exact fun s H0 Cc cl fp O4 σ4 H4 E4 Q4 k4 => hb s H0 Cc cl fp O4 σ4 H4 E4 Q4 fun b G' H' E' K' z => k4 b G' H' E' K' (fin b G' z)
    | _ :: _ :: _, hb => exact hb.elim
  · subst e1 e2
    rw [List.take_length]
    exact h5
/-- .. without tests -/
theorem el_lcM {ts : List Nat} (own : List (Str × Nat)) (f : PyData → PyData) (ok : blkC X.N X.env.scope scope own = true) (hN : X.N.Nodup)
    (h : Ei C X tg iter G fun ds G1 => okWipe G1 (own.map (·.2)) = true ∧ ds.length ≤ 100000 ∧ (∀ t ∈ ts, t ∈ own.map (·.2)) ∧
      (∀ d ∈ ds, ∀ s H0 Cc cl fp, Sg C (blkX X scope s H0 Cc cl fp) tg d (wipeG G1 (own.map (·.2))) ts fun G2 =>
        wipeG G2 (own.map (·.2)) = wipeG G1 (own.map (·.2)) ∧ ∀ s H0 Cc cl fp, Ef C (blkX X scope s H0 Cc cl fp) elt G2 fun v G4 => v = .d (f d) ∧ G4 = G2) ∧
      Q (.d (.list (ds.map f))) (wipeG G1 (own.map (·.2))))
    : EL C X (tLcX X scope tg iter [] elt own) G Q := by
  refine el_lcP (ts := ts) own f (fun _ => true) ok hN ?_
  intro O σ H E R q
  refine h O σ H E R fun J ds G1 H1 E1 K1 W ⟨h1, h2, h3, h4, h5⟩ => q J ds G1 H1 E1 K1 W ⟨h1, h2, h3, fun d hd s H0 Cc cl fp => ?_, ?_⟩
  · intro O2 σ2 H2 v E2 r2 Q' k2
    exact h4 d hd s H0 Cc cl fp O2 σ2 H2 v E2 r2 Q' fun σ3 G3 f3 E3 K3 hb => k2 σ3 G3 f3 E3 K3 ⟨rfl, rfl, hb.1, fun _ => hb.2⟩
  · have : ds.filter (fun _ => true) = ds := by simp
    rw [this]
    exact h5

/-- x = [.. for ..] -/
theorem ss_lc (i : Nat) {ifs : List Expr} (own : List (Str × Nat)) (ok : blkC X.N X.env.scope scope own = true) (hN : X.N.Nodup) (h : EL C X (tLcX X scope tg iter ifs elt own) G fun v G1 => ∃ d, v = .d d ∧ okSet G1 i = true ∧ SS C X rest (G1.set i (.imm d)) T) (hi : X.N[i]? = some x := by rfl)
    (hx : X.env.scope.names.lookup x = some .local := by rfl) (hs : swapsWith (.ListComp elt [⟨tg, iter, ifs, 0⟩] scope pa) (some (.Name x pos')) pos.line X.env = pure true := by rfl) (hc : X.calm = true := by rfl) (hf : ∀ x, foldedSetIterable iter X.env x = pure x := by intro _; rfl) :
    SS C X (.Assign [.Name x pos'] (.ListComp elt [⟨tg, iter, ifs, 0⟩] scope pa) pos :: rest) G T :=
  ss_cons (ps_setLc hc hN hi hx hs (pi_W tg iter) (blkOk_by ok) (pg_bG tg) (pts_bT ifs) (pe_bE elt) hf) fun O σ H E D kN kR kB kJ => h O σ H E _ fun v vl G1 H1 E1 K1 R1 ⟨d, e1, o1, q⟩ => by
    subst e1
    exact kN O _ _ H1 (E1.setD R1) (K1.trans (Kp.setD o1) E) q
end
end DL
/-! W11: bars -/
namespace W
open PySem PySem.Spec PyProof.Rows L2 DL M

def pr2 : PyData → PyData
  | .tuple [_, b] => b
  | _ => .none
theorem bar_bad {p : Pt} {t : List Nat} {v : PyData} (h : isTupN 2 v = false) : barDue p t v = false := by
  unfold barDue
  split
  · cases h
  · rfl
theorem pr2_bad {v : PyData} (h : isTupN 2 v = false) : pr2 v = .none := by
  unfold pr2
  split
  · cases h
  · rfl
def inF2 (ss : List Str) : PyData → Bool
  | .tuple [_, .str z] => decide (z ∈ ss)
  | _ => false
def plF : PyData → PyData
  | .tuple [a, _] => a
  | _ => .none
/-- the places of a group -/
def places (p : Pt) (ss : List Str) : List Nat := (List.range p.names.length).filter fun i => decide (p.names.getD i "" ∈ ss)
theorem places_eq (p : Pt) (ss : List Str) : ((enumD (p.names.map PyData.str)).filter (inF2 ss)).map plF = (places p ss).map natD := by
  have e : enumD (p.names.map PyData.str) = (List.range p.names.length).map fun i => PyData.tuple [natD i, .str (p.names.getD i "")] := by
    apply List.ext_getElem?
    intro i
    by_cases h : i < p.names.length
    · have h1 : (p.names.map PyData.str)[i]? = some (.str (p.names.getD i "")) := by
        rw [List.getElem?_map, List.getElem?_eq_getElem h, List.getD_eq_getElem?_getD, List.getElem?_eq_getElem h]
        rfl
      rw [enumD_get h1, List.getElem?_map, List.getElem?_range h]
      rfl
    · rw [List.getElem?_eq_none (by rw [enumD_len, List.length_map]; omega), List.getElem?_eq_none (by simp; omega)]
  rw [e, List.filter_map, List.map_map]
  unfold places
  rfl
theorem places_lt {p : Pt} {ss : List Str} {i : Nat} (h : i ∈ places p ss) : i < p.cl.length := by
  have := List.mem_range.mp (List.mem_filter.mp h).1
  simpa [Pt.names] using this
theorem enum_in {zs : List Str} {d : PyData} (h : d ∈ enumD (zs.map PyData.str)) : ∃ (i : Nat) (z : Str), d = .tuple [.int (i : Int), .str z] := by
  obtain ⟨i, hi⟩ := List.mem_iff_getElem?.mp h
  obtain ⟨e, h1, rfl⟩ := enumD_inv hi
  rw [List.getElem?_map] at h1
  obtain ⟨z, _, rfl⟩ := Option.map_eq_some_iff.mp h1
  exact ⟨i, z, rfl⟩
theorem gang_inv {p : Pt} {v : PyData} (h : (gang p v).isSome = true) : ∃ ss, gang p v = some ss ∧ v = .tuple (ss.map .str) ∧ ∀ z ∈ ss, z ∈ p.names := by
  cases e : gang p v with
  | none =>
    rw [e] at h
    cases h
  | some ss =>
    refine ⟨ss, rfl, ?_⟩
    cases hb : bl0 v with
    | false =>
      rw [bl0_not hb] at e
      cases e
    | true =>
      obtain ⟨zs, rfl, hne⟩ := bl0_inv hb
      rw [gang_t, strsOf_map] at e
      dsimp only at e
      by_cases q : zs ≠ [] ∧ (∀ z ∈ zs, z ∈ p.names) ∧ ascS zs = true
      · rw [if_pos q] at e
        cases e
        exact ⟨rfl, q.2.1⟩
      · rw [if_neg q] at e
        cases e
def lkF (ls : List Int) : PyData → Int
  | .int i => ls.getD i.toNat 0
  | _ => 0
theorem lacks_at' (p : Pt) (t : List Nat) (f : Int × Int) (h : t.length = p.cl.length) {i : Nat} (hi : i < p.cl.length) : ((lacks p t f).map PyData.int)[i]? = some (.int ((lacks p t f).getD i 0)) := by
  have hl : i < (lacks p t f).length := by
    unfold lacks
    rw [List.length_map, List.length_zip]
    omega
  rw [List.getElem?_map, List.getElem?_eq_getElem hl, List.getD_eq_getElem?_getD, List.getElem?_eq_getElem hl]
  rfl
theorem sum_places (ss : List Str) (g : (Str × Int) × Nat → Int) : ∀ (cl : List (Str × Int)) (t : List Nat), t.length = cl.length →
    (((List.range cl.length).filter fun i => decide ((cl.map Prod.fst).getD i "" ∈ ss)).map fun i => ((cl.zip t).map g).getD i 0).sum = (((cl.zip t).filter fun q => decide (q.1.1 ∈ ss)).map g).sum
  | [], _, _ => rfl
  | c :: cl, [], h => by simp at h
  | c :: cl, n :: t, h => by
    have ih := sum_places ss g cl t (by simpa using h)
    rw [List.length_cons, List.range_succ_eq_map, List.filter_cons, List.zip_cons_cons, List.filter_cons]
    have e1 : ((List.map Nat.succ (List.range cl.length)).filter fun i => decide (((c :: cl).map Prod.fst).getD i "" ∈ ss)) = ((List.range cl.length).filter fun i => decide ((cl.map Prod.fst).getD i "" ∈ ss)).map Nat.succ := by
      rw [List.filter_map]
      rfl
    rw [e1]
    have e2 : (((List.range cl.length).filter fun i => decide ((cl.map Prod.fst).getD i "" ∈ ss)).map Nat.succ).map (fun i => (((c, n) :: cl.zip t).map g).getD i 0) = ((List.range cl.length).filter fun i => decide ((cl.map Prod.fst).getD i "" ∈ ss)).map fun i => ((cl.zip t).map g).getD i 0 := by
      rw [List.map_map]
      rfl
    have e3 : decide (((c :: cl).map Prod.fst).getD 0 "" ∈ ss) = decide (c.1 ∈ ss) := rfl
    rw [e3]
    by_cases q : c.1 ∈ ss
    · rw [if_pos (by simpa using q), if_pos (by simpa using q), List.map_cons, List.sum_cons, e2, ih, List.map_cons]
      rfl
    · rw [if_neg (by simpa using q), if_neg (by simpa using q), e2, ih]
theorem sum_fin (p : Pt) (t : List Nat) (f : Int × Int) (ss : List Str) (h : t.length = p.cl.length) : ((((places p ss).map natD)).map (lkF (lacks p t f))).sum = lackOf p t f ss := by
  rw [List.map_map]
  have := sum_places ss (fun q => needI p.dv q.1.2 q.2 f - q.1.2) p.cl t h
  unfold lackOf
  rw [← this]
  unfold places Pt.names
  rw [List.length_map]
  rfl
theorem given_places {p : Pt} {ss : List Str} (h : ∀ z ∈ ss, z ∈ p.names) : given p (grp p (places p ss)) = given p ss := by
  unfold given
  congr 2
  apply List.filter_congr
  intro hp _
  rw [Bool.eq_iff_iff, List.any_eq_true, List.any_eq_true]
  constructor
  · rintro ⟨z, hz, h2⟩
    obtain ⟨i, hi, rfl⟩ := List.mem_map.mp hz
    exact ⟨_, of_decide_eq_true (List.mem_filter.mp hi).2, h2⟩
  · rintro ⟨z, hz, h2⟩
    obtain ⟨i, hi, e⟩ := List.mem_iff_getElem.mp (h z hz)
    refine ⟨z, List.mem_map.mpr ⟨i, List.mem_filter.mpr ⟨List.mem_range.mpr hi, ?_⟩, ?_⟩, h2⟩
    · rw [List.getD_eq_getElem?_getD, List.getElem?_eq_getElem hi]
      exact decide_eq_true (by show p.names[i] ∈ ss; rw [e]; exact hz)
    · rw [List.getD_eq_getElem?_getD, List.getElem?_eq_getElem hi]
      exact e
theorem topM_inv {p : Pt} (o : Ok p) {t : List Nat} (ht : TabOk p t) : ∀ (es : List PyData) {f g : Int × Int}, FrOk f → topM p t es f = some g → FrOk g
  | [], f, g, hf, h => by
    cases h
    exact hf
  | d :: es, f, g, hf, h => by
    cases hd : stepOk p.names d with
    | false =>
      rw [topM_bad hd] at h
      cases h
    | true =>
      obtain ⟨z, w, rfl, hz⟩ := stepOk_inv hd
      obtain ⟨j, hj, hix, hjl⟩ := idx_some hz
      have hjc : j < p.cl.length := by simpa [Pt.names] using hjl
      obtain ⟨c, hc⟩ : ∃ c, p.cl[j]? = some c := ⟨p.cl[j], List.getElem?_eq_getElem hjc⟩
      obtain ⟨_, htl⟩ := tab_at ht hjc
      rw [topM_str hj, tl_at hc] at h
      cases hs : M.stepI p.dv c.2 (t.getD j 0) f with
      | none =>
        rw [hs] at h
        cases h
      | some k =>
        rw [hs] at h
        dsimp only at h
        have hk := (step_inv o (o.ct c (List.mem_of_getElem? hc)).1 (o.ct c (List.mem_of_getElem? hc)).2 htl hf hs).1
        by_cases q : eqFr k w = true
        · rw [if_pos q] at h
          exact topM_inv o ht es hk h
        · rw [if_neg q] at h
          cases h
theorem top_inv {p : Pt} (o : Ok p) {t : List Nat} (ht : TabOk p t) {v : PyData} {g : Int × Int} (h : top p t v = some g) : FrOk g := by
  cases v with
  | tuple es => exact topM_inv o ht es ⟨by decide, by decide, by decide, by decide⟩ h
  | _ => cases h
theorem barDue_t (p : Pt) (t : List Nat) (x y : PyData) : barDue p t (.tuple [x, y]) = match gang p y with
    | none => false
    | some ss => match top p t x with
      | none => false
      | some f => decide (given p ss < lackOf p t f ss) := rfl
theorem bar_no {p : Pt} {t : List Nat} {v : PyData} (h : (isTupN 2 v && (gang p (pr2 v)).isSome) = false) : barDue p t v = false := by
  cases h2 : isTupN 2 v with
  | false => exact bar_bad h2
  | true =>
    rw [h2, Bool.true_and] at h
    obtain ⟨x, y, rfl⟩ := tup2 (show (!isTupN 2 v) = false by rw [h2]; rfl)
    have h3 : gang p y = none := by
      cases e : gang p y with
      | none => rfl
      | some ss =>
        have h4 : (gang p y).isSome = false := h
        rw [e] at h4
        cases h4
    show (match gang p y with
      | none => false
      | some ss => match top p t x with
        | none => false
        | some f => decide (given p ss < lackOf p t f ss)) = false
    rw [h3]
theorem bar_yes {p : Pt} {v : PyData} (h : (isTupN 2 v && (gang p (pr2 v)).isSome) = true) : ∃ x y ss, v = .tuple [x, y] ∧ gang p y = some ss ∧ y = .tuple (ss.map .str) ∧ ∀ z ∈ ss, z ∈ p.names := by
  rw [Bool.and_eq_true] at h
  obtain ⟨x, y, rfl⟩ := tup2 (show (!isTupN 2 v) = false by rw [h.1]; rfl)
  obtain ⟨ss, h1, h2, h3⟩ := gang_inv (show (gang p y).isSome = true from h.2)
  exact ⟨x, y, ss, rfl, h1, h2, h3⟩
theorem Dat.len {ds : List PyData} (h : Dat (.tuple ds)) : ds.length ≤ 3000 := by
  cases h with
  | tup _ l => exact l
theorem blOk {p : Pt} (o : Ok p) {v : PyData} (h : Dat v) : BlOk (p, v) := ⟨o, h, fun ds e => by
  have e2 : v = .tuple ds := e
  subst e2
  exact Dat.len h⟩
theorem sc63 : FnScope ["night", "table", "value", "price", "group", "place", "name"] ["night", "table", "value"] (defScope (topS 63)) := ⟨rfl, rfl, rfl, by decide +kernel, rfl, by decide +kernel, by decide +kernel⟩
abbrev T_do_bar (S : Sys) : Prop := Kn S.P S.w S.K S.mg S.base 8 "do_bar" ["night", "table", "value"] (spF S.K S.C (α := Pt × List Nat × PyData) (fun a => [nig a.1, tabD a.2.1, a.2.2]) (fun a => LpOk a) (fun a => .bool (barDue a.1 a.2.1 a.2.2)))
theorem w_do_bar {S : Sys} (A : At S.K S.mg "do_bar" (topS 63)) (B : Bt S.mg) (g : Gv S.K S.mg) (N : Nc S.K S.C) (k_names : P_names S) (k_is_tuple_of : T_is_tuple_of S) (k_is_bloc : T_is_bloc S) (k_last_price : T_last_price S) (k_lacks_at : T_lacks_at S) (k_given_to : T_given_to S) : T_do_bar S := by
  refine kn_F A sc63 (fun _ _ => rfl) (b3 fun _ _ _ _ _ _ _ _ _ => rfl) fun f cdv A outer s H E a hr hp => ?_
  obtain ⟨p, t, v⟩ := a
  have o : Ok p := hp.o
  have ht : TabOk p t := hp.t
  have hv : Dat v := hp.d
  refine ss_if ?_
  refine et_cut (!(isTupN 2 v && (gang p (pr2 v)).isSome)) ?_ ?_
  ·
    refine et_w ?_
    refine ew_or ?_
    refine et_not ?_
    refine et_v ?_
    refine ef_cF k_is_tuple_of (hr.mono (by omega)) ?_
    refine ea_d ?_
    refine ef_i 2 rfl ?_
    refine ⟨_, rfl, ?_⟩
    refine ea_d ?_
    refine ef_int ?_
    refine ⟨_, rfl, ?_⟩
    refine ea_nil ?_
    refine ⟨(v, 2), rfl, hv.pl, ?_⟩
    refine ⟨_, rfl, ?_⟩
    refine ⟨fun hk => ?_, fun hk => ?_⟩
    · exact ⟨(by rw [notF hk]; rfl), rfl⟩
    refine ew_one_or ?_
    refine et_not ?_
    refine et_v ?_
    refine ef_cF k_is_bloc (hr.mono (by omega)) ?_
    refine ea_d ?_
    refine ef_i 0 rfl ?_
    refine ⟨_, rfl, ?_⟩
    refine ea_d ?_
    refine ef_ixT ?_
    refine ef_i 2 rfl ?_
    refine ⟨_, rfl, ?_⟩
    refine ef_int ?_
    obtain ⟨x, y, rfl⟩ := tup2 hk
    have hy : Dat y := hv.in (by simp)
    refine ⟨_, _, _, rfl, rfl, (atI_of (i := 1) rfl), ?_⟩
    refine ⟨_, rfl, ?_⟩
    refine ea_nil ?_
    refine ⟨(p, y), rfl, blOk o hy, ?_⟩
    refine ⟨_, rfl, ?_⟩
    exact ⟨rfl, rfl⟩
  refine ⟨fun hk => ?_, fun hk => ?_⟩
  ·
    refine ss_retD ?_
    refine ef_bl ?_
    refine ⟨_, rfl, ?_⟩
    exact (by show PyData.bool false = .bool (barDue p t v); rw [bar_no (notF hk)])
  refine ss_nil ?_
  refine ss_set 3 ?_ rfl sc63.nd
  refine ef_cF k_last_price (hr.mono (by omega)) ?_
  refine ea_d ?_
  refine ef_i 0 rfl ?_
  refine ⟨_, rfl, ?_⟩
  refine ea_d ?_
  refine ef_i 1 rfl ?_
  refine ⟨_, rfl, ?_⟩
  refine ea_d ?_
  refine ef_ixT ?_
  refine ef_i 2 rfl ?_
  refine ⟨_, rfl, ?_⟩
  refine ef_int ?_
  obtain ⟨x, y, ss, rfl, hg, rfl, hin⟩ := bar_yes (notT hk)
  have hx : Dat x := hv.in (by simp)
  refine ⟨_, _, _, rfl, rfl, (atI_of (i := 0) rfl), ?_⟩
  refine ⟨_, rfl, ?_⟩
  refine ea_nil ?_
  refine ⟨(p, t, x), rfl, ⟨o, ht, hx⟩, ?_⟩
  dsimp only
  generalize hT : M.top p t x = tp
  refine ⟨_, rfl, rfl, ?_⟩
  refine ss_if ?_
  refine et_c ?_
  refine ec_isN ?_
  refine ef_i 3 rfl ?_
  refine ⟨_, rfl, ?_⟩
  refine ⟨_, rfl, ?_⟩
  refine ⟨fun hk => ?_, fun hk => ?_⟩
  ·
    refine ss_retD ?_
    refine ef_bl ?_
    refine ⟨_, rfl, ?_⟩
    exact (by cases tp with | none => (show PyData.bool false = .bool (barDue p t (.tuple [x, .tuple (ss.map .str)])); rw [barDue_t, hg]; dsimp only; rw [hT]) | some f => cases hk)
  refine ss_nil ?_
  obtain ⟨f, rfl⟩ : ∃ f, tp = some f := by cases tp with | none => cases hk | some f => exact ⟨f, rfl⟩
  have hf : FrOk f := top_inv o ht hT
  have hpl : (places p ss).length ≤ 3000 := by
    have h1 := List.length_filter_le (fun i => decide (p.names.getD i "" ∈ ss)) (List.range p.names.length)
    have h2 := o.c3
    have h3 : p.names.length = p.cl.length := by simp [Pt.names]
    unfold places
    rw [List.length_range] at h1
    omega
  refine ss_lc 4 [("place", 5), ("name", 6)] (show blkC ["night", "table", "value", "price", "group", "place", "name"] (defScope (topS 63)) _ [("place", 5), ("name", 6)] = true from by decide +kernel) sc63.nd ?_
  refine el_lcP (ts := ([5] ++ ([6] ++ []))) [("place", 5), ("name", 6)] plF (inF2 ss) (show blkC ["night", "table", "value", "price", "group", "place", "name"] (defScope (topS 63)) _ [("place", 5), ("name", 6)] = true from by decide +kernel) sc63.nd ?_
  refine ei_enum B ?_
  refine ef_prop N k_names (hr.mono (by omega)) ?_
  refine ef_i 0 rfl ?_
  refine ⟨p, _, _, _, rfl, rfl, o, ?_⟩
  refine ⟨_, rfl, ?_⟩
  refine ⟨rfl, (by have h3 := o.c3; show (enumD (p.names.map PyData.str)).length ≤ 100000; rw [enumD_len, List.length_map]; unfold Pt.names; rw [List.length_map]; omega), by decide, fun d hd s H0 Cc cl fp => ?_, ?_⟩
  ·
    obtain ⟨i, z, rfl⟩ := enum_in hd
    refine sg_t ?_
    refine sr_cons ?_
    refine sg_n 5 rfl ?_ sc63.nd
    refine sr_cons ?_
    refine sg_n 6 rfl ?_ sc63.nd
    refine sr_nil ?_
    intro s H0 Cc cl fp
    refine et_c ?_
    refine ec_in ?_
    refine ef_i 6 rfl ?_
    refine ⟨_, rfl, ?_⟩
    refine ef_ixT ?_
    refine ef_i 2 rfl ?_
    refine ⟨_, rfl, ?_⟩
    refine ef_int ?_
    refine ⟨_, _, _, rfl, rfl, (atI_of (i := 1) rfl), ?_⟩
    refine ⟨_, _, rfl, .inr rfl, ?_⟩
    refine ⟨_, rfl, ?_⟩
    refine ⟨rfl, rfl, rfl, fun hk s H0 Cc cl fp => ?_⟩
    refine ef_i 5 rfl ?_
    exact ⟨rfl, rfl⟩
  rw [places_eq]
  refine ⟨_, rfl, rfl, ?_⟩
  refine ss_retD ?_
  refine ef_c ?_
  refine ec_gt' ?_
  refine ef_sumF B ?_
  refine ef_lcM (ts := [5]) [("place", 5)] (fun d => .int (lkF (lacks p t f) d)) (show blkC ["night", "table", "value", "price", "group", "place", "name"] (defScope (topS 63)) _ [("place", 5)] = true from by decide +kernel) sc63.nd ?_
  refine ei_l ?_
  refine ef_i 4 rfl ?_
  refine ⟨_, rfl, ?_⟩
  refine ⟨rfl, (by show ((places p ss).map natD).length ≤ 100000; rw [List.length_map]; omega), by decide, fun d hd s H0 Cc cl fp => ?_, ?_⟩
  ·
    obtain ⟨i, hi, rfl⟩ := List.mem_map.mp hd
    refine sg_n 5 rfl ?_ sc63.nd
    refine ⟨rfl, fun s H0 Cc cl fp => ?_⟩
    refine ef_ixL ?_
    refine ef_cF k_lacks_at (hr.mono (by omega)) ?_
    refine ea_d ?_
    refine ef_i 0 rfl ?_
    refine ⟨_, rfl, ?_⟩
    refine ea_d ?_
    refine ef_i 1 rfl ?_
    refine ⟨_, rfl, ?_⟩
    refine ea_d ?_
    refine ef_i 3 rfl ?_
    refine ⟨_, rfl, ?_⟩
    refine ea_nil ?_
    refine ⟨(p, t, f), rfl, ⟨o, ht, hf⟩, ?_⟩
    refine ⟨_, rfl, ?_⟩
    refine ef_i 5 rfl ?_
    refine ⟨_, _, _, rfl, rfl, (atI_of (lacks_at' p t f ht.len (places_lt hi))), ?_⟩
    exact ⟨rfl, rfl⟩
  refine ⟨_, _, rfl, ?_⟩
  refine ⟨_, rfl, ?_⟩
  refine ef_cF k_given_to (hr.mono (by omega)) ?_
  refine ea_d ?_
  refine ef_i 0 rfl ?_
  refine ⟨_, rfl, ?_⟩
  refine ea_d ?_
  refine ef_i 4 rfl ?_
  refine ⟨_, rfl, ?_⟩
  refine ea_nil ?_
  refine ⟨(p, places p ss), rfl, ⟨o, fun n hn => places_lt hn, hpl⟩, ?_⟩
  refine ⟨_, _, rfl, rfl, ?_⟩
  refine ⟨_, rfl, ?_⟩
  exact (by rw [sum_fin p t f ss ht.len]; show _ = PyData.bool (barDue p t (.tuple [x, .tuple (ss.map .str)])); rw [barDue_t, hg]; dsimp only; rw [hT]; dsimp only; rw [given_places hin])
end W
/-! W12: claims of a bloc -/
namespace W
open PySem PySem.Spec PyProof.Rows L2 DL M

abbrev M_tables (S : Sys) : Prop := Mt S.P S.w S.K S.mg S.base S.C 6 "tables" (fun p : Pt => [nig p]) (fun p => Ok p) (fun p => .tuple ((tabs p.cl.length p.dv.length).map tabD))
def wd (b : Bool) : Str := if b then "sure" else "never"
def claimD (p : Pt) (sure : Bool) (tail : List PyData) : PyData := .tuple (.str (wd sure) :: .str (sheet p) :: tail)
def dueT (p : Pt) (sure : Bool) (tail : List PyData) (paper : PyData) : Bool := match tail with
  | [g, ch] => due p sure g ch paper
  | _ => false
def okC (p : Pt) (tail : List PyData) : Bool := match tail with
  | [g, ch] => (gang p g).isSome && inB 0 p.dv.length ch
  | _ => false
theorem okC_len {p : Pt} {tail : List PyData} (h : tail.length ≠ 2) : okC p tail = false := by
  match tail, h with
  | [], _ => rfl
  | [_], _ => rfl
  | [_, _], h => exact absurd rfl h
  | _ :: _ :: _ :: _, _ => rfl
theorem tail2 {tail : List PyData} (h : tail.length = 2) : ∃ g ch, tail = [g, ch] := by
  match tail, h with
  | [g, ch], _ => exact ⟨g, ch, rfl⟩
theorem okC_no {p : Pt} {sure : Bool} {tail : List PyData} {paper : PyData} (h : okC p tail = false) : dueT p sure tail paper = false := by
  match tail, h with
  | [], _ => rfl
  | [_], _ => rfl
  | [g, ch], h =>
    show due p sure g ch paper = false
    have h : ((gang p g).isSome && inB 0 p.dv.length ch) = false := h
    unfold due
    cases e : gang p g with
    | none => rfl
    | some ss =>
      rw [e] at h
      have h : inB 0 p.dv.length ch = false := h
      dsimp only
      cases ch with
      | int n =>
        have h : (decide (0 ≤ n) && decide (n ≤ (p.dv.length : Int))) = false := h
        dsimp only
        rw [h]
        rfl
      | _ => rfl
  | _ :: _ :: _ :: _, _ => rfl
theorem okC_yes {p : Pt} {tail : List PyData} (h : okC p tail = true) : ∃ ss n, tail = [.tuple (ss.map .str), .int n] ∧ gang p (.tuple (ss.map .str)) = some ss ∧ (∀ z ∈ ss, z ∈ p.names) ∧ 0 ≤ n ∧ n ≤ (p.dv.length : Int) := by
  match tail, h with
  | [g, ch], h =>
    have h : ((gang p g).isSome && inB 0 p.dv.length ch) = true := h
    rw [Bool.and_eq_true] at h
    obtain ⟨ss, h1, h2, h3⟩ := gang_inv h.1
    subst h2
    cases ch with
    | int n =>
      have h4 : (decide (0 ≤ n) && decide (n ≤ (p.dv.length : Int))) = true := h.2
      rw [Bool.and_eq_true] at h4
      exact ⟨ss, n, rfl, h1, h3, of_decide_eq_true h4.1, of_decide_eq_true h4.2⟩
    | _ => cases h.2
def paperDue (p : Pt) (rows : List (List Nat)) : PyData → Bool
  | .tuple ds => decide (ds.length = rows.length) && (rows.zip ds).all fun q => pairDue p q.1 q.2
  | _ => false
theorem due_yes {p : Pt} {sure : Bool} {ss : List Str} {n : Int} {paper : PyData} (hg : gang p (.tuple (ss.map .str)) = some ss) (h0 : 0 ≤ n) (h1 : n ≤ (p.dv.length : Int)) : dueT p sure [.tuple (ss.map .str), .int n] paper = paperDue p (rowsOf p sure ss n) paper := by
  have e : dueT p sure [.tuple (ss.map .str), .int n] paper = due p sure (.tuple (ss.map .str)) (.int n) paper := rfl
  rw [e]
  unfold due
  rw [hg]
  dsimp only
  rw [decide_eq_true h0, decide_eq_true h1]
  cases paper <;> rfl
theorem tabs_ok : ∀ (m s : Nat), 1 ≤ m → ∀ t ∈ tabs m s, t.length = m ∧ t.sum = s
  | 1, s, _, t, h => by
    have : t = [s] := by simpa [tabs] using h
    subst this
    exact ⟨rfl, by simp⟩
  | m + 2, s, _, t, h => by
    obtain ⟨f, hf, h2⟩ := List.mem_flatMap.mp h
    obtain ⟨r, hr, rfl⟩ := List.mem_map.mp h2
    obtain ⟨h3, h4⟩ := tabs_ok (m + 1) (s - f) (by omega) r hr
    have := List.mem_range.mp hf
    refine ⟨by rw [List.length_cons, h3], by rw [List.sum_cons, h4]; omega⟩
theorem row_ok {p : Pt} (o : Ok p) {sure : Bool} {ss : List Str} {n : Int} {t : List Nat} (h : t ∈ rowsOf p sure ss n) : TabOk p t := by
  obtain ⟨h1, h2⟩ := tabs_ok _ _ o.c1 t (List.mem_filter.mp h).1
  exact ⟨h1, h2⟩
def natF : PyData → Nat
  | .int i => i.toNat
  | _ => 0
def tabF : PyData → List Nat
  | .tuple ds => ds.map natF
  | _ => []
theorem tabF_tab (t : List Nat) : tabF (tabD t) = t := by
  show (t.map natD).map natF = t
  rw [List.map_map]
  exact List.map_id' _
theorem wd_sure (b : Bool) : decide (wd b = "sure") = b := by cases b <;> decide +kernel
theorem rows_eq (p : Pt) (sure : Bool) (ss : List Str) (n : Int) : ((((tabs p.cl.length p.dv.length).map tabD).filter fun d => decide (decide ((held p ss (tabF d) : Int) < n) = sure)).map fun d => d) = (rowsOf p sure ss n).map tabD := by
  rw [List.map_id', List.filter_map]
  unfold rowsOf
  congr 1
  apply List.filter_congr
  intro t _
  show decide (decide ((held p ss (tabF (tabD t)) : Int) < n) = sure) = _
  rw [tabF_tab]
def allP2 : PyData → Bool
  | .tuple ds => ds.all (isTupN 2)
  | _ => false
theorem pair_not {p : Pt} {t : List Nat} {d : PyData} (h : isTupN 2 d = false) : pairDue p t d = false := by
  unfold pairDue
  split
  · cases h
  · rfl
theorem zip_all_false {α β : Type} {f : α × β → Bool} : ∀ {xs : List α} {ys : List β}, ys.length = xs.length → (∃ y ∈ ys, ∀ x, f (x, y) = false) → (xs.zip ys).all f = false
  | x :: xs, y :: ys, h, ⟨z, hz, hf⟩ => by
    rw [List.zip_cons_cons, List.all_cons]
    rcases List.mem_cons.mp hz with e | hz
    · subst e
      rw [hf x]
      rfl
    · rw [zip_all_false (by simpa using h) ⟨z, hz, hf⟩, Bool.and_false]
  | [], [], _, ⟨z, hz, _⟩ => nomatch hz
  | [], y :: ys, h, _ => by simp at h
  | x :: xs, [], h, _ => by simp at h
theorem due_no {p : Pt} {sure : Bool} {ss : List Str} {n : Int} {paper : PyData} (h : (isTupN (rowsOf p sure ss n).length paper && allP2 paper) = false) : paperDue p (rowsOf p sure ss n) paper = false := by
  cases paper with
  | tuple ds =>
    have h : (decide (ds.length = (rowsOf p sure ss n).length) && ds.all (isTupN 2)) = false := h
    show (decide (ds.length = (rowsOf p sure ss n).length) && ((rowsOf p sure ss n).zip ds).all fun q => pairDue p q.1 q.2) = false
    by_cases e : ds.length = (rowsOf p sure ss n).length
    · rw [decide_eq_true e, Bool.true_and] at h ⊢
      refine zip_all_false e ?_
      rw [List.all_eq_false] at h
      obtain ⟨y, hy, h2⟩ := h
      exact ⟨y, hy, fun x => pair_not (by simpa using h2)⟩
    · rw [decide_eq_false e]
      rfl
  | _ => rfl
def pdF (p : Pt) : PyData → Bool
  | .tuple [x, y] => pairDue p (tabF y) x
  | _ => false
theorem zip_swap {α β : Type} {f : β × α → Bool} {g : α × β → Bool} (h : ∀ x y, f (y, x) = g (x, y)) : ∀ (xs : List α) (ys : List β), (ys.zip xs).all f = (xs.zip ys).all g
  | [], [] => rfl
  | [], _ :: _ => rfl
  | _ :: _, [] => rfl
  | x :: xs, y :: ys => by
    rw [List.zip_cons_cons, List.zip_cons_cons, List.all_cons, List.all_cons, h, zip_swap h xs ys]
theorem all_fin (p : Pt) (rows : List (List Nat)) (ds : List PyData) : (zipD ds (rows.map tabD)).all (pdF p) = (rows.zip ds).all fun q => pairDue p q.1 q.2 := by
  have e : zipD ds (rows.map tabD) = (ds.zip rows).map fun q => .tuple [q.1, tabD q.2] := by
    have := zipD_map (xs := ds) (ys := rows) (f := id) (g := tabD)
    rw [List.map_id] at this
    exact this
  rw [e, List.all_map]
  refine zip_swap (fun x y => ?_) rows ds
  show pairDue p (tabF (tabD x)) y = _
  rw [tabF_tab]
theorem intsOf_map : ∀ ns : List Int, intsOf (ns.map .int) = some ns
  | [] => rfl
  | n :: ns => by
    show (intsOf (ns.map .int)).map (n :: ·) = _
    rw [intsOf_map ns]
    rfl
theorem tabD_ints (t : List Nat) : tabD t = .tuple ((t.map fun (n : Nat) => (n : Int)).map .int) := by
  unfold tabD
  rw [List.map_map]
  rfl
theorem isTab_eqv (ns : List Int) (t : List Nat) : PyData.eqv (.tuple (ns.map .int)) (tabD t) = isTab t (.tuple (ns.map .int)) := by
  rw [tabD_ints, eqv_tupI]
  unfold isTab
  dsimp only
  rw [intsOf_map]
  simp
theorem intsOf_inv : ∀ {ds : List PyData} {ns : List Int}, intsOf ds = some ns → ds = ns.map .int
  | [], ns, h => by
    cases h
    rfl
  | d :: ds, ns, h => by
    cases d with
    | int i =>
      have h : (intsOf ds).map (i :: ·) = some ns := h
      cases e : intsOf ds with
      | none =>
        rw [e] at h
        cases h
      | some ms =>
        rw [e] at h
        cases h
        rw [intsOf_inv e]
        rfl
    | _ => cases h
theorem isTab_tb {p : Pt} {t : List Nat} (ht : TabOk p t) {a : PyData} (h : isTb p a = false) : isTab t a = false := by
  cases h2 : isTab t a with
  | false => rfl
  | true =>
    cases a with
    | tuple vs =>
      have h3 : intsOf vs = some (t.map fun (n : Nat) => (n : Int)) := of_decide_eq_true h2
      have h4 := intsOf_inv h3
      subst h4
      rw [isTb_t] at h
      have e1 : (((t.map fun (n : Nat) => (n : Int)).map PyData.int).length) = p.cl.length := by
        rw [List.length_map, List.length_map]
        exact ht.len
      have e2 : ((t.map fun (n : Nat) => (n : Int)).map PyData.int).all nnB = true := by
        rw [List.all_map, List.all_map]
        exact List.all_eq_true.mpr fun n _ => decide_eq_true (show (0 : Int) ≤ (n : Int) by omega)
      have e3 : (((t.map fun (n : Nat) => (n : Int)).map PyData.int).map inV).sum = (p.dv.length : Int) := by
        rw [List.map_map]
        show (List.map (fun x : Int => x) (t.map fun (n : Nat) => (n : Int))).sum = _
        rw [List.map_id', ← ht.sum]
        clear h h2 h3 e1 e2 ht
        induction t with
        | nil => rfl
        | cons n t ih =>
          rw [List.map_cons, List.sum_cons, List.sum_cons, ih]
          simp
      rw [decide_eq_true e1, e2, decide_eq_true e3] at h
      cases h
    | _ => cases h2
theorem isTb_ints {p : Pt} {a : PyData} (h : isTb p a = true) : ∃ ns : List Int, a = .tuple (ns.map .int) := by
  cases a with
  | tuple vs =>
    rw [isTb_t, Bool.and_eq_true, Bool.and_eq_true] at h
    obtain ⟨ns, h1, _⟩ := nn_all h.1.2
    exact ⟨ns, by rw [h1]⟩
  | _ => cases h
structure AbOk (a : Pt × Bool × List PyData × PyData) : Prop where
  o : Ok a.1
  t : ∀ d ∈ a.2.2.1, Dat d
  d : Dat a.2.2.2
theorem sc65 : FnScope ["night", "claim", "certificate", "tables", "each", "pair", "own", "table"] ["night", "claim", "certificate"] (defScope (topS 65)) := ⟨rfl, rfl, rfl, by decide +kernel, rfl, by decide +kernel, by decide +kernel⟩
abbrev T_accepts_bloc (S : Sys) : Prop := Kn S.P S.w S.K S.mg S.base 9 "accepts_bloc" ["night", "claim", "certificate"] (spF S.K S.C (α := Pt × Bool × List PyData × PyData) (fun a => [nig a.1, claimD a.1 a.2.1 a.2.2.1, a.2.2.2]) (fun a => AbOk a) (fun a => .bool (dueT a.1 a.2.1 a.2.2.1 a.2.2.2)))
theorem w_accepts_bloc {S : Sys} (A : At S.K S.mg "accepts_bloc" (topS 65)) (B : Bt S.mg) (g : Gv S.K S.mg) (N : Nc S.K S.C) (k_seats : P_seats S) (k_tables : M_tables S) (k_is_tuple_of : T_is_tuple_of S) (k_is_bloc : T_is_bloc S) (k_is_integer : T_is_integer S) (k_seats_in : T_seats_in S) (k_is_table : T_is_table S) (k_do_bar : T_do_bar S) : T_accepts_bloc S := by
  refine kn_F A sc65 (fun _ _ => rfl) (b3 fun _ _ _ _ _ _ _ _ _ => rfl) fun f cdv A outer s H E a hr hp => ?_
  obtain ⟨p, sure, tail, paper⟩ := a
  have o : Ok p := hp.o
  have htd : ∀ d ∈ tail, Dat d := hp.t
  have hpd : Dat paper := hp.d
  refine ss_if ?_
  refine et_cut (!okC p tail) ?_ ?_
  ·
    refine et_w ?_
    refine ew_or ?_
    refine et_c ?_
    refine ec_neI ?_
    refine ef_len B ?_
    refine ef_i 1 rfl ?_
    refine ⟨_, (by first | exact .inr rfl | exact .inl rfl | exact ⟨_, rfl, rfl⟩), ?_⟩
    refine ⟨_, rfl, ?_⟩
    refine ef_int ?_
    refine ⟨_, _, rfl, rfl, ?_⟩
    refine ⟨_, rfl, ?_⟩
    refine ⟨fun hk => ?_, fun hk => ?_⟩
    · exact ⟨(by rw [okC_len fun h => by rw [show (((PyData.str (wd sure) :: PyData.str (sheet p) :: tail).length : Nat) : Int) = 4 by simp [h]] at hk; cases hk]; rfl), rfl⟩
    refine ew_or ?_
    refine et_not ?_
    refine et_v ?_
    refine ef_cF k_is_bloc (hr.mono (by omega)) ?_
    refine ea_d ?_
    refine ef_i 0 rfl ?_
    refine ⟨_, rfl, ?_⟩
    refine ea_d ?_
    refine ef_ixT ?_
    refine ef_i 1 rfl ?_
    refine ⟨_, rfl, ?_⟩
    refine ef_int ?_
    obtain ⟨g0, ch, rfl⟩ := tail2 (show tail.length = 2 by have h1 : (((PyData.str (wd sure) :: PyData.str (sheet p) :: tail).length : Nat) : Int) = 4 := of_decide_eq_true (notT hk); simp at h1; omega)
    have hg0 : Dat g0 := htd _ (by simp)
    have hch : Dat ch := htd _ (by simp)
    refine ⟨_, _, _, rfl, rfl, (atI_of (i := 2) rfl), ?_⟩
    refine ⟨_, rfl, ?_⟩
    refine ea_nil ?_
    refine ⟨(p, g0), rfl, blOk o hg0, ?_⟩
    refine ⟨_, rfl, ?_⟩
    refine ⟨fun hk => ?_, fun hk => ?_⟩
    · exact ⟨(by show true = !((gang p g0).isSome && inB 0 p.dv.length ch); rw [notF hk]; rfl), rfl⟩
    refine ew_one_or ?_
    refine et_not ?_
    refine et_v ?_
    refine ef_cF k_is_integer (hr.mono (by omega)) ?_
    refine ea_d ?_
    refine ef_ixT ?_
    refine ef_i 1 rfl ?_
    refine ⟨_, rfl, ?_⟩
    refine ef_int ?_
    refine ⟨_, _, _, rfl, rfl, (atI_of (i := 3) rfl), ?_⟩
    refine ⟨_, rfl, ?_⟩
    refine ea_d ?_
    refine ef_int ?_
    refine ⟨_, rfl, ?_⟩
    refine ea_d ?_
    refine ef_prop N k_seats (hr.mono (by omega)) ?_
    refine ef_i 0 rfl ?_
    refine ⟨p, _, _, _, rfl, rfl, o, ?_⟩
    refine ⟨_, rfl, ?_⟩
    refine ea_nil ?_
    refine ⟨(ch, 0, (p.dv.length : Int)), rfl, hch.pl, ?_⟩
    refine ⟨_, rfl, ?_⟩
    exact ⟨(by show (!inB 0 p.dv.length ch) = !((gang p g0).isSome && inB 0 p.dv.length ch); rw [notT hk]; rfl), rfl⟩
  refine ⟨fun hk => ?_, fun hk => ?_⟩
  ·
    refine ss_retD ?_
    refine ef_bl ?_
    refine ⟨_, rfl, ?_⟩
    exact (by show PyData.bool false = .bool (dueT p sure tail paper); rw [okC_no (notF hk)])
  refine ss_nil ?_
  obtain ⟨ss, n, rfl, hg, hin, h0, h1⟩ := okC_yes (notT hk)
  refine ss_lc 3 [("each", 4)] (show blkC ["night", "claim", "certificate", "tables", "each", "pair", "own", "table"] (defScope (topS 65)) _ [("each", 4)] = true from by decide +kernel) sc65.nd ?_
  refine el_lcP (ts := [4]) [("each", 4)] (fun d => d) (fun d => decide (decide ((held p ss (tabF d) : Int) < n) = sure)) (show blkC ["night", "claim", "certificate", "tables", "each", "pair", "own", "table"] (defScope (topS 65)) _ [("each", 4)] = true from by decide +kernel) sc65.nd ?_
  refine ei_t ?_
  refine ef_meth N k_tables (hr.mono (by omega)) (by kernel_rfl) ?_
  refine ef_i 0 rfl ?_
  refine ⟨p, _, _, _, rfl, rfl, o, ?_⟩
  refine ⟨_, rfl, ?_⟩
  refine ⟨rfl, (by have h1 := tabs_n p.cl.length o.c3 p.dv.length o.d3; show ((tabs p.cl.length p.dv.length).map tabD).length ≤ 100000; rw [List.length_map]; omega), by decide, fun d hd s H0 Cc cl fp => ?_, ?_⟩
  ·
    obtain ⟨t, ht, rfl⟩ := List.mem_map.mp hd
    refine sg_n 4 rfl ?_ sc65.nd
    intro s H0 Cc cl fp
    refine et_c ?_
    refine ec_eqB ?_
    refine ef_c ?_
    refine ec_lt ?_
    refine ef_cF k_seats_in (hr.mono (by omega)) ?_
    refine ea_d ?_
    refine ef_i 0 rfl ?_
    refine ⟨_, rfl, ?_⟩
    refine ea_d ?_
    refine ef_ixT ?_
    refine ef_i 1 rfl ?_
    refine ⟨_, rfl, ?_⟩
    refine ef_int ?_
    refine ⟨_, _, _, rfl, rfl, (atI_of (i := 2) rfl), ?_⟩
    refine ⟨_, rfl, ?_⟩
    refine ea_d ?_
    refine ef_i 4 rfl ?_
    refine ⟨_, rfl, ?_⟩
    refine ea_nil ?_
    refine ⟨(p, ss, t), rfl, ⟨o, Nat.le_trans (tab_len o.c3 o.d3 ht) (by decide)⟩, ?_⟩
    refine ⟨_, rfl, ?_⟩
    refine ef_ixT ?_
    refine ef_i 1 rfl ?_
    refine ⟨_, rfl, ?_⟩
    refine ef_int ?_
    refine ⟨_, _, _, rfl, rfl, (atI_of (i := 3) rfl), ?_⟩
    refine ⟨_, _, rfl, rfl, ?_⟩
    refine ⟨_, rfl, ?_⟩
    refine ef_c ?_
    refine ec_eqS ?_
    refine ef_ixT ?_
    refine ef_i 1 rfl ?_
    refine ⟨_, rfl, ?_⟩
    refine ef_int ?_
    refine ⟨_, _, _, rfl, rfl, (atI_of (i := 0) rfl), ?_⟩
    refine ⟨_, rfl, ?_⟩
    refine ef_str ?_
    refine ⟨_, _, rfl, rfl, ?_⟩
    refine ⟨_, _, rfl, rfl, ?_⟩
    refine ⟨_, rfl, ?_⟩
    refine ⟨(by rw [wd_sure, tabF_tab]), rfl, rfl, fun hk s H0 Cc cl fp => ?_⟩
    refine ef_i 4 rfl ?_
    exact ⟨rfl, rfl⟩
  rw [rows_eq]
  refine ⟨_, rfl, rfl, ?_⟩
  refine ss_if ?_
  refine et_cut (!(isTupN (rowsOf p sure ss n).length paper && allP2 paper)) ?_ ?_
  ·
    refine et_w ?_
    refine ew_or ?_
    refine et_not ?_
    refine et_v ?_
    refine ef_cF k_is_tuple_of (hr.mono (by omega)) ?_
    refine ea_d ?_
    refine ef_i 2 rfl ?_
    refine ⟨_, rfl, ?_⟩
    refine ea_d ?_
    refine ef_len B ?_
    refine ef_i 3 rfl ?_
    refine ⟨_, (by first | exact .inr rfl | exact .inl rfl | exact ⟨_, rfl, rfl⟩), ?_⟩
    refine ⟨_, rfl, ?_⟩
    refine ea_nil ?_
    refine ⟨(paper, (rowsOf p sure ss n).length), (by rw [List.length_map]; rfl), hpd.pl, ?_⟩
    refine ⟨_, rfl, ?_⟩
    refine ⟨fun hk => ?_, fun hk => ?_⟩
    · exact ⟨(by rw [notF hk]; rfl), rfl⟩
    have hT : isTupN (rowsOf p sure ss n).length paper = true := notT hk
    obtain ⟨ds, rfl, hlen⟩ := isTupN_inv hT
    refine ew_one_or ?_
    refine et_not ?_
    refine et_v ?_
    refine ef_allF B ?_
    refine ef_lcM (ts := [5]) [("pair", 5)] (fun d => .bool (isTupN 2 d)) (show blkC ["night", "claim", "certificate", "tables", "each", "pair", "own", "table"] (defScope (topS 65)) _ [("pair", 5)] = true from by decide +kernel) sc65.nd ?_
    refine ei_t ?_
    refine ef_i 2 rfl ?_
    refine ⟨_, rfl, ?_⟩
    refine ⟨rfl, Nat.le_trans (Dat.len hpd) (by decide), by decide, fun d hd s H0 Cc cl fp => ?_, ?_⟩
    ·
      have hdd := hpd.in hd
      refine sg_n 5 rfl ?_ sc65.nd
      refine ⟨rfl, fun s H0 Cc cl fp => ?_⟩
      refine ef_cF k_is_tuple_of (hr.mono (by omega)) ?_
      refine ea_d ?_
      refine ef_i 5 rfl ?_
      refine ⟨_, rfl, ?_⟩
      refine ea_d ?_
      refine ef_int ?_
      refine ⟨_, rfl, ?_⟩
      refine ea_nil ?_
      refine ⟨(d, 2), rfl, hdd.pl, ?_⟩
      exact ⟨rfl, rfl⟩
    refine ⟨_, _, rfl, ?_⟩
    refine ⟨_, rfl, ?_⟩
    exact ⟨(by rw [hT]; rfl), rfl⟩
  refine ⟨fun hk => ?_, fun hk => ?_⟩
  ·
    refine ss_retD ?_
    refine ef_bl ?_
    refine ⟨_, rfl, ?_⟩
    exact (by show PyData.bool false = .bool (dueT p sure [.tuple (ss.map .str), .int n] paper); rw [due_yes hg h0 h1, due_no (notF hk)])
  refine ss_nil ?_
  have hTT : (isTupN (rowsOf p sure ss n).length paper && allP2 paper) = true := notT hk
  rw [Bool.and_eq_true] at hTT
  obtain ⟨ds, rfl, hlen⟩ := isTupN_inv hTT.1
  have hall : ds.all (isTupN 2) = true := hTT.2
  refine ss_retD ?_
  refine ef_allF B ?_
  refine ef_lcM (ts := ([6] ++ ([7] ++ []))) [("own", 6), ("table", 7)] (fun d => .bool (pdF p d)) (show blkC ["night", "claim", "certificate", "tables", "each", "pair", "own", "table"] (defScope (topS 65)) _ [("own", 6), ("table", 7)] = true from by decide +kernel) sc65.nd ?_
  refine ei_zip true false B ?_
  refine ef_i 2 rfl ?_
  refine ⟨_, rfl, ?_⟩
  refine ef_i 3 rfl ?_
  refine ⟨_, rfl, ?_⟩
  refine ⟨rfl, (by rw [zipD_len]; have := Dat.len hpd; omega), by decide, fun d hd s H0 Cc cl fp => ?_, ?_⟩
  ·
    obtain ⟨x, y, hxy, rfl⟩ := zipD_mem hd
    have hxm := (List.of_mem_zip hxy).1
    obtain ⟨t, ht, rfl⟩ := List.mem_map.mp (List.of_mem_zip hxy).2
    have hto := row_ok o ht
    have hxd := hpd.in hxm
    obtain ⟨a, b, rfl⟩ := tup2 (show (!isTupN 2 x) = false by rw [List.all_eq_true.mp hall x hxm]; rfl)
    have had := hxd.in (d := a) (by simp)
    have hbd := hxd.in (d := b) (by simp)
    refine sg_t ?_
    refine sr_cons ?_
    refine sg_n 6 rfl ?_ sc65.nd
    refine sr_cons ?_
    refine sg_n 7 rfl ?_ sc65.nd
    refine sr_nil ?_
    refine ⟨rfl, fun s H0 Cc cl fp => ?_⟩
    refine ef_cut (.bool (pairDue p t (.tuple [a, b]))) ?_ ?_
    ·
      refine ef_and3 ?_
      refine ef_cF k_is_table (hr.mono (by omega)) ?_
      refine ea_d ?_
      refine ef_i 0 rfl ?_
      refine ⟨_, rfl, ?_⟩
      refine ea_d ?_
      refine ef_ixT ?_
      refine ef_i 6 rfl ?_
      refine ⟨_, rfl, ?_⟩
      refine ef_int ?_
      refine ⟨_, _, _, rfl, rfl, (atI_of (i := 0) rfl), ?_⟩
      refine ⟨_, rfl, ?_⟩
      refine ea_nil ?_
      refine ⟨(p, a), rfl, blOk o had, ?_⟩
      refine ⟨_, rfl, fun hk => ?_, fun hk => ?_⟩
      · exact ⟨(by show Vl.d (.bool false) = Vl.d (.bool (isTab t a && barDue p t b)); rw [isTab_tb hto hk]; rfl), rfl⟩
      obtain ⟨ns, rfl⟩ := isTb_ints hk
      refine ef_c ?_
      refine ec_eqD hr ?_
      refine ef_ixT ?_
      refine ef_i 6 rfl ?_
      refine ⟨_, rfl, ?_⟩
      refine ef_int ?_
      refine ⟨_, _, _, rfl, rfl, (atI_of (i := 0) rfl), ?_⟩
      refine ⟨trivial, ?_⟩
      refine ef_i 7 rfl ?_
      refine ⟨_, _, rfl, rfl, cmp_ints, (by rw [tabD_ints]; exact cmp_ints), ?_⟩
      refine ⟨_, rfl, fun hk => ?_, fun hk => ?_⟩
      · exact ⟨(by show Vl.d (.bool false) = Vl.d (.bool (isTab t (.tuple (ns.map .int)) && barDue p t b)); rw [← isTab_eqv, hk]; rfl), rfl⟩
      refine ef_cF k_do_bar (hr.mono (by omega)) ?_
      refine ea_d ?_
      refine ef_i 0 rfl ?_
      refine ⟨_, rfl, ?_⟩
      refine ea_d ?_
      refine ef_i 7 rfl ?_
      refine ⟨_, rfl, ?_⟩
      refine ea_d ?_
      refine ef_ixT ?_
      refine ef_i 6 rfl ?_
      refine ⟨_, rfl, ?_⟩
      refine ef_int ?_
      refine ⟨_, _, _, rfl, rfl, (atI_of (i := 1) rfl), ?_⟩
      refine ⟨_, rfl, ?_⟩
      refine ea_nil ?_
      refine ⟨(p, t, b), rfl, ⟨o, hto, hbd⟩, ?_⟩
      exact ⟨(by show _ = Vl.d (.bool (isTab t (.tuple (ns.map .int)) && barDue p t b)); rw [← isTab_eqv, hk]; rfl), rfl⟩
    exact ⟨(by show _ = Vl.d (.bool (pairDue p (tabF (tabD t)) (.tuple [a, b]))); rw [tabF_tab]), rfl⟩
  refine ⟨_, _, rfl, ?_⟩
  refine ⟨_, rfl, ?_⟩
  exact (by rw [all_fin]; show _ = PyData.bool (dueT p sure [.tuple (ss.map .str), .int n] (.tuple ds)); rw [due_yes hg h0 h1]; show _ = PyData.bool (decide (ds.length = (rowsOf p sure ss n).length) && _); rw [decide_eq_true hlen]; rfl)
end W
/-! V1: the law: small ones, needs, forced steps -/
namespace W
open PySem PySem.Spec PyProof.Rows L2 DL M

theorem inB_whole {d : PyData} {lo hi : Int} (h : (isInt d) = false ∨ isBool d = true) : inB lo hi d = false := by
  cases d <;> first | rfl | (rcases h with h | h <;> cases h)
theorem c64 {x : Int} (h0 : -1000000 ≤ x) (h : x ≤ 1000000) : -(2 ^ 64) < x ∧ x < 2 ^ 64 := by omega
theorem int_inv2 {d : PyData} (h : isInt d = true) (h2 : (!isBool d) = true) : ∃ i, d = .int i := by
  cases d with
  | int i => exact ⟨i, rfl⟩
  | bool b => simp [isBool] at h2
  | _ => simp [DL.isInt] at h
structure LwOk (q : Int × Int) : Prop where
  a : 0 ≤ q.1
  b : 1 ≤ q.2
  c : q.2 ≤ 9
theorem sc80 : FnScope ["_law_value", "_law_low", "_law_high"] ["_law_value", "_law_low", "_law_high"] (defScope (topS 80)) := ⟨rfl, rfl, rfl, by decide +kernel, rfl, by decide +kernel, by decide +kernel⟩
abbrev T__law_whole (S : Sys) : Prop := Kn S.P S.w S.K S.mg S.base 1 "_law_whole" ["_law_value", "_law_low", "_law_high"] (spF S.K S.C (α := PyData × Int × Int) (fun q => [q.1, .int q.2.1, .int q.2.2]) (fun q => isPl q.1 = true) (fun q => .bool (inB q.2.1 q.2.2 q.1)))
theorem w__law_whole {S : Sys} (A : At S.K S.mg "_law_whole" (topS 80)) (B : Bt S.mg) (g : Gv S.K S.mg)  : T__law_whole S := by
  refine kn_F A sc80 (fun _ _ => rfl) (b3 fun _ _ _ _ _ _ _ _ _ => rfl) fun f cdv A outer s H E a hr hp => ?_
  refine ss_retD ?_
  refine ef_cut (.bool (inB a.2.1 a.2.2 a.1)) ?_ ?_
  ·
    refine ef_and3 ?_
    refine ef_isInt B ?_
    refine ef_i 0 rfl ?_
    refine ⟨_, rfl, hp, ?_⟩
    refine ⟨_, rfl, fun hk => ?_, fun hk => ?_⟩
    · exact ⟨(by rw [inB_whole (.inl hk)]), rfl⟩
    refine ef_not ?_
    refine ef_isBool B ?_
    refine ef_i 0 rfl ?_
    refine ⟨_, rfl, hp, ?_⟩
    refine ⟨_, rfl, ?_⟩
    refine ⟨_, rfl, fun hk => ?_, fun hk => ?_⟩
    · exact ⟨(by obtain ⟨d, lo, hi⟩ := a; cases d <;> first | rfl | cases hk), rfl⟩
    obtain ⟨d, lo, hi⟩ := a
    rename_i h9
    obtain ⟨i, rfl⟩ := int_inv2 h9 hk
    refine ef_cut (.bool (inB lo hi (.int i))) ?_ ?_
    ·
      refine ef_ch ?_
      refine ef_i 1 rfl ?_
      refine ⟨_, rfl, ?_⟩
      refine ef_i 0 rfl ?_
      refine ⟨_, rfl, fun hn => ?_, fun hle => ?_⟩
      · exact ⟨(by have h : ¬ lo ≤ i := hn; simp [inB, h]), rfl⟩
      refine ef_i 2 rfl ?_
      exact ⟨_, rfl, (by have h : lo ≤ i := hle; simp [inB, h]), rfl⟩
    exact ⟨(by first | rfl | assumption | decide | omega | exact (nomatch hk)), rfl⟩
  refine ⟨_, rfl, ?_⟩
  exact rfl
theorem sc81 : FnScope ["_law_top_here", "_law_bottom", "_law_big", "_law_small", "_law_turn"] ["_law_top_here", "_law_bottom"] (defScope (topS 81)) := ⟨rfl, rfl, rfl, by decide +kernel, rfl, by decide +kernel, by decide +kernel⟩
abbrev T__law_lowest (S : Sys) : Prop := Kn S.P S.w S.K S.mg S.base 1 "_law_lowest" ["_law_top_here", "_law_bottom"] (spF S.K S.C (α := Int × Int) (fun q => [.int q.1, .int q.2]) (fun q => LwOk q) (fun q => frD (low q.1 q.2)))
theorem w__law_lowest {S : Sys} (A : At S.K S.mg "_law_lowest" (topS 81)) (B : Bt S.mg) (g : Gv S.K S.mg)  : T__law_lowest S := by
  refine kn_F A sc81 (fun _ _ => rfl) (b2 fun _ _ _ _ _ _ _ _ => rfl) fun f cdv A outer s H E a hr hp => ?_
  refine ss_par2 2 3 ?_ sc81.nd
  refine ea_d ?_
  refine ef_i 0 rfl ?_
  refine ⟨_, rfl, ?_⟩
  refine ea_d ?_
  refine ef_i 1 rfl ?_
  refine ⟨_, rfl, ?_⟩
  refine ea_nil ?_
  refine ⟨_, _, rfl, rfl, rfl, ?_⟩
  refine ss_for (ts := [4]) ?_
  refine ei_r B ?_
  refine ef_int ?_
  refine ⟨_, rfl, (by first | rfl | assumption | decide | omega | exact (nomatch hk)), (by first | rfl | assumption | decide | omega | exact (nomatch hk)), ?_⟩
  refine ⟨(fun i G' => ∃ x y : Int, G' = [.imm (.int a.1), .imm (.int a.2), .imm (.int x), .imm (.int y), .un] ∧ 0 ≤ x ∧ 0 ≤ y ∧ (y = 0 ∨ y + (i : Int) ≤ 9) ∧ gcdI x y = gcdI a.1 a.2), ⟨a.1, a.2, rfl, hp.a, by have := hp.b; omega, .inr (by have := hp.c; simpa using this), rfl⟩, fun i d G1 hd hP => ?_, fun G1 hP => ?_⟩
  ·
    obtain ⟨x, y, rfl, h1, h2, h3, h4⟩ := hP
    refine sg_n 4 rfl ?_ sc81.nd
    refine ss_ifM (fun G' => ∃ (x y : Int) (d : PyData), G' = [.imm (.int a.1), .imm (.int a.2), .imm (.int x), .imm (.int y), .imm d] ∧ 0 ≤ x ∧ 0 ≤ y ∧ (y = 0 ∨ y + ((i + 1 : Nat) : Int) ≤ 9) ∧ gcdI x y = gcdI a.1 a.2) ?_ fun G1 hM => ?_
    ·
      refine et_c ?_
      refine ec_gt' ?_
      refine ef_i 3 rfl ?_
      refine ⟨_, rfl, ?_⟩
      refine ef_int ?_
      refine ⟨_, _, rfl, rfl, ?_⟩
      refine ⟨_, rfl, ?_⟩
      refine ⟨fun hk => ?_, fun hk => ?_⟩
      ·
        refine ss_par2 2 3 ?_ sc81.nd
        refine ea_d ?_
        refine ef_i 3 rfl ?_
        refine ⟨_, rfl, ?_⟩
        refine ea_d ?_
        refine ef_mod ?_
        refine ef_intI B ?_
        refine ef_i 2 rfl ?_
        refine ⟨_, rfl, ?_⟩
        refine ⟨_, rfl, ?_⟩
        refine ef_i 3 rfl ?_
        have hy := of_decide_eq_true hk
        obtain ⟨g1, g2, g3⟩ := gcd_step h1 hy
        refine ⟨_, _, rfl, rfl, (by omega), ?_⟩
        refine ⟨_, rfl, ?_⟩
        refine ea_nil ?_
        refine ⟨_, _, rfl, rfl, rfl, ?_⟩
        refine ss_nil ?_
        exact ⟨y, x.fmod y, _, rfl, h2, g1, by omega, g3.trans h4⟩
      ·
        refine ss_nil ?_
        exact ⟨x, y, _, rfl, h1, h2, .inl (by have := of_decide_eq_false hk; omega), h4⟩
    obtain ⟨x, y, d, rfl, h1, h2, h3, h4⟩ := hM
    refine ss_fgt [4] rfl (ss_nil ?_)
    exact ⟨x, y, rfl, h1, h2, h3, h4⟩
  obtain ⟨x, y, rfl, h1, h2, h3, h4⟩ := hP
  have hy0 : y = 0 := by rcases h3 with h3 | h3; exact h3; rw [rngD_len] at h3; have : (Int.toNat 3000) = 3000 := rfl; omega
  subst hy0
  have hx : x = gcdI a.1 a.2 := by rw [← h4]; unfold gcdI; simp; omega
  have hx1 := gcd_pos (a := a.1) (b := a.2) (by have := hp.b; omega)
  have hx2 := gcd_le (a := a.1) (b := a.2) (by have := hp.b; omega)
  have hx3 := hp.c
  subst hx
  refine ss_retD ?_
  refine ef_tup ?_
  refine ea_d ?_
  refine ef_fdiv ?_
  refine ef_i 0 rfl ?_
  refine ⟨_, rfl, ?_⟩
  refine ef_i 2 rfl ?_
  refine ⟨_, _, rfl, rfl, (show CDivN a.1 (gcdI a.1 a.2) from ⟨by omega, by omega⟩), ?_⟩
  refine ⟨_, rfl, ?_⟩
  refine ea_d ?_
  refine ef_fdiv ?_
  refine ef_i 1 rfl ?_
  refine ⟨_, rfl, ?_⟩
  refine ef_i 2 rfl ?_
  refine ⟨_, _, rfl, rfl, (show CDivN a.2 (gcdI a.1 a.2) from ⟨by omega, by omega⟩), ?_⟩
  refine ⟨_, rfl, ?_⟩
  refine ea_nil ?_
  refine ⟨[_, _], rfl, show 2 ≤ sizeLine by decide, ?_⟩
  refine ⟨_, rfl, ?_⟩
  exact rfl
structure NlOk (a : Pt × List Nat × Nat × Int × Int) : Prop where
  o : Ok a.1
  t : TabOk a.1 a.2.1
  i : a.2.2.1 < a.1.cl.length
  f : FrOk a.2.2.2
theorem tb_at {t : List Nat} {i : Nat} (h : i < t.length) : (t.map natD)[i]? = some (natD (t.getD i 0)) := by
  rw [List.getElem?_map, List.getElem?_eq_getElem h, List.getD_eq_getElem?_getD, List.getElem?_eq_getElem h]
  rfl
theorem clAt {p : Pt} {i : Nat} (h : i < p.cl.length) : ∃ c ∈ p.cl, (p.cl.map ptyD)[i]? = some (ptyD c) ∧ p.tl.getD i 0 = c.2 ∧ p.names[i]? = some c.1 ∧ p.cl[i]? = some c := by
  refine ⟨p.cl[i], List.getElem_mem h, by rw [List.getElem?_map, List.getElem?_eq_getElem h]; rfl, ?_, ?_, List.getElem?_eq_getElem h⟩
  · unfold Pt.tl
    rw [List.getD_eq_getElem?_getD, List.getElem?_map, List.getElem?_eq_getElem h]
    rfl
  · unfold Pt.names
    rw [List.getElem?_map, List.getElem?_eq_getElem h]
    rfl
theorem t_le {p : Pt} {t : List Nat} (h : TabOk p t) (i : Nat) : t.getD i 0 ≤ p.dv.length := by
  by_cases q : i < t.length
  · rw [List.getD_eq_getElem?_getD, List.getElem?_eq_getElem q]
    have := mem_le_sum (List.getElem_mem q)
    have := h.sum
    show t[i] ≤ _
    omega
  · rw [List.getD_eq_getElem?_getD, List.getElem?_eq_none (by omega)]
    exact Nat.zero_le _
theorem sc84 : FnScope ["_law_parts_here", "_law_split", "_law_at", "_law_price", "_law_word", "_law_tally"] ["_law_parts_here", "_law_split", "_law_at", "_law_price"] (defScope (topS 84)) := ⟨rfl, rfl, rfl, by decide +kernel, rfl, by decide +kernel, by decide +kernel⟩
abbrev T__law_need (S : Sys) : Prop := Kn S.P S.w S.K S.mg S.base 1 "_law_need" ["_law_parts_here", "_law_split", "_law_at", "_law_price"] (spF S.K S.C (α := Pt × List Nat × Nat × Int × Int) (fun a => [ptD a.1, tabD a.2.1, natD a.2.2.1, frD a.2.2.2]) (fun a => NlOk a) (fun a => .int (needI a.1.dv (a.1.tl.getD a.2.2.1 0) (a.2.1.getD a.2.2.1 0) a.2.2.2)))
theorem w__law_need {S : Sys} (A : At S.K S.mg "_law_need" (topS 84)) (B : Bt S.mg) (g : Gv S.K S.mg)  : T__law_need S := by
  refine kn_F A sc84 (fun _ _ => rfl) (b4 fun _ _ _ _ _ _ _ _ _ _ => rfl) fun f cdv A outer s H E a hr hp => ?_
  obtain ⟨p, t, i, f⟩ := a
  have o : Ok p := hp.o
  have ht : TabOk p t := hp.t
  have hi : i < p.cl.length := hp.i
  have hf : FrOk f := hp.f
  have hti : i < t.length := by rw [ht.len]; exact hi
  obtain ⟨c, hcm, hc1, hc2, _⟩ := clAt hi
  have hs := t_le ht i
  refine ss_asg (ts := ([4] ++ ([5] ++ []))) ?_
  refine ef_ixT ?_
  refine ef_ixL ?_
  refine ef_i 0 rfl ?_
  refine ⟨_, rfl, ?_⟩
  refine ef_int ?_
  refine ⟨_, _, _, rfl, rfl, (atI_of (i := 1) rfl), ?_⟩
  refine ⟨_, rfl, ?_⟩
  refine ef_i 2 rfl ?_
  refine ⟨_, _, _, rfl, rfl, (atI_of hc1), ?_⟩
  unfold ptyD
  refine ⟨_, rfl, ?_⟩
  refine sg_t ?_
  refine sr_cons ?_
  refine sg_n 4 rfl ?_ sc84.nd
  refine sr_cons ?_
  refine sg_n 5 rfl ?_ sc84.nd
  refine sr_nil ?_
  refine ss_if ?_
  refine et_c ?_
  refine ec_eqI ?_
  refine ef_ixT ?_
  refine ef_i 1 rfl ?_
  refine ⟨_, rfl, ?_⟩
  refine ef_i 2 rfl ?_
  refine ⟨_, _, _, rfl, rfl, (atI_of (tb_at hti)), ?_⟩
  refine ⟨_, rfl, ?_⟩
  refine ef_int ?_
  refine ⟨_, _, rfl, rfl, ?_⟩
  refine ⟨_, rfl, ?_⟩
  refine ⟨fun hk => ?_, fun hk => ?_⟩
  ·
    refine ss_retD ?_
    refine ef_i 5 rfl ?_
    refine ⟨_, rfl, ?_⟩
    have h1 : ((t.getD i 0 : Nat) : Int) = 0 := of_decide_eq_true hk
    have h2 : t.getD i 0 = 0 := by omega
    exact (by show _ = PyData.int (needI p.dv (p.tl.getD i 0) (t.getD i 0) f); rw [h2, hc2]; rfl)
  refine ss_nil ?_
  refine ss_retD ?_
  refine ef_max2 B ?_
  refine ef_i 5 rfl ?_
  refine ⟨_, rfl, ?_⟩
  refine ef_sub ?_
  refine ef_int ?_
  refine ⟨_, rfl, ?_⟩
  refine ef_fdiv ?_
  refine ef_sub ?_
  refine ef_int ?_
  refine ⟨_, rfl, ?_⟩
  refine ef_mul ?_
  refine ef_ixT ?_
  refine ef_i 3 rfl ?_
  refine ⟨_, rfl, ?_⟩
  refine ef_int ?_
  refine ⟨_, _, _, rfl, rfl, (atI_of (i := 0) rfl), ?_⟩
  refine ⟨_, rfl, ?_⟩
  refine ef_ixT ?_
  refine ef_ixL ?_
  refine ef_i 0 rfl ?_
  refine ⟨_, rfl, ?_⟩
  refine ef_int ?_
  refine ⟨_, _, _, rfl, rfl, (atI_of (i := 0) rfl), ?_⟩
  refine ⟨_, rfl, ?_⟩
  refine ef_sub ?_
  refine ef_ixT ?_
  refine ef_i 1 rfl ?_
  refine ⟨_, rfl, ?_⟩
  refine ef_i 2 rfl ?_
  obtain ⟨m, hm⟩ : ∃ m, t.getD i 0 = m + 1 := ⟨t.getD i 0 - 1, by have h1 : ¬ ((t.getD i 0 : Nat) : Int) = 0 := of_decide_eq_false hk; omega⟩
  rw [hm] at hs
  have hml : m < p.dv.length := hs
  obtain ⟨hd1, hd9⟩ := dv_r o hml
  have hq1 := hf.q1
  have hq9 := hf.q9
  refine ⟨_, _, _, rfl, rfl, (atI_of (tb_at hti)), ?_⟩
  refine ⟨_, rfl, ?_⟩
  refine ef_int ?_
  refine ⟨_, _, rfl, rfl, ?_⟩
  refine ⟨_, _, _, rfl, rfl, (atI_eq (k := m) (by show ((t.getD i 0 : Nat) : Int) - 1 = (m : Int); omega) (dv_at hml)), ?_⟩
  refine ⟨_, _, rfl, rfl, .inr (c64 (x := p.dv.getD m 0) (by omega) (by omega)), ?_⟩
  refine ⟨_, _, rfl, rfl, ?_⟩
  refine ⟨_, rfl, ?_⟩
  refine ef_ixT ?_
  refine ef_i 3 rfl ?_
  refine ⟨_, rfl, ?_⟩
  refine ef_int ?_
  refine ⟨_, _, _, rfl, rfl, (atI_of (i := 1) rfl), ?_⟩
  refine ⟨_, _, rfl, rfl, (show CDivN _ f.2 from ⟨by omega, by omega⟩), ?_⟩
  refine ⟨_, _, rfl, rfl, ?_⟩
  refine ⟨_, _, rfl, rfl, ?_⟩
  refine ⟨_, rfl, ?_⟩
  exact (by show _ = PyData.int (needI p.dv (p.tl.getD i 0) (t.getD i 0) f); rw [hm, hc2]; rfl)
theorem hi_pos {x c : Int} (h : 0 ≤ x) (hc : 0 ≤ c) {f : Int} (hf : 1 ≤ f) {z : Int} (hz : 0 ≤ z) (hk : ¬ x * f ≤ z) : 1 ≤ x := by
  rcases Int.lt_or_le x 1 with q | q
  · have : x = 0 := by omega
    subst this
    rw [Int.zero_mul] at hk
    omega
  · exact q
theorem sc85 : FnScope ["_law_parts_here", "_law_split", "_law_at", "_law_price", "_law_need_here"] ["_law_parts_here", "_law_split", "_law_at", "_law_price"] (defScope (topS 85)) := ⟨rfl, rfl, rfl, by decide +kernel, rfl, by decide +kernel, by decide +kernel⟩
abbrev T__law_forced (S : Sys) : Prop := Kn S.P S.w S.K S.mg S.base 3 "_law_forced" ["_law_parts_here", "_law_split", "_law_at", "_law_price"] (spF S.K S.C (α := Pt × List Nat × Nat × Int × Int) (fun a => [ptD a.1, tabD a.2.1, natD a.2.2.1, frD a.2.2.2]) (fun a => NlOk a) (fun a => optD frD (M.stepI a.1.dv (a.1.tl.getD a.2.2.1 0) (a.2.1.getD a.2.2.1 0) a.2.2.2)))
theorem w__law_forced {S : Sys} (A : At S.K S.mg "_law_forced" (topS 85)) (B : Bt S.mg) (g : Gv S.K S.mg) (k__law_need : T__law_need S) (k__law_lowest : T__law_lowest S) : T__law_forced S := by
  refine kn_F A sc85 (fun _ _ => rfl) (b4 fun _ _ _ _ _ _ _ _ _ _ => rfl) fun f cdv A outer s H E a hr hp => ?_
  obtain ⟨p, t, i, f⟩ := a
  have o : Ok p := hp.o
  have ht : TabOk p t := hp.t
  have hi : i < p.cl.length := hp.i
  have hf : FrOk f := hp.f
  have hti : i < t.length := by rw [ht.len]; exact hi
  obtain ⟨c, hcm, hc1, hc2, _⟩ := clAt hi
  have hs := t_le ht i
  refine ss_if ?_
  refine et_c ?_
  refine ec_eqI ?_
  refine ef_ixT ?_
  refine ef_i 1 rfl ?_
  refine ⟨_, rfl, ?_⟩
  refine ef_i 2 rfl ?_
  refine ⟨_, _, _, rfl, rfl, (atI_of (tb_at hti)), ?_⟩
  refine ⟨_, rfl, ?_⟩
  refine ef_len B ?_
  refine ef_ixL ?_
  refine ef_i 0 rfl ?_
  refine ⟨_, rfl, ?_⟩
  refine ef_int ?_
  refine ⟨_, _, _, rfl, rfl, (atI_of (i := 0) rfl), ?_⟩
  refine ⟨_, (by first | exact .inr rfl | exact .inl rfl | exact ⟨_, rfl, rfl⟩), ?_⟩
  refine ⟨_, _, rfl, rfl, ?_⟩
  refine ⟨_, rfl, ?_⟩
  refine ⟨fun hk => ?_, fun hk => ?_⟩
  ·
    refine ss_retD ?_
    refine ef_non ?_
    refine ⟨_, rfl, ?_⟩
    have h1 : ((t.getD i 0 : Nat) : Int) = (((p.dv.map PyData.int).length : Nat) : Int) := of_decide_eq_true hk
    rw [List.length_map] at h1
    have h2 : t.getD i 0 = p.dv.length := by omega
    exact (by show _ = optD frD (M.stepI p.dv _ (t.getD i 0) f); unfold M.stepI; rw [if_pos h2]; rfl)
  refine ss_nil ?_
  refine ss_set 4 ?_ rfl sc85.nd
  refine ef_cF k__law_need (hr.mono (by omega)) ?_
  refine ea_d ?_
  refine ef_i 0 rfl ?_
  refine ⟨_, rfl, ?_⟩
  refine ea_d ?_
  refine ef_i 1 rfl ?_
  refine ⟨_, rfl, ?_⟩
  refine ea_d ?_
  refine ef_i 2 rfl ?_
  refine ⟨_, rfl, ?_⟩
  refine ea_d ?_
  refine ef_i 3 rfl ?_
  refine ⟨_, rfl, ?_⟩
  refine ea_nil ?_
  have h1 : ¬ ((t.getD i 0 : Nat) : Int) = (((p.dv.map PyData.int).length : Nat) : Int) := of_decide_eq_false hk
  rw [List.length_map] at h1
  have hsl : t.getD i 0 < p.dv.length := by omega
  obtain ⟨hd1, hd9⟩ := dv_r o hsl
  have hq1 := hf.q1
  have hq9 := hf.q9
  have hp0 := hf.p0
  have hct := o.ct c hcm
  have hnn := needI_nn (dv := p.dv) (c := p.tl.getD i 0) (s := t.getD i 0) (f := f) (by rw [hc2]; omega)
  refine ⟨(p, t, i, f), rfl, hp, ?_⟩
  refine ⟨_, rfl, rfl, ?_⟩
  refine ss_if ?_
  refine et_c ?_
  refine ec_le ?_
  refine ef_mul ?_
  refine ef_i 4 rfl ?_
  refine ⟨_, rfl, ?_⟩
  refine ef_ixT ?_
  refine ef_i 3 rfl ?_
  refine ⟨_, rfl, ?_⟩
  refine ef_int ?_
  refine ⟨_, _, _, rfl, rfl, (atI_of (i := 1) rfl), ?_⟩
  refine ⟨_, _, rfl, rfl, .inr (c64 (x := f.2) (by omega) (by omega)), ?_⟩
  refine ⟨_, rfl, ?_⟩
  refine ef_mul ?_
  refine ef_ixT ?_
  refine ef_i 3 rfl ?_
  refine ⟨_, rfl, ?_⟩
  refine ef_int ?_
  refine ⟨_, _, _, rfl, rfl, (atI_of (i := 0) rfl), ?_⟩
  refine ⟨_, rfl, ?_⟩
  refine ef_ixT ?_
  refine ef_ixL ?_
  refine ef_i 0 rfl ?_
  refine ⟨_, rfl, ?_⟩
  refine ef_int ?_
  refine ⟨_, _, _, rfl, rfl, (atI_of (i := 0) rfl), ?_⟩
  refine ⟨_, rfl, ?_⟩
  refine ef_ixT ?_
  refine ef_i 1 rfl ?_
  refine ⟨_, rfl, ?_⟩
  refine ef_i 2 rfl ?_
  refine ⟨_, _, _, rfl, rfl, (atI_of (tb_at hti)), ?_⟩
  refine ⟨_, _, _, rfl, rfl, (atI_of (dv_at hsl)), ?_⟩
  refine ⟨_, _, rfl, rfl, .inr (c64 (x := p.dv.getD (t.getD i 0) 0) (by omega) (by omega)), ?_⟩
  refine ⟨_, _, rfl, rfl, ?_⟩
  refine ⟨_, rfl, ?_⟩
  refine ⟨fun hk => ?_, fun hk => ?_⟩
  ·
    refine ss_retD ?_
    refine ef_non ?_
    refine ⟨_, rfl, ?_⟩
    have h2 := of_decide_eq_true hk
    exact (by show _ = optD frD (M.stepI p.dv (p.tl.getD i 0) (t.getD i 0) f); unfold M.stepI; rw [if_neg (by omega), if_pos h2]; rfl)
  refine ss_nil ?_
  refine ss_retD ?_
  refine ef_cF k__law_lowest (hr.mono (by omega)) ?_
  refine ea_d ?_
  refine ef_i 4 rfl ?_
  refine ⟨_, rfl, ?_⟩
  refine ea_d ?_
  refine ef_ixT ?_
  refine ef_ixL ?_
  refine ef_i 0 rfl ?_
  refine ⟨_, rfl, ?_⟩
  refine ef_int ?_
  refine ⟨_, _, _, rfl, rfl, (atI_of (i := 0) rfl), ?_⟩
  refine ⟨_, rfl, ?_⟩
  refine ef_ixT ?_
  refine ef_i 1 rfl ?_
  refine ⟨_, rfl, ?_⟩
  refine ef_i 2 rfl ?_
  have h2 := of_decide_eq_false hk
  refine ⟨_, _, _, rfl, rfl, (atI_of (tb_at hti)), ?_⟩
  refine ⟨_, _, _, rfl, rfl, (atI_of (dv_at hsl)), ?_⟩
  refine ⟨_, rfl, ?_⟩
  refine ea_nil ?_
  refine ⟨(needI p.dv (p.tl.getD i 0) (t.getD i 0) f, p.dv.getD (t.getD i 0) 0), rfl, ⟨hnn, hd1, hd9⟩, ?_⟩
  refine ⟨_, rfl, ?_⟩
  exact (by show _ = optD frD (M.stepI p.dv (p.tl.getD i 0) (t.getD i 0) f); unfold M.stepI; rw [if_neg (by omega), if_neg h2]; rfl)
end W
/-! V2: the law: lacks, held, given, splits -/
namespace W
open PySem PySem.Spec PyProof.Rows L2 DL M

def lkV (p : Pt) (t : List Nat) (f : Int × Int) : PyData → Int
  | .int i => needI p.dv (p.tl.getD i.toNat 0) (t.getD i.toNat 0) f - p.tl.getD i.toNat 0
  | _ => 0
theorem lkV_fin {p : Pt} {t : List Nat} {f : Int × Int} (ht : t.length = p.cl.length) : PyData.list ((rngD p.cl.length).map fun d => .int (lkV p t f d)) = .list ((lacks p t f).map .int) := by
  congr 1
  refine List.ext_getElem (by simp [rngD, lacks, ht]) fun i h1 h2 => ?_
  have hi : i < p.cl.length := by simpa [rngD] using h1
  have hti : i < t.length := by omega
  simp only [rngD, lacks, List.getElem_map, List.getElem_range, List.getElem_zip, lkV, Int.toNat_natCast, Pt.tl]
  rw [List.getD_eq_getElem?_getD, List.getD_eq_getElem?_getD, List.getElem?_map, List.getElem?_eq_getElem hi, List.getElem?_eq_getElem hti]
  rfl
theorem rng_mem {n : Nat} {d : PyData} (h : d ∈ rngD n) : ∃ i, i < n ∧ d = natD i := by
  obtain ⟨i, hi, rfl⟩ := List.mem_map.mp h
  exact ⟨i, List.mem_range.mp hi, rfl⟩
theorem sc87 : FnScope ["_law_parts_here", "_law_split", "_law_price", "_law_at"] ["_law_parts_here", "_law_split", "_law_price"] (defScope (topS 87)) := ⟨rfl, rfl, rfl, by decide +kernel, rfl, by decide +kernel, by decide +kernel⟩
abbrev T__law_lacks (S : Sys) : Prop := Kn S.P S.w S.K S.mg S.base 3 "_law_lacks" ["_law_parts_here", "_law_split", "_law_price"] (spF S.K S.C (α := Pt × List Nat × Int × Int) (fun a => [ptD a.1, tabD a.2.1, frD a.2.2]) (fun a => TfOk a) (fun a => .list ((lacks a.1 a.2.1 a.2.2).map .int)))
theorem w__law_lacks {S : Sys} (A : At S.K S.mg "_law_lacks" (topS 87)) (B : Bt S.mg) (g : Gv S.K S.mg) (k__law_need : T__law_need S) : T__law_lacks S := by
  refine kn_F A sc87 (fun _ _ => rfl) (b3 fun _ _ _ _ _ _ _ _ _ => rfl) fun f cdv A outer s H E a hr hp => ?_
  obtain ⟨p, t, f⟩ := a
  have o : Ok p := hp.o
  have ht : TabOk p t := hp.t
  have hf : FrOk f := hp.f
  refine ss_retD ?_
  refine ef_lcM (ts := [3]) [("_law_at", 3)] (fun d => .int (lkV p t f d)) (show blkC ["_law_parts_here", "_law_split", "_law_price", "_law_at"] (defScope (topS 87)) _ [("_law_at", 3)] = true from by decide +kernel) sc87.nd ?_
  refine ei_r B ?_
  refine ef_len B ?_
  refine ef_ixL ?_
  refine ef_i 0 rfl ?_
  refine ⟨_, rfl, ?_⟩
  refine ef_int ?_
  refine ⟨_, _, _, rfl, rfl, (atI_of (i := 1) rfl), ?_⟩
  refine ⟨_, (by first | exact .inr rfl | exact .inl rfl | exact ⟨_, rfl, rfl⟩), ?_⟩
  refine ⟨_, rfl, (by have := o.c3; rw [List.length_map]; show (((p.cl.length : Nat) : Int)) ≤ _; omega), (by have := o.c3; rw [List.length_map]; show _ ≤ ((p.cl.length : Nat) : Int); omega), ?_⟩
  refine ⟨rfl, (by have := o.c3; rw [rngD_len, List.length_map]; show ((p.cl.length : Int)).toNat ≤ _; omega), by decide, fun d hd s H0 Cc cl fp => ?_, ?_⟩
  ·
    rw [List.length_map] at hd
    obtain ⟨i, hi, rfl⟩ := rng_mem hd
    obtain ⟨c, hcm, hc1, hc2, _⟩ := clAt (p := p) hi
    refine sg_n 3 rfl ?_ sc87.nd
    refine ⟨rfl, fun s H0 Cc cl fp => ?_⟩
    refine ef_sub ?_
    refine ef_cF k__law_need (hr.mono (by omega)) ?_
    refine ea_d ?_
    refine ef_i 0 rfl ?_
    refine ⟨_, rfl, ?_⟩
    refine ea_d ?_
    refine ef_i 1 rfl ?_
    refine ⟨_, rfl, ?_⟩
    refine ea_d ?_
    refine ef_i 3 rfl ?_
    refine ⟨_, rfl, ?_⟩
    refine ea_d ?_
    refine ef_i 2 rfl ?_
    refine ⟨_, rfl, ?_⟩
    refine ea_nil ?_
    refine ⟨(p, t, i, f), rfl, ⟨o, ht, hi, hf⟩, ?_⟩
    refine ⟨_, rfl, ?_⟩
    refine ef_ixT ?_
    refine ef_ixT ?_
    refine ef_ixL ?_
    refine ef_i 0 rfl ?_
    refine ⟨_, rfl, ?_⟩
    refine ef_int ?_
    refine ⟨_, _, _, rfl, rfl, (atI_of (i := 1) rfl), ?_⟩
    refine ⟨_, rfl, ?_⟩
    refine ef_i 3 rfl ?_
    refine ⟨_, _, _, rfl, rfl, (atI_of hc1), ?_⟩
    unfold ptyD
    refine ⟨_, rfl, ?_⟩
    refine ef_int ?_
    refine ⟨_, _, _, rfl, rfl, (atI_of (i := 1) rfl), ?_⟩
    refine ⟨_, _, rfl, rfl, ?_⟩
    exact ⟨(by show _ = Vl.d (PyData.int (needI p.dv (p.tl.getD ((i : Int)).toNat 0) (t.getD ((i : Int)).toNat 0) f - p.tl.getD ((i : Int)).toNat 0)); rw [Int.toNat_natCast, hc2]), rfl⟩
  refine ⟨_, rfl, ?_⟩
  exact (by rw [List.length_map]; exact lkV_fin ht.len)
def inL (ss : List Str) : PyData → Bool
  | .tuple [.tuple [.str z, _], _] => decide (z ∈ ss)
  | _ => false
theorem heldL_fin (p : Pt) (ss : List Str) (t : List Nat) : (((zipD (p.cl.map ptyD) (t.map natD)).filter (inL ss)).map fun d => ((stF d : Nat) : Int)).sum = ((held p ss t : Nat) : Int) := by
  unfold held
  generalize p.cl = cl
  induction cl generalizing t with
  | nil => rfl
  | cons c cl ih =>
    cases t with
    | nil => rfl
    | cons n t =>
      have e : zipD ((c :: cl).map ptyD) ((n :: t).map natD) = .tuple [ptyD c, natD n] :: zipD (cl.map ptyD) (t.map natD) := rfl
      rw [e, List.zip_cons_cons, List.filter_cons, List.filter_cons]
      have e2 : inL ss (.tuple [ptyD c, natD n]) = decide (c.1 ∈ ss) := rfl
      rw [e2]
      by_cases h : c.1 ∈ ss
      · rw [if_pos (by simpa using h), if_pos (by simpa using h), List.map_cons, List.sum_cons, ih, List.map_cons, List.sum_cons]
        rfl
      · rw [if_neg (by simpa using h), if_neg (by simpa using h), ih]
theorem zip_pn {p : Pt} {t : List Nat} {d : PyData} (h : d ∈ zipD (p.cl.map ptyD) (t.map natD)) : ∃ c ∈ p.cl, ∃ n ∈ t, d = .tuple [ptyD c, natD n] := by
  rw [zipD_map] at h
  obtain ⟨q, hq, rfl⟩ := List.mem_map.mp h
  exact ⟨q.1, (List.of_mem_zip hq).1, q.2, (List.of_mem_zip hq).2, rfl⟩
theorem sc78 : FnScope ["_law_parts_here", "_law_gang_here", "_law_split", "_law_club", "_law_won"] ["_law_parts_here", "_law_gang_here", "_law_split"] (defScope (topS 78)) := ⟨rfl, rfl, rfl, by decide +kernel, rfl, by decide +kernel, by decide +kernel⟩
abbrev T__law_held (S : Sys) : Prop := Kn S.P S.w S.K S.mg S.base 1 "_law_held" ["_law_parts_here", "_law_gang_here", "_law_split"] (spF S.K S.C (α := Pt × List Str × List Nat) (fun a => [ptD a.1, .tuple (a.2.1.map .str), tabD a.2.2]) (fun a => SiOk a) (fun a => .int (held a.1 a.2.1 a.2.2 : Int)))
theorem w__law_held {S : Sys} (A : At S.K S.mg "_law_held" (topS 78)) (B : Bt S.mg) (g : Gv S.K S.mg)  : T__law_held S := by
  refine kn_F A sc78 (fun _ _ => rfl) (b3 fun _ _ _ _ _ _ _ _ _ => rfl) fun f cdv A outer s H E a hr hp => ?_
  refine ss_retD ?_
  refine ef_sumF B ?_
  refine ef_lcP (ts := ([3] ++ ([4] ++ []))) [("_law_club", 3), ("_law_won", 4)] (fun d => .int ((stF d : Nat) : Int)) (inL a.2.1) (show blkC ["_law_parts_here", "_law_gang_here", "_law_split", "_law_club", "_law_won"] (defScope (topS 78)) _ [("_law_club", 3), ("_law_won", 4)] = true from by decide +kernel) sc78.nd ?_
  refine ei_zip true true B ?_
  refine ef_ixL ?_
  refine ef_i 0 rfl ?_
  refine ⟨_, rfl, ?_⟩
  refine ef_int ?_
  refine ⟨_, _, _, rfl, rfl, (atI_of (i := 1) rfl), ?_⟩
  refine ⟨_, rfl, ?_⟩
  refine ef_i 2 rfl ?_
  refine ⟨_, rfl, ?_⟩
  refine ⟨rfl, (by have h3 := hp.l; show (zipD (a.1.cl.map ptyD) (a.2.2.map natD)).length ≤ 100000; rw [zipD_len, List.length_map, List.length_map]; omega), by decide, fun d hd s H0 Cc cl fp => ?_, ?_⟩
  ·
    obtain ⟨c, hc, n, hn, rfl⟩ := zip_pn hd
    unfold ptyD
    refine sg_t ?_
    refine sr_cons ?_
    refine sg_n 3 rfl ?_ sc78.nd
    refine sr_cons ?_
    refine sg_n 4 rfl ?_ sc78.nd
    refine sr_nil ?_
    intro s H0 Cc cl fp
    refine et_c ?_
    refine ec_in ?_
    refine ef_ixT ?_
    refine ef_i 3 rfl ?_
    refine ⟨_, rfl, ?_⟩
    refine ef_int ?_
    refine ⟨_, _, _, rfl, rfl, (atI_of (i := 0) rfl), ?_⟩
    refine ⟨_, rfl, ?_⟩
    refine ef_i 1 rfl ?_
    refine ⟨_, _, rfl, .inr rfl, ?_⟩
    refine ⟨_, rfl, ?_⟩
    refine ⟨(by first | rfl | assumption | decide | omega | exact (nomatch hk)), rfl, rfl, fun hk s H0 Cc cl fp => ?_⟩
    refine ef_i 4 rfl ?_
    exact ⟨(by show Vl.d (natD n) = Vl.d (.int ((((n : Int)).toNat : Nat) : Int)); rw [Int.toNat_natCast]; rfl), rfl⟩
  refine ⟨_, _, rfl, ?_⟩
  refine ⟨_, rfl, ?_⟩
  exact congrArg PyData.int (heldL_fin a.1 a.2.1 a.2.2)
structure GiOk (a : Pt × List Str) : Prop where
  o : Ok a.1
  l : a.2.length ≤ 3000
theorem any_str (ss own : List Str) : (ss.map PyData.str).any (inS own) = ss.any fun z => decide (z ∈ own) := by
  rw [List.any_map]
  rfl
theorem sc88 : FnScope ["_law_parts_here", "_law_some", "_law_heap", "_law_own", "_law_word"] ["_law_parts_here", "_law_some"] (defScope (topS 88)) := ⟨rfl, rfl, rfl, by decide +kernel, rfl, by decide +kernel, by decide +kernel⟩
abbrev T__law_given (S : Sys) : Prop := Kn S.P S.w S.K S.mg S.base 1 "_law_given" ["_law_parts_here", "_law_some"] (spF S.K S.C (α := Pt × List Str) (fun a => [ptD a.1, .tuple (a.2.map .str)]) (fun a => GiOk a) (fun a => .int (given a.1 a.2)))
theorem w__law_given {S : Sys} (A : At S.K S.mg "_law_given" (topS 88)) (B : Bt S.mg) (g : Gv S.K S.mg)  : T__law_given S := by
  refine kn_F A sc88 (fun _ _ => rfl) (b2 fun _ _ _ _ _ _ _ _ => rfl) fun f cdv A outer s H E a hr hp => ?_
  refine ss_retD ?_
  refine ef_sumF B ?_
  refine ef_lcP (ts := ([2] ++ ([3] ++ []))) [("_law_heap", 2), ("_law_own", 3)] (fun d => .int (szF d)) (fun d => a.2.any fun z => decide (z ∈ ownF d)) (show blkC ["_law_parts_here", "_law_some", "_law_heap", "_law_own", "_law_word"] (defScope (topS 88)) _ [("_law_heap", 2), ("_law_own", 3)] = true from by decide +kernel) sc88.nd ?_
  refine ei_t ?_
  refine ef_ixL ?_
  refine ef_i 0 rfl ?_
  refine ⟨_, rfl, ?_⟩
  refine ef_int ?_
  refine ⟨_, _, _, rfl, rfl, (atI_of (i := 2) rfl), ?_⟩
  refine ⟨_, rfl, ?_⟩
  refine ⟨rfl, (by have h3 := hp.o.h2; show (a.1.hp.map pilD).length ≤ 100000; rw [List.length_map]; omega), by decide, fun d hd s H0 Cc cl fp => ?_, ?_⟩
  ·
    obtain ⟨h, hh, rfl⟩ := List.mem_map.mp hd
    unfold pilD
    refine sg_t ?_
    refine sr_cons ?_
    refine sg_n 2 rfl ?_ sc88.nd
    refine sr_cons ?_
    refine sg_n 3 rfl ?_ sc88.nd
    refine sr_nil ?_
    intro s H0 Cc cl fp
    refine et_v ?_
    refine ef_anyF B ?_
    refine ef_lcM (ts := [4]) [("_law_word", 4)] (fun d => .bool (inS h.2 d)) (by kernel_rfl) sc88.nd ?_
    refine ei_t ?_
    refine ef_i 1 rfl ?_
    refine ⟨_, rfl, ?_⟩
    refine ⟨rfl, (by have h3 := hp.l; rw [List.length_map]; omega), by decide, fun d hd s H0 Cc cl fp => ?_, ?_⟩
    ·
      obtain ⟨z, hz, rfl⟩ := List.mem_map.mp hd
      refine sg_n 4 rfl ?_ sc88.nd
      refine ⟨rfl, fun s H0 Cc cl fp => ?_⟩
      refine ef_c ?_
      refine ec_in ?_
      refine ef_i 4 rfl ?_
      refine ⟨_, rfl, ?_⟩
      refine ef_i 3 rfl ?_
      refine ⟨_, _, rfl, .inr rfl, ?_⟩
      exact ⟨rfl, rfl⟩
    refine ⟨_, _, rfl, ?_⟩
    refine ⟨_, rfl, ?_⟩
    refine ⟨(by rw [any_str]; show _ = (a.2.any fun z => decide (z ∈ ownF (pilD h))); rw [ownF_pil]), rfl, rfl, fun hk s H0 Cc cl fp => ?_⟩
    refine ef_i 2 rfl ?_
    exact ⟨rfl, rfl⟩
  refine ⟨_, _, rfl, ?_⟩
  refine ⟨_, rfl, ?_⟩
  exact (by rw [given_fin])
theorem dat_mem {ds : List PyData} (h : Dat (.tuple ds)) {d : PyData} (m : d ∈ ds) : Dat d := by
  cases h with
  | tup h _ => exact h d m
def w12 (d : PyData) : Bool := inB 0 12 d
theorem w12_ints : ∀ {ds : List PyData}, ds.all w12 = true → ∃ ns : List Int, ds = ns.map .int ∧ ds.map inV = ns
  | [], _ => ⟨[], rfl, rfl⟩
  | d :: ds, h => by
    rw [List.all_cons, Bool.and_eq_true] at h
    obtain ⟨ns, h1, h2⟩ := w12_ints h.2
    cases d with
    | int i => exact ⟨i :: ns, by rw [h1]; rfl, by rw [List.map_cons, h2]; rfl⟩
    | _ => exact (nomatch h.1)
def isSp (p : Pt) : PyData → Bool
  | .tuple ds => decide (ds.length = p.cl.length) && (ds.all w12 && decide ((ds.map inV).sum = (p.dv.length : Int)))
  | _ => false
theorem sc83 : FnScope ["_law_parts_here", "_law_value", "_law_won"] ["_law_parts_here", "_law_value"] (defScope (topS 83)) := ⟨rfl, rfl, rfl, by decide +kernel, rfl, by decide +kernel, by decide +kernel⟩
abbrev T__law_is_split (S : Sys) : Prop := Kn S.P S.w S.K S.mg S.base 2 "_law_is_split" ["_law_parts_here", "_law_value"] (spF S.K S.C (α := Pt × PyData) (fun a => [ptD a.1, a.2]) (fun a => BlOk a) (fun a => .bool (isSp a.1 a.2)))
theorem w__law_is_split {S : Sys} (A : At S.K S.mg "_law_is_split" (topS 83)) (B : Bt S.mg) (g : Gv S.K S.mg) (k__law_whole : T__law_whole S) : T__law_is_split S := by
  refine kn_F A sc83 (fun _ _ => rfl) (b2 fun _ _ _ _ _ _ _ _ => rfl) fun f cdv A outer s H E a hr hp => ?_
  obtain ⟨p, v⟩ := a
  have hv : Dat v := hp.d
  refine ss_if ?_
  refine et_cut (!isTupN p.cl.length v) ?_ ?_
  ·
    refine et_w ?_
    refine ew_or ?_
    refine et_not ?_
    refine et_v ?_
    refine ef_isTup B ?_
    refine ef_i 1 rfl ?_
    refine ⟨_, rfl, hv.pl, ?_⟩
    refine ⟨_, rfl, ?_⟩
    refine ⟨fun hk => ?_, fun hk => ?_⟩
    · exact ⟨(by cases v <;> first | rfl | cases hk), rfl⟩
    refine ew_one_or ?_
    refine et_c ?_
    refine ec_neI ?_
    refine ef_len B ?_
    refine ef_i 1 rfl ?_
    obtain ⟨ds, rfl⟩ := isTup_inv (d := v) (by simpa using hk)
    refine ⟨_, (.inr rfl), ?_⟩
    refine ⟨_, rfl, ?_⟩
    refine ef_len B ?_
    refine ef_ixL ?_
    refine ef_i 0 rfl ?_
    refine ⟨_, rfl, ?_⟩
    refine ef_int ?_
    refine ⟨_, _, _, rfl, rfl, (atI_of (i := 1) rfl), ?_⟩
    refine ⟨_, (by first | exact .inr rfl | exact .inl rfl | exact ⟨_, rfl, rfl⟩), ?_⟩
    refine ⟨_, _, rfl, rfl, ?_⟩
    refine ⟨_, rfl, ?_⟩
    exact ⟨(by rw [List.length_map]; show (!decide ((ds.length : Int) = (p.cl.length : Int))) = !decide (ds.length = p.cl.length); congr 1; exact decide_eq_decide.mpr ⟨fun h => by omega, fun h => by omega⟩), rfl⟩
  refine ⟨fun hk => ?_, fun hk => ?_⟩
  ·
    refine ss_retD ?_
    refine ef_bl ?_
    refine ⟨_, rfl, ?_⟩
    exact (by show PyData.bool false = .bool (isSp p v); cases v <;> first | rfl | (rename_i ds; have : decide (ds.length = p.cl.length) = false := (by simpa [isTupN] using hk); show _ = PyData.bool (decide (ds.length = p.cl.length) && _); simp only [this, Bool.false_and]))
  refine ss_nil ?_
  refine ss_retD ?_
  obtain ⟨ds, rfl, hlen⟩ : ∃ ds, v = .tuple ds ∧ ds.length = p.cl.length := by cases v <;> first | (rename_i ds; exact ⟨ds, rfl, by simpa [isTupN] using hk⟩) | cases hk
  have hdl : ds.length ≤ 3000 := hp.l ds rfl
  refine ef_cut (.bool (ds.all w12 && decide ((ds.map inV).sum = (p.dv.length : Int)))) ?_ ?_
  ·
    refine ef_and2 ?_
    refine ef_allF B ?_
    refine ef_lcM (ts := [2]) [("_law_won", 2)] (fun d => .bool (w12 d)) (show blkC ["_law_parts_here", "_law_value", "_law_won"] (defScope (topS 83)) _ [("_law_won", 2)] = true from by decide +kernel) sc83.nd ?_
    refine ei_t ?_
    refine ef_i 1 rfl ?_
    refine ⟨_, rfl, ?_⟩
    refine ⟨rfl, (by omega), by decide, fun d hd s H0 Cc cl fp => ?_, ?_⟩
    ·
      refine sg_n 2 rfl ?_ sc83.nd
      refine ⟨rfl, fun s H0 Cc cl fp => ?_⟩
      refine ef_cF k__law_whole (hr.mono (by omega)) ?_
      refine ea_d ?_
      refine ef_i 2 rfl ?_
      refine ⟨_, rfl, ?_⟩
      refine ea_d ?_
      refine ef_int ?_
      refine ⟨_, rfl, ?_⟩
      refine ea_d ?_
      refine ef_int ?_
      refine ⟨_, rfl, ?_⟩
      refine ea_nil ?_
      refine ⟨(d, 0, 12), rfl, (dat_mem hv hd).pl, ?_⟩
      exact ⟨rfl, rfl⟩
    refine ⟨_, _, rfl, ?_⟩
    refine ⟨_, rfl, fun hk => ?_, fun hk => ?_⟩
    · exact ⟨(by rw [hk]; rfl), rfl⟩
    refine ef_c ?_
    refine ec_eqI ?_
    refine ef_sumT B ?_
    refine ef_i 1 rfl ?_
    obtain ⟨ns, h1, h2⟩ := w12_ints hk
    refine ⟨_, (by rw [h1]), ?_⟩
    refine ⟨_, rfl, ?_⟩
    refine ef_len B ?_
    refine ef_ixL ?_
    refine ef_i 0 rfl ?_
    refine ⟨_, rfl, ?_⟩
    refine ef_int ?_
    refine ⟨_, _, _, rfl, rfl, (atI_of (i := 0) rfl), ?_⟩
    refine ⟨_, (by first | exact .inr rfl | exact .inl rfl | exact ⟨_, rfl, rfl⟩), ?_⟩
    refine ⟨_, _, rfl, rfl, ?_⟩
    exact ⟨(by rw [hk, h2, List.length_map]; rfl), rfl⟩
  refine ⟨_, rfl, ?_⟩
  exact (by show _ = PyData.bool (decide (ds.length = p.cl.length) && _); rw [decide_eq_true hlen]; rfl)
/-! the splits, as the law makes them -/
def extS (s : Nat) (rows : List (List Nat)) : List (List Nat) := rows.flatMap fun r => (List.range (s - r.sum + 1)).map fun w => r ++ [w]
def itS (s : Nat) : Nat → List (List Nat)
  | 0 => [[]]
  | k + 1 => extS s (itS s k)
def finS (s : Nat) (rows : List (List Nat)) : List (List Nat) := rows.map fun r => r ++ [s - r.sum]
theorem splits_tabs : ∀ m, m < 3 → ∀ s, s ≤ 3 → finS s (itS s m) = tabs (m + 1) s := by decide
theorem itS_ok : ∀ m, m < 3 → ∀ s, s ≤ 3 → (itS s m).length ≤ 100 ∧ ∀ r ∈ itS s m, r.sum ≤ s ∧ r.length ≤ 2 := by decide
theorem tab_get {rows : List (List Nat)} {j : Nat} {d : PyData} (h : (rows.map tabD)[j]? = some d) : ∃ r, rows[j]? = some r ∧ tabD r = d := by
  rw [List.getElem?_map] at h
  cases e : rows[j]? with
  | none =>
    rw [e] at h
    cases h
  | some r =>
    rw [e] at h
    exact ⟨r, rfl, by simpa using h⟩
theorem ext_len {s : Nat} : ∀ {rows : List (List Nat)}, s ≤ 3 → rows.length ≤ 100 → (extS s rows).length ≤ 1000 := fun {rows} h1 h2 => by
  have : (extS s rows).length ≤ rows.length * 4 := by
    unfold extS
    clear h2
    induction rows with
    | nil => exact Nat.zero_le _
    | cons r rows ih =>
      rw [List.flatMap_cons, List.length_append, List.length_map, List.length_range, List.length_cons]
      omega
  omega
def exF (r : List Nat) : PyData → PyData
  | .int i => tabD (r ++ [i.toNat])
  | _ => .none
def fiF (s : Nat) : PyData → PyData
  | .tuple ds => .tuple (ds ++ [.int ((s : Int) - (ds.map inV).sum)])
  | _ => .none
theorem inV_sum (r : List Nat) : ((r.map natD).map inV).sum = ((r.sum : Nat) : Int) := by
  induction r with
  | nil => rfl
  | cons x xs ih =>
    rw [List.map_cons, List.map_cons, List.sum_cons, List.sum_cons, ih]
    show (x : Int) + _ = _
    omega
theorem tab_ints (r : List Nat) : (r.map natD) = (r.map fun n : Nat => (n : Int)).map PyData.int := by
  rw [List.map_map]
  rfl
theorem int_sum (r : List Nat) : (r.map fun n : Nat => (n : Int)).sum = ((r.sum : Nat) : Int) := by
  induction r with
  | nil => rfl
  | cons x xs ih =>
    rw [List.map_cons, List.sum_cons, List.sum_cons, ih]
    omega
theorem ext_row (s : Nat) (r : List Nat) : (rngD (s - r.sum + 1)).map (exF r) = ((List.range (s - r.sum + 1)).map fun w => r ++ [w]).map tabD := by
  unfold rngD
  rw [List.map_map, List.map_map]
  refine List.map_congr_left fun w _ => ?_
  show tabD (r ++ [((w : Int)).toNat]) = _
  rw [Int.toNat_natCast]
  rfl
theorem ext_step {s : Nat} {rows : List (List Nat)} {j : Nat} {r : List Nat} (h : rows[j]? = some r) : extS s (rows.take (j + 1)) = extS s (rows.take j) ++ (List.range (s - r.sum + 1)).map fun w => r ++ [w] := by
  unfold extS
  rw [List.take_add_one, h, Option.toList_some, List.flatMap_append]
  simp
theorem fin_rows {s : Nat} {rows : List (List Nat)} (h : ∀ r ∈ rows, r.sum ≤ s) : (rows.map tabD).map (fiF s) = (finS s rows).map tabD := by
  unfold finS
  rw [List.map_map, List.map_map]
  refine List.map_congr_left fun r hr => ?_
  show PyData.tuple (r.map natD ++ [.int ((s : Int) - ((r.map natD).map inV).sum)]) = PyData.tuple ((r ++ [s - r.sum]).map natD)
  rw [inV_sum, List.map_append]
  have := h r hr
  congr 3
  show PyData.int _ = natD (s - r.sum)
  unfold natD
  congr 1
  omega
theorem sc77 : FnScope ["_law_parts_here", "_law_found", "_law_chairs", "_law_turn", "_law_longer", "_law_row", "_law_won"] ["_law_parts_here"] (defScope (topS 77)) := ⟨rfl, rfl, rfl, by decide +kernel, rfl, by decide +kernel, by decide +kernel⟩
abbrev T__law_splits (S : Sys) : Prop := Kn S.P S.w S.K S.mg S.base 1 "_law_splits" ["_law_parts_here"] (spF S.K S.C (α := Pt) (fun p => [ptD p]) (fun p => Ok p) (fun p => .list ((tabs p.cl.length p.dv.length).map tabD)))
theorem w__law_splits {S : Sys} (A : At S.K S.mg "_law_splits" (topS 77)) (B : Bt S.mg) (g : Gv S.K S.mg)  : T__law_splits S := by
  refine kn_F A sc77 (fun _ _ => rfl) (b1 fun _ _ _ _ _ _ _ => rfl) fun f cdv A outer s H E a hr hp => ?_
  have o : Ok a := hp
  generalize a = p at *
  have hc1 := o.c1
  have hc3 := o.c3
  have hd3 := o.d3
  obtain ⟨m, hm⟩ : ∃ m, p.cl.length = m + 1 := ⟨p.cl.length - 1, by omega⟩
  refine ss_asg (ts := ([1] ++ ([2] ++ []))) ?_
  refine ef_tup ?_
  refine ea_d ?_
  refine ef_lst ?_
  refine ea_d ?_
  refine ef_tup ?_
  refine ea_nil ?_
  refine ⟨[], rfl, show 0 ≤ sizeLine by decide, ?_⟩
  refine ⟨_, rfl, ?_⟩
  refine ea_nil ?_
  refine ⟨[_], rfl, show 1 ≤ sizeLine by decide, ?_⟩
  refine ⟨_, rfl, ?_⟩
  refine ea_d ?_
  refine ef_len B ?_
  refine ef_ixL ?_
  refine ef_i 0 rfl ?_
  refine ⟨_, rfl, ?_⟩
  refine ef_int ?_
  refine ⟨_, _, _, rfl, rfl, (atI_of (i := 0) rfl), ?_⟩
  refine ⟨_, (.inr rfl), ?_⟩
  refine ⟨_, rfl, ?_⟩
  refine ea_nil ?_
  refine ⟨[_, _], rfl, show 2 ≤ sizeLine by decide, ?_⟩
  refine ⟨_, rfl, ?_⟩
  refine sg_t ?_
  refine sr_cons ?_
  refine sg_n 1 rfl ?_ sc77.nd
  refine sr_cons ?_
  refine sg_n 2 rfl ?_ sc77.nd
  refine sr_nil ?_
  refine ss_for (ts := [3]) ?_
  refine ei_r B ?_
  refine ef_sub ?_
  refine ef_len B ?_
  refine ef_ixL ?_
  refine ef_i 0 rfl ?_
  refine ⟨_, rfl, ?_⟩
  refine ef_int ?_
  refine ⟨_, _, _, rfl, rfl, (atI_of (i := 1) rfl), ?_⟩
  refine ⟨_, (.inr rfl), ?_⟩
  refine ⟨_, rfl, ?_⟩
  refine ef_int ?_
  refine ⟨_, _, rfl, rfl, ?_⟩
  refine ⟨_, rfl, (by rw [List.length_map, hm]; show ((m + 1 : Nat) : Int) - 1 ≤ _; omega), (by rw [List.length_map, hm]; show _ ≤ ((m + 1 : Nat) : Int) - 1; omega), ?_⟩
  refine ⟨(fun i G' => i < 3 ∧ G' = [.imm (ptD p), .imm (.list ((itS p.dv.length i).map tabD)), .imm (.int (p.dv.length : Int)), .un, .un, .un, .un]), ⟨by decide, by rw [List.length_map]; rfl⟩, fun i d G1 hd hP => ?_, fun G1 hP => ?_⟩
  ·
    obtain ⟨hi3, rfl⟩ := hP
    obtain ⟨hi, rfl⟩ := rngD_get hd
    rw [List.length_map, hm] at hi
    have him : i < m := (by omega)
    obtain ⟨hit1, hit2⟩ := itS_ok i hi3 p.dv.length hd3
    refine sg_n 3 rfl ?_ sc77.nd
    refine ss_own 4 ?_ rfl sc77.nd
    refine ea_nil ?_
    refine ⟨[], rfl, by decide, rfl, ?_⟩
    refine ss_for (ts := [5]) ?_
    refine ei_l ?_
    refine ef_i 1 rfl ?_
    refine ⟨_, rfl, ?_⟩
    refine ⟨(fun j G' => G' = [.imm (ptD p), .imm (.list ((itS p.dv.length i).map tabD)), .imm (.int (p.dv.length : Int)), .imm (.int (i : Int)), .own ((extS p.dv.length ((itS p.dv.length i).take j)).map tabD), .un, .un]), rfl, fun i d G1 hd hP => ?_, fun G1 hP => ?_⟩
    ·
      subst hP
      rename_i j d
      obtain ⟨r, hr, rfl⟩ := tab_get hd
      have hrm := List.mem_of_getElem? hr
      obtain ⟨hr1, hr2⟩ := hit2 r hrm
      refine sg_n 5 rfl ?_ sc77.nd
      refine ss_expr ?_
      refine ef_extend 4 rfl rfl ?_
      refine ef_lcM (ts := [6]) [("_law_won", 6)] (exF r) (show blkC ["_law_parts_here", "_law_found", "_law_chairs", "_law_turn", "_law_longer", "_law_row", "_law_won"] (defScope (topS 77)) _ [("_law_won", 6)] = true from by decide +kernel) sc77.nd ?_
      refine ei_r B ?_
      refine ef_add ?_
      refine ef_sub ?_
      refine ef_i 2 rfl ?_
      refine ⟨_, rfl, ?_⟩
      refine ef_sumT B ?_
      refine ef_i 5 rfl ?_
      refine ⟨_, (by show Vl.d (.tuple (r.map natD)) = _; rw [tab_ints]), ?_⟩
      refine ⟨_, _, rfl, rfl, ?_⟩
      refine ⟨_, rfl, ?_⟩
      refine ef_int ?_
      refine ⟨_, _, rfl, rfl, ?_⟩
      refine ⟨_, rfl, (by rw [int_sum]; omega), (by rw [int_sum]; omega), ?_⟩
      refine ⟨rfl, (by rw [rngD_len, int_sum]; omega), by decide, fun d hd s H0 Cc cl fp => ?_, ?_⟩
      ·
        obtain ⟨w, hw, rfl⟩ := rng_mem hd
        refine sg_n 6 rfl ?_ sc77.nd
        refine ⟨rfl, fun s H0 Cc cl fp => ?_⟩
        refine ef_addT ?_
        refine ef_i 5 rfl ?_
        refine ⟨_, rfl, ?_⟩
        refine ef_tup ?_
        refine ea_d ?_
        refine ef_i 6 rfl ?_
        refine ⟨_, rfl, ?_⟩
        refine ea_nil ?_
        refine ⟨[_], rfl, show 1 ≤ sizeLine by decide, ?_⟩
        refine ⟨_, _, rfl, rfl, (by show (r.map natD).length + 1 ≤ sizeLine; rw [List.length_map, sizeLine_eq]; omega), ?_⟩
        exact ⟨(by show Vl.d (PyData.tuple (r.map natD ++ [natD w])) = Vl.d (tabD (r ++ [((w : Int)).toNat])); rw [Int.toNat_natCast]; unfold tabD; rw [List.map_append]; rfl), rfl⟩
      refine ⟨_, _, rfl, rfl, _, rfl, (by rw [List.length_map, List.length_map, rngD_len, int_sum]; have := ext_len (s := p.dv.length) (rows := (itS p.dv.length j).take i) (by omega) (by rw [List.length_take]; omega); omega), ?_⟩
      refine ss_fgt [5] rfl (ss_nil ?_)
      exact (by show _ = _; rw [ext_step hr, List.map_append, ← ext_row, int_sum]; have e9 : ((p.dv.length : Int) - ((r.sum : Nat) : Int) + 1).toNat = p.dv.length - r.sum + 1 := (by omega); rw [e9]; rfl)
    subst hP
    refine ss_mv 1 4 (ds := ((extS p.dv.length ((itS p.dv.length i).take ((itS p.dv.length i).map tabD).length)).map tabD)) ?_ rfl sc77.nd
    refine ef_o 4 rfl rfl ?_
    refine ⟨rfl, rfl, rfl, ?_⟩
    refine ss_fgt [3, 5] rfl (ss_nil ?_)
    exact ⟨by omega, by rw [List.length_map, List.take_length]; rfl⟩
  obtain ⟨hi3, rfl⟩ := hP
  have hlm : (rngD ((((p.cl.map ptyD).length : Nat) : Int) - 1).toNat).length = m := by rw [rngD_len, List.length_map, hm]; omega
  rw [hlm] at hi3 ⊢
  obtain ⟨hit1, hit2⟩ := itS_ok m hi3 p.dv.length hd3
  refine ss_retD ?_
  refine ef_lcM (ts := [5]) [("_law_row", 5)] (fiF p.dv.length) (show blkC ["_law_parts_here", "_law_found", "_law_chairs", "_law_turn", "_law_longer", "_law_row", "_law_won"] (defScope (topS 77)) _ [("_law_row", 5)] = true from by decide +kernel) sc77.nd ?_
  refine ei_l ?_
  refine ef_i 1 rfl ?_
  refine ⟨_, rfl, ?_⟩
  refine ⟨rfl, (by rw [List.length_map]; omega), by decide, fun d hd s H0 Cc cl fp => ?_, ?_⟩
  ·
    obtain ⟨r, hr, rfl⟩ := List.mem_map.mp hd
    obtain ⟨hr1, hr2⟩ := hit2 r hr
    refine sg_n 5 rfl ?_ sc77.nd
    refine ⟨rfl, fun s H0 Cc cl fp => ?_⟩
    refine ef_addT ?_
    refine ef_i 5 rfl ?_
    refine ⟨_, rfl, ?_⟩
    refine ef_tup ?_
    refine ea_d ?_
    refine ef_sub ?_
    refine ef_i 2 rfl ?_
    refine ⟨_, rfl, ?_⟩
    refine ef_sumT B ?_
    refine ef_i 5 rfl ?_
    refine ⟨_, (by show Vl.d (.tuple (r.map natD)) = _; rw [tab_ints]), ?_⟩
    refine ⟨_, _, rfl, rfl, ?_⟩
    refine ⟨_, rfl, ?_⟩
    refine ea_nil ?_
    refine ⟨[_], rfl, show 1 ≤ sizeLine by decide, ?_⟩
    refine ⟨_, _, rfl, rfl, (by show (r.map natD).length + 1 ≤ sizeLine; rw [List.length_map, sizeLine_eq]; omega), ?_⟩
    exact ⟨(by show _ = Vl.d (PyData.tuple (r.map natD ++ [.int ((p.dv.length : Int) - ((r.map natD).map inV).sum)])); rw [inV_sum, int_sum]; rfl), rfl⟩
  refine ⟨_, rfl, ?_⟩
  exact (by rw [fin_rows fun r hr => (hit2 r hr).1, splits_tabs m hi3 _ hd3, hm])
end W
/-! DS1: sets of texts, their order led by the table; sorted(set(texts)). -/
namespace DS
open PySem PySem.Spec PyProof.Rows PySem.Froz L2
/-- the text of a value -/
def sV : Value → Str
  | .str z _ => z
  | _ => Str.empty
section
variable {P : Program} {w : World} {A : Around} {E : Value → Shared → Prop} {s : Shared}
theorem tail_parts (ep : Nat) (es1 : Array (Int × Value)) (t2 : SetTable) (b : Bool) :
    (tailTx ep es1 t2 b).1.toList.Perm es1.toList ∧ (Ris t2.place.toList → Ris (tailTx ep es1 t2 b).2.2.place.toList) ∧ (tailTx ep es1 t2 b).2.2.led = t2.led := by
  unfold tailTx
  split
  · exact ⟨relayAll_perm t2 es1 _, fun _ => relayAll_ris t2 es1 _, relayAll_led t2 es1 _⟩
  · exact ⟨List.Perm.refl _, fun r => r, rfl⟩
theorem add_parts (h : Int) (v : Value) (D : SD) (r : Ris D.2.2.place.toList) :
    (addTx h v D).1.toList.Perm (D.1.toList ++ [(h, v)]) ∧ Ris (addTx h v D).2.2.place.toList ∧ (addTx h v D).2.2.led = D.2.2.led := by
  obtain ⟨es, ep, t⟩ := D
  have pm := layNew_perm t es h v
  have rr := layNew_ris t es h v r
  have ll := layNew_led t es h v
  rw [Array.toList_push] at pm
  unfold addTx
  obtain ⟨q1, q2, q3⟩ := tail_parts ep (layNew t es h v).1 (if (layNew t es h v).2.1.plain = true then { (layNew t es h v).2.1 with plain := false } else (layNew t es h v).2.1) (layNew t es h v).2.2.1
  refine ⟨q1.trans pm, q2 ?_, q3.trans ?_⟩
  · split <;> exact rr
  · split <;> exact ll
/-- a set of the texts l, at a -/
structure SetX (P : Program) (w : World) (h : Heap) (a : Addr) (l : List Str) (D : SD) : Prop where
  get : h.get? a = some (sObj "set" D)
  tx : TxOk P w D l
  nd : l.Nodup
  ris : Ris D.2.2.place.toList
  led : w.params.followText "set-order" = true ∨ D.2.2.led = true
  tx2 : ∀ e ∈ D.1.toList, ∃ z tk, e.2 = Value.str z tk
  pm : (D.1.toList.map fun e => sV e.2).Perm l
theorem SetX.at {h h' : Heap} {a : Addr} {l : List Str} {D : SD} (R : SetX P w h a l D) (k : ∀ o, h.get? a = some o → h'.get? a = some o) : SetX P w h' a l D := ⟨k _ R.get, R.tx, R.nd, R.ris, R.led, R.tx2, R.pm⟩
theorem setX_new {h : Heap} {a : Addr} (ho : h.get? a = some { cls := .type "set", dict := none, data := .set #[] 0 (.fresh 0 0 (!w.params.followText "set-order")) }) : SetX P w h a [] (#[], 0, .fresh 0 0 (!w.params.followText "set-order")) :=
  ⟨ho, TxOk.nil rfl, List.nodup_nil, List.Pairwise.nil, by
    show _ ∨ (!w.params.followText "set-order") = true
    cases w.params.followText "set-order"
    · exact .inr rfl
    · exact .inl rfl, fun e he => by simp at he, by simp⟩
theorem setX_add {a : Addr} {l : List Str} {D : SD} {k : Str} {u : Tok} {Q : Bool → Shared → Prop} (R : SetX P w s.heap a l D) (hb : l.length + 1 < scanBound)
    (h : ∀ h' l' D' b, Heap.SameBut a s.heap h' → SetX P w h' a l' D' → (∀ z, z ∈ l' ↔ z ∈ l ∨ z = k) → l'.length ≤ l.length + 1 → Q b { s with heap := h' }) : wpAny (model P w) A (setAddHashed a (.str k u) (hashStr w k)) Q E s := by
  by_cases hk : k ∈ l
  · obtain ⟨es, ep, t⟩ := D
    have ho := R.get
    have F := R.tx
    have hd : (sObj "set" (es, ep, t)).data = .set es ep t := rfl
    have hf : t.fits es.size = true := F.fit
    have hel : ElemsOf (strKind P w) es.toList := F.el
    have hsz : es.size = l.length := F.sz
    have hb0 : es.size < scanBound := by omega
    have hkey : (strKind P w).is k (.str k u) = true := is_str k u
    unfold setAddHashed setAddHashedIn
    refine wpAny_holding (wpAny_bind (wpAny_setState_of ho hd hf ?_))
    dsimp only
    rw [byScan_of rfl hb0 hel]
    simp only [↓reduceIte]
    unfold setAddByScan
    refine wpAny_bind ?_
    refine wpAny_bind (wpAny_rule ?_)
    refine wpAny_bind (wpAny_setScan_of (knd := strKind P w) (k := k) hkey ho hd hf hel ?_)
    cases hfi : List.findIdx? (fun e => (strKind P w).is k e.2) es.toList with
    | some j =>
      dsimp only
      refine wpAny_pure (wpAny_pure ?_)
      exact h s.heap l (es, ep, t) _ (Heap.SameBut.refl a s.heap) R (fun z => ⟨.inl, fun q => q.elim id fun e => e ▸ hk⟩) (Nat.le_succ _)
    | none =>
      obtain ⟨e, he, q⟩ := (F.mem k).mp hk
      have c := List.findIdx?_eq_none_iff.mp hfi e he
      rw [q] at c
      cases c
  · obtain ⟨p1, p2, p3⟩ := add_parts (hashStr w k) (.str k u) D R.ris
    refine add_x R.get R.tx hk hb (h _ (k :: l) (addTx (hashStr w k) (.str k u) D) true (Heap.SameBut.update s.heap a _) ⟨get_upd _ R.get rfl, add_ok u R.tx, List.nodup_cons.mpr ⟨hk, R.nd⟩, p2, R.led.imp id fun z => by rw [p3]; exact z, fun e he => ?_, ?_⟩ (fun z => ?_) (Nat.le_of_eq (List.length_cons ..)))
    · rcases List.mem_append.mp (p1.mem_iff.mp he) with q | q
      · exact R.tx2 e q
      · rw [List.mem_singleton] at q
        rw [q]
        exact ⟨k, u, rfl⟩
    · refine (p1.map _).trans ?_
      rw [List.map_append]
      refine (List.perm_append_comm).trans ?_
      exact List.Perm.cons k R.pm
    · rw [List.mem_cons]
      exact Or.comm
theorem set_update_txt {I : Addr} {fp wr : List Addr} {G : Array GenState → Array GenState → Prop} {n : Nat} {Pv : Nat → Value → Prop} {St : Nat → Shared → Prop} {R : Result → Shared → Prop}
    (W : WalksS P w A.in1 I fp wr G n Pv St) (S : Addr) (hSf : S ∉ fp) (ns : List Str) (hn : n = ns.length) (hb : ns.length + 1 < scanBound) (hval : ∀ i v, Pv i v → ∃ k t, ns[i]? = some k ∧ v = .str k t) :
    ∀ (k i : Nat) (s : Shared), n - i = k → i ≤ n → St i s → (∃ l D, l.length ≤ i ∧ SetX P w s.heap S l D ∧ ∀ z, z ∈ l ↔ z ∈ ns.take i) →
      (∀ s' l D, Moved (S :: wr) G s s' → l.length ≤ n → SetX P w s'.heap S l D → (∀ z, z ∈ l ↔ z ∈ ns) → R (.ok (.ret .none)) s') →
      codeAny (model P w) A (.builtin "set.update.loop" ⟨[.ref S, .ref I], []⟩) R s := by
  have hSw : S ∉ wr := fun h => hSf (W.sub _ h)
  have hsub : ∀ b ∈ wr, b ∈ S :: wr := fun b hb => List.mem_cons_of_mem _ hb
  intro k
  induction k with
  | zero =>
    intro i s hk' hi hst ⟨l, D, hc, hS, hm0⟩ hR
    have hin : i = n := by omega
    subst hin
    refine codeAny_builtin F.entry_set_update_loop ?_
    rw [Around.under_plainId F.plain_set_update_loop _]
    show wpAny _ A.in1 (pyNext (.ref I) >>= _) _ _ s
    refine wpAny_bind (W.done s _ _ hst fun s' hm => ?_)
    show wpAny _ A.in1 (ret Value.none) _ _ s'
    have e : ns.take i = ns := List.take_of_length_le (by omega)
    rw [e] at hm0
    exact wpAny_pure (hR s' l D (hm.mono hsub) hc (hS.at fun o e => hm.heap S o hSw e) hm0)
  | succ k ih =>
    intro i s hk' hi hst ⟨l, D, hc, hS, hm0⟩ hR
    have hlt : i < n := by omega
    refine codeAny_builtin F.entry_set_update_loop ?_
    rw [Around.under_plainId F.plain_set_update_loop _]
    show wpAny _ A.in1 (pyNext (.ref I) >>= _) _ _ s
    refine wpAny_bind (W.item i s _ _ hlt hst fun v s' hP hst' hm => ?_)
    obtain ⟨z, t, hz, rfl⟩ := hval i v hP
    have hS' : SetX P w s'.heap S l D := hS.at fun o e => hm.heap S o hSw e
    show wpAny _ A.in1 (holding [Value.str z t] (setAdd S (.str z t)) >>= _) _ _ s'
    refine wpAny_bind (wpAny_holding ?_)
    unfold setAdd
    refine wpAny_holding ?_
    refine wpAny_bind ((strKind P w).pyHash (k := z) (is_str z t) ?_)
    refine setX_add (s := { s' with toks := s'.toks + 1 }) hS' (by omega) fun h' l' D' b hsb hS2 hm2 hl2 => ?_
    refine wpAny_pure ⟨plainId_quiet F.plain_set_update_loop _, ih (i + 1) _ (by omega) hlt (W.frame _ s' _ _ hst' (Nat.le_succ _) fun b hb o e => ?_) ⟨l', D', by omega, hS2, fun y => ?_⟩ fun s'' l2 D2 hm'' hc'' hS'' => ?_⟩
    · rw [hsb.2 b (fun h : b = S => hSf (by rw [← h]; exact hb))]; exact e
    · rw [hm2 y, hm0 y, List.take_add_one, hz]
      simp [List.mem_append]
    · refine hR s'' l2 D2 (Moved.trans W.gtrans ((hm.mono hsub).then_heap (Nat.le_succ _) fun b o hb e => ?_) hm'') hc'' hS''
      rw [hsb.2 b (fun h : b = S => hb (by rw [h]; exact List.mem_cons_self))]; exact e
end
end DS
/-! DS2: set(t), sorted(set(t)), sorted(t) for a tuple t of texts. -/
namespace DS
open PySem PySem.Spec PyProof.Rows PySem.Froz L2
section
variable {P : Program} {w : World} {A : Around} {E : Value → Shared → Prop} {s : Shared}
abbrev fresh0 (w : World) : Obj := { cls := .type "set", dict := none, data := .set #[] 0 (.fresh 0 0 (!w.params.followText "set-order")) }
theorem call_set_tupX {l : Addr} {items : Array Value} (ns : List Str) {Q : Value → Shared → Prop} (hh : A.handled = none) (hl : s.heap.IsTuple l items) (hit : StrsAre items.toList ns) (hb : ns.length + 1 < scanBound)
    (h : ∀ (h' : Heap) (tk : Nat) (m : List Str) (D : SD), SetX P w h' s.heap.objs.size m D → (∀ z, z ∈ m ↔ z ∈ ns) → m.length ≤ ns.length → (∀ b o, s.heap.get? b = some o → h'.get? b = some o) → Q (.ref s.heap.objs.size) { s with heap := h', toks := tk }) :
    wpAny (model P w) A (call (.type "set") [.ref l]) Q E s := by
  have hisz : items.size = ns.length := by
    have q := hit.len_eq
    rw [Array.length_toList] at q
    exact q
  obtain ⟨c, tl, hmro⟩ := F.called_set.mro
  have hmade := F.called_set.made
  have hsub := F.called_set.sub
  refine wpAny_call (codeAny_of_tree ?_)
  show wpAny _ _ (callAny (.type "set") _) _ _ _
  refine wpAny_pure ⟨Code.quiet_builtin _ (by decide +kernel), codeAny_builtin F.entry_type_call ?_⟩
  rw [Around.under_plain (weight_type_call_type "set" [.ref l] []) rfl]
  have h1 := F.called_set.notType
  have h2 := F.called_set.canCreate
  have hct := F.typeCall_set_1 (.ref l)
  repeat (any_goals (first | assumption | wp_step))
  refine codeAny_mono (code_set_led1 (.ref l) (E := E) (Q₁ := fun obj s₁ => obj = .ref s.heap.objs.size ∧ s₁ = { s with heap := s.heap.push (fresh0 w) }) ⟨rfl, rfl⟩) fun r s₁ hr => ?_
  cases r with
  | error e => exact hr
  | ok fl =>
    cases fl with
    | ret obj =>
      obtain ⟨rfl, rfl⟩ := hr
      have hS : (s.heap.push (fresh0 w)).get? s.heap.objs.size = some (fresh0 w) := Heap.get?_push_size _ rfl
      have hT : Shared.TypeIs { s with heap := s.heap.push (fresh0 w) } (.ref s.heap.objs.size) "set" := ⟨_, hS, rfl⟩
      have hli := F.called_set.init.lookup
      have hbi := F.called_set.init.bind (.ref s.heap.objs.size)
      repeat (any_goals (first | assumption | wp_step))
      refine codeAny_mono (codeAny_call_builtin (R := wants (fun r s₂ => r = .none ∧ ∃ h' tk m D, s₂ = { s with heap := h', toks := tk } ∧ SetX P w h' s.heap.objs.size m D ∧ (∀ z, z ∈ m ↔ z ∈ ns) ∧ m.length ≤ ns.length ∧
          (∀ b o, s.heap.get? b = some o → h'.get? b = some o)) E) F.called_set.init.plain F.entry_set_init (check_set_init_1 hT ?_)) fun r₂ s₂ hr₂ => ?_
      · obtain ⟨ol, hol, hcl, nl, hdl⟩ := hl
        obtain ⟨ocls, odict, odata, oslots⟩ := ol
        simp only at hcl hdl
        subst hcl; subst hdl
        have hol' : (s.heap.push (fresh0 w)).get? l = some { cls := .type "tuple", dict := odict, data := .seq items nl, slots := oslots } := Heap.get?_push_of_some _ hol
        have hsls := F.sub_tuple_set
        have hslf := F.sub_tuple_frozenset
        have hne : (Value.type "tuple" == Value.type "dict") = false := by decide
        have hl1 : (s.heap.push (fresh0 w)).IsTuple l items := ⟨_, hol', rfl, nl, rfl⟩
        unfold Builtin.«set.__init__» noKeywords Builtin.Frozenset.updateFrom
        generalize hPI : pyIter = PI
        wp_walk
        subst hPI
        refine wpAny_pyIter_tuple hl1 ?_
        refine wpAny_bind (wpAny_runValue ?_)
        have hlS : l < s.heap.objs.size := Heap.lt_size hol
        have hh3 : A.in1.in1.in1.handled = none := by simp [hh]
        have hz1 : (s.heap.push (fresh0 w)).objs.size = s.heap.objs.size + 1 := Heap.size_push ..
        have hneI : l ≠ (s.heap.push (fresh0 w)).objs.size := by
          rw [Heap.size_push]; exact Nat.ne_of_lt (Nat.lt_succ_of_lt hlS)
        have hSf : s.heap.objs.size ∉ [(s.heap.push (fresh0 w)).objs.size, l] := by
          rw [Heap.size_push]; simp only [List.mem_cons, List.mem_singleton, List.not_mem_nil, or_false, not_or]
          exact ⟨Nat.ne_of_lt (Nat.lt_succ_self _), Nat.ne_of_gt hlS⟩
        have hval : ∀ (i : Nat) (v : Value), items[i]? = some v → ∃ k t, ns[i]? = some k ∧ v = .str k t := fun i v hv => by
          obtain ⟨y, t, e1, e2⟩ := hit.item i v (by rw [Array.getElem?_toList]; exact hv)
          exact ⟨y, t, e2, e1⟩
        refine set_update_txt ((Walks.tuple hh3 _ l hneI items).toS) s.heap.objs.size
          hSf ns hisz hb hval (items.size - 0) 0 _ (by omega) (Nat.zero_le _)
          ⟨⟨_, Heap.get?_push_size _ rfl, rfl, rfl⟩, (hl1.push _)⟩ ?hS0 ?hR
        case hS0 =>
          have hget : ((s.heap.push (fresh0 w)).push { cls := .type "tuple_iterator", data := .fields #[.ref l, .int 0 0] }).get? s.heap.objs.size = some (fresh0 w) := Heap.get?_push_of_some _ hS
          exact ⟨[], _, Nat.le_refl 0, setX_new hget, fun z => by simp⟩
        case hR =>
          intro s' m D hm hc' hS' hmem
          obtain ⟨h', g2, d', tk', os'⟩ := s'
          have eg : g2 = s.gens := hm.gens
          have ed : d' = s.drawn := hm.drawn
          have eo : os' = s.os := hm.os
          subst eg; subst ed; subst eo
          show wpAny _ _ _ _ _ _
          refine wpAny_pure ?_
          show wpAny _ _ (ret Value.none) _ _ _
          rw [hisz] at hc'
          refine wpAny_pure ⟨rfl, h', tk', m, D, rfl, hS', hmem, hc', fun b o e => ?_⟩
          have hb0 : b < s.heap.objs.size := Heap.lt_size e
          have hb1 : b ≠ s.heap.objs.size := Nat.ne_of_lt hb0
          have hb2 : b ≠ (s.heap.push (fresh0 w)).objs.size := by
            rw [Heap.size_push]; exact Nat.ne_of_lt (Nat.lt_succ_of_lt hb0)
          exact hm.heap b o (by simp only [List.mem_cons, List.mem_singleton, List.not_mem_nil, or_false, not_or]; exact ⟨hb1, hb2⟩) (Heap.get?_push_of_some _ (Heap.get?_push_of_some _ e))
      · cases r₂ with
        | error e => exact hr₂
        | ok fl₂ =>
          cases fl₂ with
          | ret r =>
            obtain ⟨rfl, h', tk, m, D, rfl, hS', hmem, hc', hk'⟩ := hr₂
            repeat (any_goals (first | assumption | wp_step))
            exact h _ _ _ _ hS' hmem hc' hk'
          | _ => exact hr₂.elim
    | _ => exact hr.elim
theorem strs_back : ∀ (l : List Value), (∀ v ∈ l, ∃ k tk, v = Value.str k tk) → StrsAre l (l.map sV)
  | [], _ => .nil
  | v :: l, h => by
    obtain ⟨k, tk, rfl⟩ := h v List.mem_cons_self
    exact .cons k tk (strs_back l fun u hu => h u (List.mem_cons_of_mem _ hu))
/-- behind the gathering of the items -/
theorem sorted_rest {a : Addr} {vs : List Value} {ss : List Str} {Q : Value → Shared → Prop} {s1 : Shared} (hS : StrsAre vs ss) (h64 : vs.length < 64)
    (hq : ∀ (p : Addr) (h' : Heap) (out : Array Value) (c : Nat) (ys : List Str), s1.heap.objs.size ≤ p → (∀ b u, s1.heap.get? b = some u → h'.get? b = some u) → h'.get? p = some (seqObj "list" out c) → StrsAre out.toList ys → ys.Perm ss → sortedS ys = true → Q (.ref p) { s1 with heap := h' }) :
    wpAny (model P w) A (newList vs >>= fun l => holding [l] (call (.builtin "list.sort") [l]) >>= fun _ => pure l) Q E s1 := by
  refine wpAny_bind (wpAny_newList ?_ (by rw [sizeLine_eq]; omega))
  have hoL : (s1.heap.push (seqObj "list" vs.toArray 0)).get? s1.heap.objs.size = some (seqObj "list" vs.toArray 0) := Heap.get?_push_size _ rfl
  refine wpAny_bind (wpAny_holding (wpAny_call_entry slot_list_sort ⟨_, hoL, rfl⟩ entry_list_sort (list_sort_treeK strKind_oneLt hoL hS.keysOf (fun v₁ v₂ rest e => keyKind_strs (by rw [← e]; exact hS)) h64 fun st' hp hs => ⟨_, rfl, ?_⟩) (args_list_sort _)))
  obtain ⟨ys, h1, h2, h3⟩ := sorted_out_str hS hp hs
  obtain ⟨c, hc⟩ := sortedHeap_at (vs := vs) (out := (arrOf st').map (·.2)) hoL
  refine wpAny_pure (hq s1.heap.objs.size _ _ c ys (Nat.le_refl _) (fun b u q => ?_) hc h1 h2 h3)
  have hlt := Heap.lt_size q
  rw [sortedHeap_old (Nat.ne_of_lt hlt) (by rw [size_push']; exact Nat.lt_succ_of_lt hlt)]
  exact Heap.get?_push_of_some _ q
end
end DS
/-! DS3: sorted(set(t)), sorted(t) for a tuple t of texts, as calls. -/
namespace DS
open PySem PySem.Spec PyProof.Rows PySem.Froz L2
section
variable {P : Program} {w : World} {A : Around} {E : Value → Shared → Prop} {s : Shared}
theorem sorted_setX {a : Addr} {m : List Str} {D : SD} {Q : Value → Shared → Prop} (R : SetX P w s.heap a m D) (hh : A.handled = none) (h64 : m.length < 64)
    (hQ : ∀ s' p (out : Array Value) (c : Nat) (ys : List Str), (∀ b o, s.heap.get? b = some o → s'.heap.get? b = some o) → s'.gens = s.gens → s'.os = s.os → s.heap.objs.size ≤ p →
      s'.heap.get? p = some (seqObj "list" out c) → StrsAre out.toList ys → ys.Perm m → sortedS ys = true → Q (.ref p) s') :
    wpAny (model P w) A (call (.builtin "sorted") [.ref a]) Q E s := by
  have hn : D.1.size = m.length := R.tx.sz
  refine Calls.call_function_entry kind_sorted plain_sorted entry_sorted (args_sorted1 _) ?_
  unfold Builtin.«sorted»
  refine wpAny_bind (m := checkCount "sorted" 1 1 _) (wpAny_pure ?_)
  refine wpAny_bind (collect_set (A := A.in1) (es := D.1) (ep := D.2.1) (t := D.2.2) hh ⟨_, R.get, rfl, rfl⟩ R.tx.fit (by unfold scanBound; omega) R.ris R.led fun s1 vs k1 hz g1 o1 pm => ?_)
  have hvl : vs.length = m.length := by rw [pm.length_eq, List.length_map, Array.length_toList]; exact hn
  have hI : StrsAre vs (vs.map sV) := strs_back vs fun v hv => by
    obtain ⟨e, he, q⟩ := List.mem_map.mp (pm.mem_iff.mp hv)
    obtain ⟨k, tk, h1⟩ := R.tx2 e he
    exact ⟨k, tk, by rw [← q]; exact h1⟩
  have pk : (vs.map sV).Perm m := by
    have q := pm.map sV
    rw [List.map_map] at q
    exact q.trans R.pm
  refine wpAny_bind (wpAny_newList ?_ (by rw [hvl, sizeLine_eq]; omega))
  have hoL : (s1.heap.push (seqObj "list" vs.toArray 0)).get? s1.heap.objs.size = some (seqObj "list" vs.toArray 0) := Heap.get?_push_size _ rfl
  refine wpAny_bind (wpAny_holding (wpAny_call_entry slot_list_sort ⟨_, hoL, rfl⟩ entry_list_sort (list_sort_treeK strKind_oneLt hoL hI.keysOf (fun v₁ v₂ rest e => keyKind_strs (by rw [← e]; exact hI)) (by rw [hvl]; exact h64) fun st' hp hs => ⟨_, rfl, ?_⟩) (args_list_sort _)))
  obtain ⟨ys, h1, h2, h3⟩ := sorted_out_str hI hp hs
  obtain ⟨c, hc⟩ := sortedHeap_at (vs := vs) (out := (arrOf st').map (·.2)) hoL
  refine wpAny_pure ⟨_, rfl, hQ _ s1.heap.objs.size _ c ys (fun b u e => ?_) g1 o1 hz hc h1 (h2.trans pk) h3⟩
  have q := k1 b u e
  have hlt := Heap.lt_size q
  show (sortedHeap (s1.heap.push (seqObj "list" vs.toArray 0)) s1.heap.objs.size vs _).get? b = some u
  rw [sortedHeap_old (Nat.ne_of_lt hlt) (by rw [size_push']; exact Nat.lt_succ_of_lt hlt)]
  exact Heap.get?_push_of_some _ q
theorem sorted_tupS {l : Addr} {items : Array Value} {ss : List Str} {Q : Value → Shared → Prop} (hl : s.heap.IsTuple l items) (hS : StrsAre items.toList ss) (h64 : ss.length < 64)
    (hQ : ∀ (h1 h' : Heap) p (out : Array Value) (c : Nat) (ys : List Str), (∀ b o, s.heap.get? b = some o → h1.get? b = some o) → (∀ b o, h1.get? b = some o → h'.get? b = some o) → h1.objs.size ≤ p →
      h'.get? p = some (seqObj "list" out c) → StrsAre out.toList ys → ys.Perm ss → sortedS ys = true → Q (.ref p) { s with heap := h' }) :
    wpAny (model P w) A (call (.builtin "sorted") [.ref l]) Q E s := by
  obtain ⟨o, ho, hc0, n, hd⟩ := hl
  have hil : items.toList.length = ss.length := hS.len_eq
  refine Calls.call_function_entry kind_sorted plain_sorted entry_sorted (args_sorted1 _) ?_
  unfold Builtin.«sorted»
  refine wpAny_bind (m := checkCount "sorted" 1 1 _) (wpAny_pure ?_)
  refine wpAny_bind (wpAny_collect_seq (A := A.in1) l (.inr rfl) ho hc0 hd (fun h' k1 => ?_) (by rw [Array.length_toList] at hil; rw [sizeLine_eq]; omega))
  generalize hvs : items.toList = vs at *
  refine wpAny_bind (wpAny_newList ?_ (by rw [sizeLine_eq]; omega))
  have hoL : (h'.push (seqObj "list" vs.toArray 0)).get? h'.objs.size = some (seqObj "list" vs.toArray 0) := Heap.get?_push_size _ rfl
  refine wpAny_bind (wpAny_holding (wpAny_call_entry slot_list_sort ⟨_, hoL, rfl⟩ entry_list_sort (list_sort_treeK strKind_oneLt hoL hS.keysOf (fun v₁ v₂ rest e => keyKind_strs (by rw [← e]; exact hS)) (by omega) fun st' hp hs => ⟨_, rfl, ?_⟩) (args_list_sort _)))
  obtain ⟨ys, h1, h2, h3⟩ := sorted_out_str hS hp hs
  obtain ⟨c, hc⟩ := sortedHeap_at (vs := vs) (out := (arrOf st').map (·.2)) hoL
  refine wpAny_pure ⟨_, rfl, hQ h' _ h'.objs.size _ c ys k1 (fun b u q => ?_) (Nat.le_refl _) hc h1 h2 h3⟩
  have hlt := Heap.lt_size q
  show (sortedHeap (h'.push (seqObj "list" vs.toArray 0)) h'.objs.size vs _).get? b = some u
  rw [sortedHeap_old (Nat.ne_of_lt hlt) (by rw [size_push']; exact Nat.lt_succ_of_lt hlt)]
  exact Heap.get?_push_of_some _ q
end
end DS
/-! DL18: sorted(t), sorted(set(t)) for a tuple t of texts. -/
namespace DL
open PySem PySem.Spec PyProof.Rows L2
section
variable {X : Cx} {e : Expr} {p p2 pos pos2 : Pos} {te : TE}
theorem small64' {n : Nat} (h : n < 64) : n ≤ sizeLine := by rw [sizeLine_eq]; omega
def rSortedTp (K : PySem.W.Frag) : List V → Hp → VK → Prop := fun vs H Q => ∃ (a : Addr) (xs : List Str), vs = [V.ref a] ∧ SqT K H a (xs.map V.str) ∧ xs.length < 64 ∧
  ∀ (ys : List Str) (p : Addr), ys.Perm xs → sortedS ys = true → H p = none → Q (.ref p) (upd H p (.lst (ys.map V.str)))
theorem cr_sortedTp : CallR X (.builtin "sorted") (rSortedTp X.K) := by
  intro pins s σ H vs us Q I r h
  obtain ⟨a, xs, rfl, hs, h64, q⟩ := h
  obtain ⟨its, rv, hl, _⟩ := I.tuple hs
  rw [Vals.ref1 r]
  refine DS.sorted_tupS (show s.heap.IsTuple a its.toArray from hl) rv.strs h64 fun h1 h' p out c ys k1 k2 hp hc hS hperm hsort => ?_
  have hlen : (ys.map V.str).length ≤ sizeLine := by rw [List.length_map, hperm.length_eq]; exact small64' h64
  have I1 : Inv X pins σ H { s with heap := h1, toks := s.toks } := I.kept k1
  have hn : H p = none := I1.hok.fresh hp
  refine ⟨.ref p, upd H p (.lst (ys.map V.str)), ?_, rfl, q ys p hperm hsort hn⟩
  exact I1.laid (t' := s.toks) (h' := h') k2 hp ⟨hlen, out.toList, c, vals_of_strs hS, hc⟩
/-- sorted(set(e)) -/
def tSortSet (K : PySem.W.Frag) (te : TE) : TE := fun σ H Q => te σ H fun y H1 => ∃ (a : Addr) (xs : List Str), y = V.ref a ∧ SqT K H1 a (xs.map V.str) ∧ xs.length < 64 ∧
  ∀ (ys : List Str) (p : Addr), ys.Nodup → (∀ z, z ∈ ys ↔ z ∈ xs) → sortedS ys = true → H1 p = none → Q (.ref p) (upd H1 p (.lst (ys.map V.str)))
theorem pe_sortSet (hc : X.calm = true) (hg1 : Gl X "sorted") (hm1 : X.mg "sorted" = none) (hg2 : Gl X "set") (hm2 : X.mg "set" = none) (he : PE X e te)
    (h1 : starEach [.Call (.Name "set" p2) [e] [] pos2] X.env = (false, eval (.Call (.Name "set" p2) [e] [] pos2) X.env) :: starEach [] X.env := by rfl)
    (h2 : starEach [e] X.env = (false, eval e X.env) :: starEach [] X.env := by rfl) : PE X (.Call (.Name "sorted" p) [.Call (.Name "set" p2) [e] [] pos2] [] pos) (tSortSet X.K te) := by
  refine ⟨fun pins s σ H Q I h => ?_⟩
  refine wpAny_Call_Name_kw (ld_blt I hg1 hm1 boot_sorted' ?_ (by decide) (by decide))
  refine PyProof.Rows.callWith_builtin1 ?_ h1 rfl
  rw [h1]
  show wpAny _ _ (spliced ((false, eval (.Call (.Name "set" p2) [e] [] pos2) X.env) :: backTo pos (starEach [] X.env))) _ _ s
  refine Calls.spliced_cons ?_
  refine wpAny_Call_Name_kw (ld_blt I hg2 hm2 boot_set' ?_ (by decide) (by decide))
  refine PyProof.Rows.callWith_type1 ?_ h2 rfl
  rw [h2]
  show wpAny _ _ (spliced ((false, eval e X.env) :: backTo pos2 (starEach [] X.env))) _ _ s
  refine Calls.spliced_cons (thn (he.run pins s σ H _ I h) fun u s1 ⟨y, H1, I1, ry, a, xs, ey, hs, h64, q⟩ => ?_)
  subst ey
  obtain rfl : u = Value.ref a := ry
  refine Calls.spliced_nil ?_
  obtain ⟨its, rv, pt, hz⟩ := I1.tuple hs
  have hd := I1.ok.hd hc
  refine DS.call_set_tupX xs hd (show s1.heap.IsTuple a its.toArray from pt) rv.strs (by unfold scanBound; omega) fun h' tk m D R hm hlm k => ?_
  refine Calls.spliced_nil ?_
  refine DS.sorted_setX (s := { s1 with heap := h', toks := tk }) R hd (by omega) fun s' p0 out c ys kk hg ho hp hc' hS hperm hsort => ?_
  have hnd : ys.Nodup := hperm.nodup_iff.mpr R.nd
  have hlen : (ys.map V.str).length ≤ sizeLine := by rw [List.length_map, hperm.length_eq]; exact small64' (by omega)
  have I2 : Inv X pins σ H1 { s1 with heap := h', toks := tk } := I1.kept k
  have hn : H1 p0 = none := I2.hok.fresh hp
  have ok2 := I2.hok.laid kk hp (o := .lst (ys.map V.str)) ⟨hlen, out.toList, c, vals_of_strs hS, hc'⟩
  refine ⟨.ref p0, upd H1 p0 (.lst (ys.map V.str)), I2.call' (ch := []) ho (Un.laid kk hp hn) ok2 (by rw [hg]; exact I2.bare) (fun _ z => nomatch z), rfl, q ys p0 hnd (fun z => (hperm.mem_iff).trans (hm z)) hsort hn⟩
end
section
variable {C : Addr} {X : Cx} {G G' : Ga} {T : Es} {Q : Vl → Ga → Prop} {O O' : List Addr} {σ σ' : L2.St} {H H' : Hp}
variable {x y z : Str} {pos pos2 p p2 : Pos} {a b e c : Expr}
theorem ef_sortedTp (B : Bt X.mg) (h : Ef C X a G fun v G1 => ∃ ss : List Str, v = .d (.tuple (ss.map .str)) ∧ ss.length < 64 ∧ ∀ ys : List Str, ys.Perm ss → sortedS ys = true → Q (.d (.list (ys.map .str))) G1) (hg : Gl X "sorted" := by rfl) (he : starEach [a] X.env = (false, eval a X.env) :: starEach [] X.env := by rfl) : Ef C X (.Call (.Name "sorted" p) [a] [] pos) G Q :=
  ef_cb1 cr_sortedTp B.sorted boot_sorted' h (fun O σ H G1 v1 x Q' E r ⟨ss, e1, hl, q⟩ k => by
    subst e1
    obtain ⟨t, xs, rfl, ht, ra⟩ := Rep.tup_inv r
    rw [repAll_strs ra] at ht
    refine ⟨t, ss, rfl, ht, hl, fun ys p h1 h2 hp => Co.newL k E hp (RepAll.map fun y _ => .str y) (q ys h1 h2)⟩) hg (by decide) (by decide) he
theorem ef_sortSet (B : Bt X.mg) (h : Ef C X a G fun v G1 => ∃ ss : List Str, v = .d (.tuple (ss.map .str)) ∧ ss.length < 64 ∧ ∀ ys : List Str, ys.Nodup → (∀ z, z ∈ ys ↔ z ∈ ss) → sortedS ys = true → Q (.d (.list (ys.map .str))) G1) (hc : X.calm = true := by rfl) (hg1 : Gl X "sorted" := by rfl) (hg2 : Gl X "set" := by rfl)
    (h1 : starEach [.Call (.Name "set" p2) [a] [] pos2] X.env = (false, eval (.Call (.Name "set" p2) [a] [] pos2) X.env) :: starEach [] X.env := by rfl)
    (h2 : starEach [a] X.env = (false, eval a X.env) :: starEach [] X.env := by rfl) : Ef C X (.Call (.Name "sorted" p) [.Call (.Name "set" p2) [a] [] pos2] [] pos) G Q := by
  intro O σ H E Q' k
  refine tW_of (pe_sortSet hc hg1 B.sorted hg2 B.set (pe_W a) h1 h2) ?_
  refine h O σ H E _ fun v vl G1 H1 E1 K1 R1 ⟨ss, e1, hl, q⟩ => ?_
  subst e1
  obtain ⟨t, xs, rfl, ht, ra⟩ := Rep.tup_inv R1
  rw [repAll_strs ra] at ht
  exact ⟨t, ss, rfl, ht, hl, fun ys p h3 h4 h5 hp => Co.newL (Co.step k E K1) E1 hp (RepAll.map fun y _ => .str y) (q ys h3 h4 h5)⟩
end
end DL
/-! DL19: defs that are run where no repr is under way; repr of data. -/
namespace DL
open PySem PySem.Spec PyProof.Rows L2
/-- a def's promise, where no repr is under way -/
structure FnG (P : Program) (w : World) (K : PySem.W.Frag) (mg : Str → Option Value) (base : Heap) (k : Nat) (f : Addr) (fd : FuncData) (ps : List Str) (sp : Sp) : Prop where
  len : ∀ vs H Q E, sp vs H Q E → vs.length = ps.length
  run : ∀ (A : Around) (outer : List PySem.Env) (s : Shared) (H : Hp) (args : Args) (us : List Value) (vs : List V) (Q : VK) (E : XK), Room k A → A.guards = some [] → Env0 P w K mg base A outer s H → BindsTo s fd args (ps.zip us) → Vals vs us → sp vs H Q E →
    codeAny (model P w) A (.call (.ref f) args) (CR CX0 outer P w H s Q E) s
section
variable {P : Program} {w : World} {K : PySem.W.Frag} {mg : Str → Option Value} {base : Heap} {j k : Nat} {f : Addr} {fd : FuncData} {ps : List Str} {sp sp' : Sp}
theorem FnG.of (F : FnOk P w K mg base CX0 k f fd ps sp) : FnG P w K mg base k f fd ps sp := ⟨F.len, fun A outer s H args us vs Q E hr _ => F.run A outer s H args us vs Q E hr⟩
theorem FnG.mono (F : FnG P w K mg base j f fd ps sp) (h : j ≤ k) : FnG P w K mg base k f fd ps sp := ⟨F.len, fun A outer s H args us vs Q E hr => F.run A outer s H args us vs Q E (hr.mono h)⟩
theorem fnG_of {name qual : Str} {params : Arguments} {body : List Stmt} {scope : Scope} {dV kV doc pm cdv ct oc : Value} {an od : Option Addr}
    {osl : Array (Option Value)} {N : List Str} (lk : K.lookup f = some ⟨oc, od, .func (PySem.W.fnOf name qual params body scope dV kV doc pm an cdv ct), osl⟩) (hcd : PySem.W.codeIn K cdv qual = true) (S : FnScope N ps scope)
    (len : ∀ vs H Q E, sp vs H Q E → vs.length = ps.length)
    (hbody : ∀ (A : Around) (outer : List PySem.Env) (s : Shared) (H : Hp) (vs : List V) (Q : VK) (E : XK), Room k (A.deeper (envOfC qual scope s.heap.objs.size f cdv)) → A.guards = some [] → sp vs H Q E →
      ∃ t, PSs (cxOf CX0 P w K mg base N qual scope f cdv A outer s H E) body t ∧ t { nx := fun _ H' => Q .non H', rt := Q } (start N vs) H) :
    FnG P w K mg base (k + 1) f (PySem.W.fnOf name qual params body scope dV kV doc pm an cdv ct) ps sp := by
  refine ⟨len, fun A outer s H args us vs Q E hr hgd e0 hb r hsp => ?_⟩
  have hl := len _ _ _ _ hsp
  have KX : K.In s.heap := e0.mod.kin.keeps fun b o e => (e0.bs b o e).1
  have lim : s.heap.NoLimit := e0.mod.nolimit.keeps fun b o e => (e0.bs b o e).1
  have hkind : ∀ y ∈ ps.zip us, scope.names.lookup y.1 = some .local ∨ (scope.names.lookup y.1 = some .cell ∧ ((cellsFrom (s.heap.objs.size + 1) scope.names []).lookup y.1).isSome = true) := fun ⟨n, v⟩ hy => by
    rcases S.par n (List.of_mem_zip hy).1 with q | q
    · exact .inl q
    · exact .inr ⟨q, PySem.W.cellsFrom_some _ _ _ (.inl q)⟩
  refine codeAny_call_function hr.depth (KX _ _ lk) rfl S.co S.gen rfl (PySem.W.codeRec_of KX hcd) (hb _ _ _ _ ?_)
  refine wpAny_newFunctionEnv_cells S.kind hkind fun env he s1 x => ?_
  subst he
  refine ⟨lim.keeps x.toInCall.keep, codeAny_func ?_⟩
  obtain ⟨t, ht, hq⟩ := hbody A outer s H vs Q E (hr.deeper _) hgd hsp
  have I : Inv (cxOf CX0 P w K mg base N qual scope f cdv A outer s H E) [] (start N vs) H s1 := inv_start S hr.hd e0 hl r x
  refine wpAny_mono (ht.run [] s1 (start N vs) H _ I hq) (fun fl s' hs => ?_) fun e s' hs => hs
  have fin : ∀ {σ' : L2.St} {H' : Hp} {v : V} {u : Value}, Inv (cxOf CX0 P w K mg base N qual scope f cdv A outer s H E) [] σ' H' s' → RelV v u → Q v H' → CE outer P w H s Q u s' :=
    fun {σ' H' v u} J rv q => ⟨v, H', J.os, J.bare, J.base, J.hok, rv, q⟩
  cases fl with
  | ret u =>
    obtain ⟨v, σ', H', J, rv, q⟩ := hs
    exact fin J rv q
  | next =>
    obtain ⟨σ', H', J, q⟩ := hs
    exact fin (v := V.non) (u := Value.none) J rfl q
  | brk =>
    obtain ⟨_, _, _, q⟩ := hs
    exact False.elim q
  | cont =>
    obtain ⟨_, _, _, q⟩ := hs
    exact False.elim q
theorem Fun.okG {x qual : Str} {st : Stmt} {N : List Str} (F : Fun K x qual st f fd) (S : FnScope N ps (defScope st)) (len : ∀ vs H Q E, sp vs H Q E → vs.length = ps.length)
    (hbody : ∀ (cdv : Value) (A : Around) (outer : List PySem.Env) (s : Shared) (H : Hp) (vs : List V) (Q : VK) (E : XK), Room k (A.deeper (envOfC qual (defScope st) s.heap.objs.size f cdv)) → A.guards = some [] → sp vs H Q E →
      ∃ t, PSs (cxOf CX0 P w K mg base N qual (defScope st) f cdv A outer s H E).nox (defBody st) t ∧ t { nx := fun _ H' => Q .non H', rt := Q } (start N vs) H) : FnG P w K mg base (k + 1) f fd ps sp := by
  obtain ⟨oc, od, kV, doc, pm, an, cdv, ct, osl, rfl, lk, hcd⟩ := F.ex
  refine fnG_of lk hcd S len fun A outer s H vs Q E hr hg hsp => ?_
  obtain ⟨t, h, q⟩ := hbody cdv A outer s H vs Q E hr hg hsp
  exact ⟨t, h.nox, q⟩
end
section
variable {X : Cx} {k : Nat} {f : Addr} {fd : FuncData} {ps : List Str} {sp : Sp} {x : Str} {p pos : Pos} {e : Expr} {es : List Expr} {t : TA}
theorem run_fnG {pins : List (Addr × Obj)} {σ : L2.St} {H : Hp} {s : Shared} {Q : VK} {us : List Value} {vs : List V} (F : FnG X.prog X.w X.K X.mg X.base k f fd ps sp) (hr : Room k X.A) (hgd : X.A.guards = some []) (hb : L2.Binds X.K fd ps [])
    (I : Inv X pins σ H s) (r : Vals vs us) (h : sp vs H Q E0) : wpAny (model X.prog X.w) X.A (call (.ref f) us) (EP X pins σ Q) X.xe s := by
  have hl : (us ++ []).length = ps.length := by rw [List.append_nil, ← r.length]; exact F.len _ _ _ _ h
  have hb' := hb s us I.kIn hl
  rw [List.append_nil] at hb'
  refine wpAny_call (codeAny_mono (F.run X.A X.stack s H ⟨us, []⟩ us vs Q E0 hr hgd I.env0 hb' r h) fun r s' hq => ?_)
  cases r with
  | error e => exact hq.elim
  | ok fl =>
    cases fl with
    | ret u => exact I.after hq
    | next => exact False.elim hq
    | brk => exact False.elim hq
    | cont => exact False.elim hq
theorem pe_callG (F : FnG X.prog X.w X.K X.mg X.base k f fd ps sp) (hr : Room k X.A) (hgd : X.A.guards = some []) (hg : Gl X x) (hm : X.mg x = some (.ref f)) (hk : PySem.W.keepIn X.K (.ref f) = true) (hb : L2.Binds X.K fd ps [])
    (ha : PA X (e :: es) t) (hdb : (x == ("__debug__" : Str)) = false := by decide) (he : starEach (e :: es) X.env = (false, eval e X.env) :: starEach es X.env := by rfl) (hpl : (backTo pos (starEach es X.env)).any (·.1) = false := by rfl) :
    PE X (.Call (.Name x p) (e :: es) [] pos) (fun σ H Q => t σ H fun vs H1 => sp vs H1 Q E0) := by
  refine ⟨fun pins s σ H Q I h => ?_⟩
  refine wpAny_Call_Name_kw (ld_glob I hg hm ?_ hdb)
  refine PySem.W.callWith_K (h₀ := X.base) I.ok.mod.kin hk (thn (ha.run pos pins s σ H _ I h) fun us s1 ⟨vs, H1, I1, r, q⟩ => ⟨I1.kIn, ?_⟩) he hpl
  exact run_fnG F hr hgd hb I1 r q
end
/-- a def that is known by its name, run where no repr is under way -/
structure KnG (P : Program) (w : World) (K : PySem.W.Frag) (mg : Str → Option Value) (base : Heap) (n : Nat) (x : Str) (ps : List Str) (sp : Sp) : Prop where
  ex : ∃ f fd, FnG P w K mg base n f fd ps sp ∧ mg x = some (.ref f) ∧ PySem.W.keepIn K (.ref f) = true ∧ L2.Binds K fd ps []
theorem KnG.of {P : Program} {w : World} {K : PySem.W.Frag} {mg : Str → Option Value} {base : Heap} {n : Nat} {x : Str} {ps : List Str} {sp : Sp} (k : Kn P w K mg base n x ps sp) : KnG P w K mg base n x ps sp := by
  obtain ⟨f, fd, h1, h2, h3, h4⟩ := k.ex
  exact ⟨f, fd, .of h1, h2, h3, h4⟩
end DL
/-! DL20: calls of defs that are run where no repr is under way. -/
namespace DL
open PySem PySem.Spec PyProof.Rows L2
section
variable {C : Addr} {X : Cx} {G G' : Ga} {Q : Vl → Ga → Prop} {O : List Addr} {σ : L2.St} {H H' : Hp} {α : Type}
variable {x y z : Str} {pos p : Pos} {a b e : Expr} {es : List Expr}
theorem ef_cAg {n : Nat} {ps : List Str} {enc : α → List PyData} {ok : α → Prop} {post : α → PyData → Prop} (F : KnG X.prog X.w X.K X.mg X.base n x ps (spA X.K C enc ok post)) (hr : Room n X.A) (hgd : X.A.guards = some [])
    (h : Ea C X (e :: es) G fun vls G1 => ∃ w, vls = (enc w).map Vl.d ∧ ok w ∧ ∀ d, post w d → Q (.d d) G1) (hg : Gl X x := by rfl) (hdb : (x == ("__debug__" : Str)) = false := by decide)
    (he : starEach (e :: es) X.env = (false, eval e X.env) :: starEach es X.env := by rfl) (hpl : (backTo pos (starEach es X.env)).any (·.1) = false := by rfl) : Ef C X (.Call (.Name x p) (e :: es) [] pos) G Q := by
  intro O σ H E Q' q
  obtain ⟨f, fd, F, hm, hk, hb⟩ := F.ex
  refine tW_of (pe_callG F hr hgd hg hm hk hb (pa_W (e :: es)) hdb he hpl) ?_
  refine h O σ H E _ fun vs vls G1 H1 E1 K1 hl R1 ⟨w, e1, hp, z⟩ => ?_
  subst e1
  refine ⟨O, w, E1.wo, ?_, hp, fun v H' d k hpost r => Co.ext (Co.step q E K1) E1 k r (z d hpost)⟩
  exact repAll_of hl R1
theorem ef_cFg {n : Nat} {ps : List Str} {enc : α → List PyData} {ok : α → Prop} {val : α → PyData} (F : KnG X.prog X.w X.K X.mg X.base n x ps (spF X.K C enc ok val)) (hr : Room n X.A) (hgd : X.A.guards = some [])
    (h : Ea C X (e :: es) G fun vls G1 => ∃ w, vls = (enc w).map Vl.d ∧ ok w ∧ Q (.d (val w)) G1) (hg : Gl X x := by rfl) (hdb : (x == ("__debug__" : Str)) = false := by decide)
    (he : starEach (e :: es) X.env = (false, eval e X.env) :: starEach es X.env := by rfl) (hpl : (backTo pos (starEach es X.env)).any (·.1) = false := by rfl) : Ef C X (.Call (.Name x p) (e :: es) [] pos) G Q :=
  ef_cAg F hr hgd (fun O σ H E Q' q => h O σ H E Q' fun vs vls G1 H1 E1 K1 hl R1 ⟨w, e1, hok, z⟩ => q vs vls G1 H1 E1 K1 hl R1 ⟨w, e1, hok, fun d hd => by rw [hd]; exact z⟩) hg hdb he hpl
theorem ef_cUg (i : Nat) {n : Nat} {ps : List Str} {enc : α → List PyData} {ok : α → List PyData → Prop} {post : α → List PyData → PyData → List PyData → Prop} (F : KnG X.prog X.w X.K X.mg X.base n x ps (spUA X.K C enc ok post)) (hr : Room n X.A) (hgd : X.A.guards = some [])
    (h : Ea C X (e :: es) G fun vls G1 => ∃ s cs w, vls = .o i :: (enc w).map Vl.d ∧ G1[i]? = some s ∧ s.held = some cs ∧ ok w cs ∧ ∀ d cs', post w cs d cs' → Q (.d d) (G1.set i (s.put cs'))) (hg : Gl X x := by rfl) (hdb : (x == ("__debug__" : Str)) = false := by decide)
    (he : starEach (e :: es) X.env = (false, eval e X.env) :: starEach es X.env := by rfl) (hpl : (backTo pos (starEach es X.env)).any (·.1) = false := by rfl) : Ef C X (.Call (.Name x p) (e :: es) [] pos) G Q := by
  obtain ⟨f, fd, F, hm, hk, hb⟩ := F.ex
  intro O σ H E Q' q
  refine tW_of (pe_callG F hr hgd hg hm hk hb (pa_W (e :: es)) hdb he hpl) ?_
  refine h O σ H E _ fun vs vls G1 H1 E1 K1 hl R1 ⟨s, cs, w, e1, g1, g2, hp, z⟩ => ?_
  subst e1
  match vs, hl, R1 with
  | [], hl, _ => simp at hl
  | v0 :: vr, hl, R1 =>
    have r0 := R1 0 v0 (.o i) rfl rfl
    obtain ⟨u, xs, rfl, hu, hH, ra⟩ := E1.own_at r0.1 g1 g2
    have rr : RepAll X.K C O H1 vr (enc w) := repAll_of (by simpa using hl) fun j v vl e1 e2 => R1 (j + 1) v vl (by simpa using e1) (by simpa using e2)
    refine ⟨O, u, vr, xs, cs, w, rfl, hu, E1.wo, hH, ra, rr, hp, fun v H' d cs' xs' k k2 hH' ra' hpost r => ?_⟩
    have ne : ∀ {j : Nat} {t : Sl} {us : List PyData} {b : Addr}, i ≠ j → σ[j]? = some (some (.ref b)) → G1[j]? = some t → t.held = some us → b ≠ u := fun {j t us b} n k1 k2 k3 e => by
      subst e
      exact n (E1.dj i j s t cs us b r0.1 k1 g1 k2 g2 k3)
    have hi : i < G1.length := (List.getElem?_eq_some_iff.mp g1).1
    have kk : Keep O H1 O H' := ⟨fun b o e n => k b o e fun z => n (by rw [z]; exact hu), fun b m => .inl m⟩
    have E2 : Env X.K C O H' σ (G1.set i (s.put cs')) := by
      refine ⟨by simp [E1.len], fun j t e => ?_, fun j k t t' us us' b a1 a2 a3 a4 a5 a6 => ?_, fun b m => ?_⟩
      · by_cases ej : i = j
        · subst ej
          rw [List.getElem?_set_self hi] at e
          cases e
          refine ⟨_, r0.1, ?_⟩
          cases s with
          | un => cases g2
          | imm d => cases g2
          | own _ => exact ⟨u, xs', rfl, hu, hH', ra'⟩
          | urn _ => exact ⟨u, xs', rfl, hu, hH', ra'⟩
        · rw [List.getElem?_set_ne ej] at e
          obtain ⟨o, b1, b2⟩ := E1.sl j t e
          refine ⟨o, b1, ?_⟩
          cases t with
          | un => trivial
          | imm d =>
            obtain ⟨w, c1, c2⟩ := b2
            exact ⟨w, c1, c2.keep kk E1.wo⟩
          | own us =>
            obtain ⟨b, ys, c1, c2, c3, c4⟩ := b2
            subst c1
            exact ⟨b, ys, rfl, c2, k _ _ c3 (ne ej b1 e rfl), c4.keep kk E1.wo⟩
          | urn us =>
            obtain ⟨b, ys, c1, c2, c3, c4⟩ := b2
            subst c1
            exact ⟨b, ys, rfl, c2, k _ _ c3 (ne ej b1 e rfl), c4.keep kk E1.wo⟩
      · have old : ∀ {l : Nat} {t : Sl} {us : List PyData}, (G1.set i (s.put cs'))[l]? = some t → t.held = some us → ∃ t' us', G1[l]? = some t' ∧ t'.held = some us' := fun {l t us} k1 k2 => by
          by_cases e : i = l
          · subst e
            exact ⟨s, cs, g1, g2⟩
          · rw [List.getElem?_set_ne e] at k1
            exact ⟨t, us, k1, k2⟩
        obtain ⟨t1, u1, b1, b2⟩ := old a3 a5
        obtain ⟨t2, u2, b3, b4⟩ := old a4 a6
        exact E1.dj j k t1 t2 u1 u2 b a1 a2 b1 b3 b2 b4
      · by_cases e : b = u
        · subst e
          exact ⟨xs', hH'⟩
        · obtain ⟨ys, e'⟩ := E1.wo b m
          exact ⟨ys, k _ _ e' e⟩
    have K2 : Kp σ G1 O H1 σ (G1.set i (s.put cs')) O H' := by
      refine ⟨fun b o e n => k b o e fun z => n (by rw [z]; exact ⟨i, s, cs, r0.1, g1, g2⟩), fun b m _ => m, fun b m => .inl m, fun b ⟨j, t, us, a1, a2, a3⟩ => .inl ?_, k2, fun j us e => ⟨rfl, ?_⟩⟩
      · by_cases e : i = j
        · subst e
          exact ⟨i, s, cs, a1, g1, g2⟩
        · rw [List.getElem?_set_ne e] at a2
          exact ⟨j, t, us, a1, a2, a3⟩
      · by_cases ej : i = j
        · subst ej
          rw [g1] at e
          cases e
          exact ⟨cs', List.getElem?_set_self hi⟩
        · exact ⟨us, by rw [List.getElem?_set_ne ej]; exact e⟩
    exact q v (.d d) _ H' E2 ((K1.trans K2 E)) r (z d cs' hpost)
end
section
variable {P : Program} {w : World} {K : PySem.W.Frag} {mg : Str → Option Value} {base : Heap} {C : Addr} {α : Type}
theorem kg_A {x : Str} {st : Stmt} {N ps : List Str} {n : Nat} {enc : α → List PyData} {ok : α → Prop} {post : α → PyData → Prop} (A : At K mg x st) (S : FnScope N ps (defScope st)) (hl : ∀ a, ok a → (enc a).length = ps.length) (hb : ∀ f fd, Fun K x x st f fd → Binds K fd ps [])
    (body : ∀ (f : Addr) (cdv : Value) (A : Around) (outer : List PySem.Env) (s : Shared) (H : Hp) (E : XK) (a : α), Room n (A.deeper (envOfC x (defScope st) s.heap.objs.size f cdv)) → (bX P w K mg base N x st f cdv A outer s H E).A.guards = some [] → ok a →
      SS C (bX P w K mg base N x st f cdv A outer s H E) (defBody st) ((enc a).map Sl.imm ++ List.replicate (N.length - (enc a).length) .un) { N := fun _ => post a .none, R := fun d _ => post a d }) :
    KnG P w K mg base (n + 1) x ps (spA K C enc ok post) := by
  obtain ⟨f, fd, F, hm⟩ := A.ex
  refine ⟨f, fd, ?_, hm, F.kp, hb f fd F⟩
  refine Fun.okG F S (fun vs H Q E ⟨O, a, _, r, hp, _⟩ => by rw [r.1]; exact hl a hp) (fun cdv A outer s H vs Q E hr hgd ⟨O, a, ow, r, hp, k⟩ => ⟨_, pss_W (defBody st), ?_⟩)
  have hpl : ps.length ≤ N.length := by
    have := congrArg List.length S.pre
    rw [List.length_take] at this
    omega
  have E0 := env_start (N := N) ow r (by rw [hl a hp]; exact hpl)
  refine body f cdv A outer s H E a hr hgd hp O (L2.start N vs) H E0 _ (fun O' σ' G' H' E' K' z => ?_) (fun O' σ' v d G' H' E' K' rv z => ?_) (fun _ _ _ _ _ _ z => z.elim) (fun _ _ _ _ _ _ z => z.elim)
  · exact k .non H' .none (fun a o e => K'.obj a o e no_ow) z .non
  · exact k v H' d (fun a o e => K'.obj a o e no_ow) z (rv.less fun a m => K'.stay a m no_ow)
theorem kg_U {x : Str} {st : Stmt} {N ps : List Str} {n : Nat} {enc : α → List PyData} {ok : α → List PyData → Prop} {post : α → List PyData → PyData → List PyData → Prop} (A : At K mg x st) (S : FnScope N ps (defScope st)) (hl : ∀ a cs, ok a cs → (enc a).length + 1 = ps.length) (hb : ∀ f fd, Fun K x x st f fd → Binds K fd ps [])
    (body : ∀ (f : Addr) (cdv : Value) (A : Around) (outer : List PySem.Env) (s : Shared) (H : Hp) (E : XK) (a : α) (cs : List PyData), Room n (A.deeper (envOfC x (defScope st) s.heap.objs.size f cdv)) → (bX P w K mg base N x st f cdv A outer s H E).A.guards = some [] → ok a cs →
      SS C (bX P w K mg base N x st f cdv A outer s H E) (defBody st) (.urn cs :: ((enc a).map Sl.imm ++ List.replicate (N.length - 1 - (enc a).length) .un))
        { N := fun G' => ∀ cs', G'[0]? = some (.urn cs') → post a cs .none cs', R := fun d G' => ∀ cs', G'[0]? = some (.urn cs') → post a cs d cs' }) :
    KnG P w K mg base (n + 1) x ps (spUA K C enc ok post) := by
  obtain ⟨f, fd, F, hm⟩ := A.ex
  refine ⟨f, fd, Fun.okG F S (fun vs H Q E ⟨O, u, us, xs, cs, a, e, _, _, _, _, r, hp, _⟩ => by rw [e, List.length_cons, r.1]; exact hl a cs hp) (fun cdv A outer s H vs Q E hr hgd ⟨O, u, us, xs, cs, a, e, hu, ow, hH, ru, r, hp, k⟩ => ⟨_, pss_W (defBody st), ?_⟩), hm, F.kp, hb f fd F⟩
  subst e
  have hpl : ps.length ≤ N.length := by
    have := congrArg List.length S.pre
    rw [List.length_take] at this
    omega
  have E0 := env_startU (N := N) ow hu hH ru r (by rw [hl a cs hp]; exact hpl)
  have fin : ∀ {O' : List Addr} {σ' : L2.St} {G' : Ga} {H' : Hp} {v : V} {d : PyData}, Env K C O' H' σ' G' → Kp (L2.start N (.ref u :: us)) (.urn cs :: ((enc a).map Sl.imm ++ List.replicate (N.length - 1 - (enc a).length) .un)) O H σ' G' O' H' → Rep K C O' H' v d → (∀ cs', G'[0]? = some (.urn cs') → post a cs d cs') → Q v H' := fun {O' σ' G' H' v d} E' K' rv z => by
    obtain ⟨e1, cs', e2⟩ := K'.urn 0 cs rfl
    have e3 : σ'[0]? = some (some (.ref u)) := by
      rw [e1]
      unfold L2.start
      simp
    obtain ⟨o, g1, b, ys, g2, g3, g4, g5⟩ := E'.sl 0 _ e2
    rw [e3] at g1
    cases g1
    cases g2
    have sub : ∀ b, b ∈ O → b ∈ O' := fun b m => by
      by_cases e : b = u
      · rw [e]
        exact g3
      · exact K'.stay b m fun z => e (ow_startU.mp z)
    exact k v H' d cs' ys (fun b o e n => K'.obj b o e fun z => n (ow_startU.mp z)) K'.there g4 (g5.less sub) (z cs' e2) (rv.less sub)
  refine body f cdv A outer s H E a cs hr hgd hp O (L2.start N (.ref u :: us)) H E0 _ (fun O' σ' G' H' E' K' z => ?_) (fun O' σ' v d G' H' E' K' rv z => ?_) (fun _ _ _ _ _ _ z => z.elim) (fun _ _ _ _ _ _ z => z.elim)
  · exact fin E' K' .non z
  · exact fin E' K' rv z
theorem kg_F {x : Str} {st : Stmt} {N ps : List Str} {n : Nat} {enc : α → List PyData} {ok : α → Prop} {val : α → PyData} (A : At K mg x st) (S : FnScope N ps (defScope st)) (hl : ∀ a, ok a → (enc a).length = ps.length) (hb : ∀ f fd, Fun K x x st f fd → Binds K fd ps [])
    (body : ∀ (f : Addr) (cdv : Value) (A : Around) (outer : List PySem.Env) (s : Shared) (H : Hp) (E : XK) (a : α), Room n (A.deeper (envOfC x (defScope st) s.heap.objs.size f cdv)) → (bX P w K mg base N x st f cdv A outer s H E).A.guards = some [] → ok a →
      SS C (bX P w K mg base N x st f cdv A outer s H E) (defBody st) ((enc a).map Sl.imm ++ List.replicate (N.length - (enc a).length) .un) { N := fun _ => PyData.none = val a, R := fun d _ => d = val a }) :
    KnG P w K mg base (n + 1) x ps (spF K C enc ok val) := kg_A A S hl hb body
end
end DL
/-! DL21: repr of data. -/
namespace DL
open PySem PySem.Spec PyProof.Rows L2
/-- data without dicts but {} -/
inductive Plain : PyData → Prop
  | non : Plain .none
  | bl (b : Bool) : Plain (.bool b)
  | int (i : Int) : Plain (.int i)
  | str (z : Str) : Plain (.str z)
  | tup {ds : List PyData} (h : ∀ d ∈ ds, Plain d) : Plain (.tuple ds)
  | lst {ds : List PyData} (h : ∀ d ∈ ds, Plain d) : Plain (.list ds)
  | emp : Plain (.dict [])
/-- .. no list in it -/
inductive NoL : PyData → Prop
  | non : NoL .none
  | bl (b : Bool) : NoL (.bool b)
  | int (i : Int) : NoL (.int i)
  | str (z : Str) : NoL (.str z)
  | tup {ds : List PyData} (h : ∀ d ∈ ds, NoL d) : NoL (.tuple ds)
  | emp : NoL (.dict [])
section
variable {X : Cx} {C : Addr} {O : List Addr} {pins : List (Addr × Obj)} {σ : L2.St} {H : Hp} {s : Shared}
theorem emp_reads (I : Inv X pins σ H s) {a : Addr} (hs : H a = some (.dK [])) : ∃ as, Reads s.heap (.ref a) (.dict []) as ∧ sysModules ∉ as := by
  obtain ⟨z, hd, vs, rel, o, es, ep, ho, hx, hdat, hes, hp, hnd⟩ := dk_of I.hok hs
  cases rel
  have e0 : es.toList = [] := by
    generalize es.toList = l at hp
    cases hp
    rfl
  refine ⟨[a] ++ [], .dict (as := []) (bs := []) ho hx.1 hdat (by rw [e0]; exact .nil) (by rw [e0]; exact .nil), fun m => ?_⟩
  have : sysModules = a := by simpa using m
  subst this
  simp at hd
theorem rep_reads (I : Inv X pins σ H s) {d : PyData} (h : Plain d) : ∀ {v : V} {u : Value}, Rep X.K C O H v d → RelV v u → ∃ as, Reads s.heap u d as := by
  induction h with
  | non => intro v u r q; rw [Rep.non_inv r] at q; cases q; exact ⟨_, .none⟩
  | bl b => intro v u r q; rw [Rep.bl_inv r] at q; cases q; exact ⟨_, .bool b⟩
  | int i => intro v u r q; rw [Rep.int_inv r] at q; obtain ⟨t, rfl⟩ := q; exact ⟨_, .int i t⟩
  | str z => intro v u r q; rw [Rep.str_inv r] at q; obtain ⟨t, rfl⟩ := q; exact ⟨_, .str z t⟩
  | tup hd ih =>
    intro v u r q
    obtain ⟨a, xs, rfl, hs, ra⟩ := Rep.tup_inv r
    cases q
    obtain ⟨its, rv, ⟨o, h1, h2, n, h3⟩, _⟩ := I.tuple hs
    have : ∀ {ds : List PyData} {xs : List V} {its : List Value}, RepAll X.K C O H xs ds → Vals xs its → (∀ d ∈ ds, ∀ {v : V} {u : Value}, Rep X.K C O H v d → RelV v u → ∃ as, Reads s.heap u d as) → ∃ as, ReadsAll s.heap its ds as := by
      intro ds
      induction ds with
      | nil => intro xs its ra rv _; rw [ra.nil_inv] at rv; cases rv; exact ⟨_, .nil⟩
      | cons d ds ih2 =>
        intro xs its ra rv hh
        obtain ⟨y, ys, rfl, r1, r2⟩ := ra.cons_inv
        cases rv with
        | cons q1 q2 =>
          obtain ⟨as, e1⟩ := hh d List.mem_cons_self r1 q1
          obtain ⟨bs, e2⟩ := ih2 r2 q2 fun d' m => hh d' (List.mem_cons_of_mem _ m)
          exact ⟨_, .cons e1 e2⟩
    obtain ⟨as, e⟩ := this ra rv ih
    exact ⟨_, .tuple h1 h2 h3 e⟩
  | lst hd ih =>
    intro v u r q
    obtain ⟨a, xs, rfl, hs, _, ra⟩ := Rep.lst_inv r
    cases q
    obtain ⟨its, rv, hl, _⟩ := I.list (.inl (.inl hs) : SqL X.K H a xs)
    obtain ⟨o, h1, h2, n, h3⟩ := hl.isList
    have : ∀ {ds : List PyData} {xs : List V} {its : List Value}, RepAll X.K C O H xs ds → Vals xs its → (∀ d ∈ ds, ∀ {v : V} {u : Value}, Rep X.K C O H v d → RelV v u → ∃ as, Reads s.heap u d as) → ∃ as, ReadsAll s.heap its ds as := by
      intro ds
      induction ds with
      | nil => intro xs its ra rv _; rw [ra.nil_inv] at rv; cases rv; exact ⟨_, .nil⟩
      | cons d ds ih2 =>
        intro xs its ra rv hh
        obtain ⟨y, ys, rfl, r1, r2⟩ := ra.cons_inv
        cases rv with
        | cons q1 q2 =>
          obtain ⟨as, e1⟩ := hh d List.mem_cons_self r1 q1
          obtain ⟨bs, e2⟩ := ih2 r2 q2 fun d' m => hh d' (List.mem_cons_of_mem _ m)
          exact ⟨_, .cons e1 e2⟩
    obtain ⟨as, e⟩ := this ra rv ih
    exact ⟨_, .list h1 h2 h3 e⟩
  | emp =>
    intro v u r q
    obtain ⟨a, rfl, hs⟩ : ∃ a, v = .ref a ∧ H a = some (.dK []) := by
      cases r with
      | emp h => exact ⟨_, rfl, h⟩
    cases q
    obtain ⟨as, hA, _⟩ := emp_reads I hs
    exact ⟨as, hA⟩
/-- .. and the addresses that are asked of a dict -/
theorem rep_readsD (I : Inv X pins σ H s) {d : PyData} (h : NoL d) : ∀ {v : V} {u : Value}, Rep X.K C O H v d → RelV v u → ∃ as, Reads s.heap u d as ∧ sysModules ∉ as := by
  induction h with
  | non => intro v u r q; rw [Rep.non_inv r] at q; cases q; exact ⟨_, .none, by simp⟩
  | bl b => intro v u r q; rw [Rep.bl_inv r] at q; cases q; exact ⟨_, .bool b, by simp⟩
  | int i => intro v u r q; rw [Rep.int_inv r] at q; obtain ⟨t, rfl⟩ := q; exact ⟨_, .int i t, by simp⟩
  | str z => intro v u r q; rw [Rep.str_inv r] at q; obtain ⟨t, rfl⟩ := q; exact ⟨_, .str z t, by simp⟩
  | tup hd ih =>
    intro v u r q
    obtain ⟨a, xs, rfl, hs, ra⟩ := Rep.tup_inv r
    cases q
    obtain ⟨its, rv, ⟨o, h1, h2, n, h3⟩, _⟩ := I.tuple hs
    have : ∀ {ds : List PyData} {xs : List V} {its : List Value}, RepAll X.K C O H xs ds → Vals xs its → (∀ d ∈ ds, ∀ {v : V} {u : Value}, Rep X.K C O H v d → RelV v u → ∃ as, Reads s.heap u d as ∧ sysModules ∉ as) → ∃ as, ReadsAll s.heap its ds as ∧ sysModules ∉ as := by
      intro ds
      induction ds with
      | nil => intro xs its ra rv _; rw [ra.nil_inv] at rv; cases rv; exact ⟨_, .nil, by simp⟩
      | cons d ds ih2 =>
        intro xs its ra rv hh
        obtain ⟨y, ys, rfl, r1, r2⟩ := ra.cons_inv
        cases rv with
        | cons q1 q2 =>
          obtain ⟨as, e1, n1⟩ := hh d List.mem_cons_self r1 q1
          obtain ⟨bs, e2, n2⟩ := ih2 r2 q2 fun d' m => hh d' (List.mem_cons_of_mem _ m)
          exact ⟨_, .cons e1 e2, fun m => (List.mem_append.mp m).elim n1 n2⟩
    obtain ⟨as, e, n1⟩ := this ra rv ih
    exact ⟨_, .tuple h1 h2 h3 e, n1⟩
  | emp =>
    intro v u r q
    obtain ⟨a, rfl, hs⟩ : ∃ a, v = .ref a ∧ H a = some (.dK []) := by
      cases r with
      | emp h => exact ⟨_, rfl, h⟩
    cases q
    exact emp_reads I hs
theorem hasDictAll_mem : ∀ {ds : List PyData}, PyData.hasDictAll ds = false → ∀ d ∈ ds, d.hasDict = false
  | [], _, d, m => by cases m
  | x :: xs, h, d, m => by
    have h' : x.hasDict = false ∧ PyData.hasDictAll xs = false := by simpa [PyData.hasDictAll] using h
    rcases List.mem_cons.mp m with e | m
    · rw [e]
      exact h'.1
    · exact hasDictAll_mem h'.2 d m
/-- what of data its repr asks for -/
structure Shw (d : PyData) : Prop where
  pl : Plain d
  sh : d.showable = true
  dp : d.depth ≤ 40
  ln : d.shown.length ≤ 4000000
  nl : d.hasDict = false ∨ NoL d
def rReprD (K : PySem.W.Frag) (C : Addr) : List V → Hp → VK → Prop := fun vs H Q => ∃ O v d, vs = [v] ∧ Rep K C O H v d ∧ Shw d ∧ Q (.str d.shown) H
theorem cr_reprD (hgd : X.A.guards = some []) (hu : X.A.units + 64 < cLine) : CallR X (.builtin "repr") (rReprD X.K C) := by
  intro pins s σ H vs us Q I r h
  obtain ⟨O, v, d, rfl, rep, hs, q⟩ := h
  obtain ⟨u, rfl, ru⟩ := r.one
  have hl : d.shown.length ≤ sizeLine := by have := hs.ln; rw [sizeLine_eq]; omega
  obtain ⟨as, hr, hsm⟩ : ∃ as, Reads s.heap u d as ∧ (d.hasDict = true → sysModules ∉ as) := by
    rcases hs.nl with n | n
    · obtain ⟨as, e⟩ := rep_reads I hs.pl rep ru
      exact ⟨as, e, fun z => by rw [n] at z; cases z⟩
    · obtain ⟨as, e, z⟩ := rep_readsD I n rep ru
      exact ⟨as, e, fun _ => z⟩
  have ref : ∀ a, u = Value.ref a → wpAny (model X.prog X.w) X.A (call (.builtin "repr") [u]) (EP X pins σ Q) X.xe s := fun a e => by
    subst e
    refine repr_of_reads' hr hs.sh hsm hgd (by have := hs.dp; omega) (fun _ _ z => z) (fun h' u' tk k => ?_) hl
    exact ⟨.str d.shown, H, I.kept k, ⟨u', rfl⟩, q⟩
  cases hr with
  | none => exact PySem.P.repr_of_none ⟨.str PyData.none.shown, H, I.tok _, ⟨s.toks, by simp only [PyData.shown]⟩, q⟩
  | bool b => exact PySem.P.repr_of_bool ⟨.str (PyData.bool b).shown, H, I.tok _, ⟨s.toks, by simp only [PyData.shown]⟩, q⟩
  | int i t => exact PySem.P.repr_of_int (by have := hs.sh; simpa [PyData.showable] using this) ⟨.str (PyData.int i).shown, H, I.tok _, ⟨s.toks, by simp only [PyData.shown]⟩, q⟩
  | str x t => exact PySem.P.repr_of_str ⟨.str (PyData.str x).shown, H, I.tok _, ⟨s.toks, by simp only [PyData.shown]⟩, q⟩ hl
  | list _ _ _ _ => exact ref _ rfl
  | tuple _ _ _ _ => exact ref _ rfl
  | dict _ _ _ _ _ => exact ref _ rfl
end
section
variable {C : Addr} {X : Cx} {G : Ga} {Q : Vl → Ga → Prop} {a : Expr} {p pos : Pos}
theorem ef_repr {n : Nat} (B : Bt X.mg) (hgd : X.A.guards = some []) (hr : Room n X.A) (h : Ef C X a G fun v G1 => ∃ d, v = .d d ∧ Shw d ∧ Q (.d (.str d.shown)) G1) (hg : Gl X "repr" := by rfl) (he : starEach [a] X.env = (false, eval a X.env) :: starEach [] X.env := by rfl) : Ef C X (.Call (.Name "repr" p) [a] [] pos) G Q :=
  ef_cb1 (cr_reprD (C := C) hgd hr.units) B.repr boot_repr' h (fun O σ H G1 v1 x Q' E r ⟨d, e1, hs, q⟩ k => by
    subst e1
    exact ⟨O, x, d, rfl, r, hs, Co.at k E (.str _) q⟩) hg (by decide) (by decide) he
end
end DL
/-! DL22: t == () for any tuple t. -/
namespace DL
open PySem PySem.Spec PyProof.Rows L2
section
variable {X : Cx}
def rEqE (K : PySem.W.Frag) : R2 := fun x y H Q => ∃ (a b : Addr) (xs : List V), x = .ref a ∧ y = .ref b ∧ SqT K H a xs ∧ SqT K H b [] ∧ Q (.bl (decide (xs = []))) H
theorem op_eqE (hu : X.A.units + 64 < cLine) : OpR X (compareOp .Eq) (rEqE X.K) := by
  intro pins s σ H x y v u Q I rx ry h
  obtain ⟨a, b, xs, rfl, rfl, ha, hb, q⟩ := h
  cases rx
  cases ry
  obtain ⟨its, rv, pt, _⟩ := I.tuple ha
  obtain ⟨its2, rv2, pt2, _⟩ := I.tuple hb
  cases rv2
  refine SeqAt.eq_tupleAt (e := fun _ => true) (show s.heap.IsTuple a its.toArray from pt) (show s.heap.IsTuple b ([] : List Value).toArray from pt2) (by omega) (fun j _ h2 => absurd h2 (by simp)) ?_
  refine ⟨.bl (decide (xs = [])), H, I, ?_, q⟩
  show Value.bool _ = Value.bool _
  congr 1
  have hl := rv.length
  cases xs with
  | nil =>
    cases rv
    rfl
  | cons y ys =>
    cases rv
    simp
variable {C : Addr} {G : Ga} {Q : Vl → Ga → Prop} {a b : Expr}
theorem ec_eqE {n : Nat} (hr : Room n X.A) (h : Ef C X a G fun v1 G1 => ∃ d1, v1 = .d d1 ∧ Ef C X b G1 fun v2 G2 => ∃ ds, d1 = .tuple ds ∧ v2 = .d (.tuple []) ∧ Q (.d (.bool (decide (ds = [])))) G2) : Ec C X .Eq a b G Q :=
  ec_op2 (op_eqE hr.units) h fun O σ H G2 d1 v2 x y Q' E r1 r2 ⟨ds, e1, e2, q⟩ k => by
    subst e1 e2
    obtain ⟨a, xs, rfl, h1, ra⟩ := Rep.tup_inv r1
    obtain ⟨b, ys, rfl, h2, rb⟩ := Rep.tup_inv r2
    rw [rb.nil_inv] at h2
    refine ⟨a, b, xs, rfl, rfl, h1, h2, ?_⟩
    have e : decide (xs = []) = decide (ds = []) := by
      have hl := ra.1
      cases xs with
      | nil => cases ds with
        | nil => rfl
        | cons => simp at hl
      | cons => cases ds with
        | nil => simp at hl
        | cons => simp
    rw [e]
    exact Co.at k E (.bl _) q
end
end DL
/-! V3: the law: gangs -/
namespace W
open PySem PySem.Spec PyProof.Rows L2 DL M

abbrev ltK (a b : Str) : Prop := a.cps.toList < b.cps.toList
theorem asc_unique : ∀ {xs ys : List Str}, xs.Pairwise ltK → ys.Pairwise ltK → (∀ z, z ∈ xs ↔ z ∈ ys) → xs = ys
  | [], [], _, _, _ => rfl
  | [], y :: ys, _, _, h => absurd ((h y).mpr List.mem_cons_self) (by simp)
  | x :: xs, [], _, _, h => absurd ((h x).mp List.mem_cons_self) (by simp)
  | x :: xs, y :: ys, hx, hy, h => by
    obtain ⟨x1, x2⟩ := List.pairwise_cons.mp hx
    obtain ⟨y1, y2⟩ := List.pairwise_cons.mp hy
    have e : x = y := by
      rcases List.mem_cons.mp ((h x).mp List.mem_cons_self) with q | q
      · exact q
      · rcases List.mem_cons.mp ((h y).mpr List.mem_cons_self) with q2 | q2
        · exact q2.symm
        · exact absurd (x1 y q2) (List.lt_asymm (y1 x q))
    subst e
    congr 1
    refine asc_unique x2 y2 fun z => ⟨fun m => ?_, fun m => ?_⟩
    · rcases List.mem_cons.mp ((h z).mp (List.mem_cons_of_mem _ m)) with q | q
      · subst q
        exact absurd (x1 z m) (List.lt_irrefl _)
      · exact q
    · rcases List.mem_cons.mp ((h z).mpr (List.mem_cons_of_mem _ m)) with q | q
      · subst q
        exact absurd (y1 z m) (List.lt_irrefl _)
      · exact q
theorem asc_pw : ∀ {ss : List Str}, ascS ss = true ↔ ss.Pairwise ltK
  | [] => ⟨fun _ => .nil, fun _ => rfl⟩
  | [x] => ⟨fun _ => List.pairwise_singleton _ _, fun _ => rfl⟩
  | x :: y :: r => by
    have ih := asc_pw (ss := y :: r)
    have e : ascS (x :: y :: r) = (decide (ltK x y) && ascS (y :: r)) := rfl
    rw [e, Bool.and_eq_true, ih, decide_eq_true_eq]
    constructor
    · rintro ⟨h1, h2⟩
      refine List.pairwise_cons.mpr ⟨fun z hz => ?_, h2⟩
      rcases List.mem_cons.mp hz with q | q
      · rw [q]
        exact h1
      · exact List.lt_trans h1 ((List.pairwise_cons.mp h2).1 z q)
    · intro h
      obtain ⟨h1, h2⟩ := List.pairwise_cons.mp h
      exact ⟨h1 y List.mem_cons_self, h2⟩
theorem rising_pw : ∀ {p : Str} {l : List Str}, risingS p l = true → (p :: l).Pairwise fun a b => ¬ ltK b a
  | p, [], _ => List.pairwise_singleton _ _
  | p, x :: r, h => by
    have h' : (!ltCps x.cps.toList p.cps.toList && risingS x r) = true := h
    rw [Bool.and_eq_true] at h'
    have ih := rising_pw h'.2
    have hx : ¬ ltK x p := by
      have := h'.1
      rw [ltCps_eq] at this
      simpa using this
    refine List.pairwise_cons.mpr ⟨fun z hz => ?_, ih⟩
    rcases List.mem_cons.mp hz with q | q
    · rw [q]
      exact hx
    · intro hz2
      have h3 := (List.pairwise_cons.mp ih).1 z q
      rcases List.le_iff_lt_or_eq.mp (List.not_lt.mp hx) with q2 | q2
      · exact h3 (List.lt_trans hz2 q2)
      · exact h3 (by show z.cps.toList < x.cps.toList; rw [← q2]; exact hz2)
theorem sorted_pw {l : List Str} (h : sortedS l = true) (nd : l.Nodup) : l.Pairwise ltK := by
  cases l with
  | nil => exact .nil
  | cons x r =>
    have h1 := rising_pw (show risingS x r = true from h)
    refine (List.pairwise_and_iff.mpr ⟨h1, nd⟩).imp fun {a b} q => ?_
    have h2 : a.cps.toList ≤ b.cps.toList := List.not_lt.mp q.1
    rcases List.le_iff_lt_or_eq.mp h2 with z | z
    · exact z
    · exact absurd (by
        obtain ⟨⟨a⟩⟩ := a
        obtain ⟨⟨b⟩⟩ := b
        simp at z
        rw [z]) q.2
theorem eqvAll_str : ∀ (xs ys : List Str), PyData.eqvAll (xs.map .str) (ys.map .str) = decide (xs = ys)
  | [], [] => by simp [PyData.eqvAll]
  | [], y :: ys => by simp [PyData.eqvAll]
  | x :: xs, [] => by simp [PyData.eqvAll]
  | x :: xs, y :: ys => by
    have ih := eqvAll_str xs ys
    simp only [List.map_cons, PyData.eqvAll, PyData.eqv, ih, List.cons.injEq, Bool.decide_and]
    congr 1
theorem gang_sort {ss ys : List Str} (nd : ys.Nodup) (hm : ∀ z, z ∈ ys ↔ z ∈ ss) (hs : sortedS ys = true) : PyData.eqv (.list (ss.map .str)) (.list (ys.map .str)) = ascS ss := by
  have e : PyData.eqv (.list (ss.map .str)) (.list (ys.map .str)) = decide (ss = ys) := by
    simp only [PyData.eqv]
    exact eqvAll_str ss ys
  rw [e]
  have hy := sorted_pw hs nd
  cases h : ascS ss with
  | true => exact decide_eq_true (asc_unique (asc_pw.mp h) hy fun z => (hm z).symm)
  | false =>
    refine decide_eq_false fun q => ?_
    subst q
    rw [asc_pw.mpr hy] at h
    cases h
def cnG : PyData → PyData
  | .tuple [a, _] => a
  | _ => .none
theorem cn_names (p : Pt) : (p.cl.map ptyD).map cnG = p.names.map .str := by
  unfold Pt.names
  rw [List.map_map, List.map_map]
  rfl
structure IgOk (a : Pt × PyData) : Prop where
  o : Ok a.1
  d : Dat a.2
  l : ∀ ds, a.2 = .tuple ds → ds.length ≤ 3000
  s : ∀ ss : List Str, a.2 = .tuple (ss.map .str) → ss.length ≤ 60
theorem nm_ok {p : Pt} (o : Ok p) {z : Str} (h : z ∈ p.names) : PyData.strOk z = true := strOk_of fun c hc => by
  have := (o.cv z h).all c hc
  unfold isL isG at this
  omega
theorem sc82 : FnScope ["_law_parts_here", "_law_value", "_law_called_here", "_law_word", "_law_tally"] ["_law_parts_here", "_law_value"] (defScope (topS 82)) := ⟨rfl, rfl, rfl, by decide +kernel, rfl, by decide +kernel, by decide +kernel⟩
abbrev T__law_is_gang (S : Sys) : Prop := Kn S.P S.w S.K S.mg S.base 1 "_law_is_gang" ["_law_parts_here", "_law_value"] (spF S.K S.C (α := Pt × PyData) (fun a => [ptD a.1, a.2]) (fun a => IgOk a) (fun a => .bool (gang a.1 a.2).isSome))
theorem w__law_is_gang {S : Sys} (A : At S.K S.mg "_law_is_gang" (topS 82)) (B : Bt S.mg) (g : Gv S.K S.mg)  : T__law_is_gang S := by
  refine kn_F A sc82 (fun _ _ => rfl) (b2 fun _ _ _ _ _ _ _ _ => rfl) fun f cdv A outer s H E a hr hp => ?_
  obtain ⟨p, v⟩ := a
  have o : Ok p := hp.o
  have hv : Dat v := hp.d
  have hc3 := o.c3
  refine ss_if ?_
  refine et_cut (!bl0 v) ?_ ?_
  ·
    refine et_w ?_
    refine ew_or ?_
    refine et_not ?_
    refine et_v ?_
    refine ef_isTup B ?_
    refine ef_i 1 rfl ?_
    refine ⟨_, rfl, hv.pl, ?_⟩
    refine ⟨_, rfl, ?_⟩
    refine ⟨fun hk => ?_, fun hk => ?_⟩
    · exact ⟨(by cases v <;> first | rfl | cases hk), rfl⟩
    refine ew_or ?_
    refine et_c ?_
    obtain ⟨ds, rfl⟩ := isTup_inv (show isTup v = true by simpa using hk)
    have hl : ds.length ≤ 3000 := hp.l ds rfl
    refine ec_eqE hr ?_
    refine ef_i 1 rfl ?_
    refine ⟨_, rfl, ?_⟩
    refine ef_tup ?_
    refine ea_nil ?_
    refine ⟨[], rfl, show 0 ≤ sizeLine by decide, ?_⟩
    refine ⟨_, rfl, rfl, ?_⟩
    refine ⟨_, rfl, ?_⟩
    refine ⟨fun hk => ?_, fun hk => ?_⟩
    · exact ⟨(by show true = !bl0 (.tuple ds); have h2 : ds = [] := of_decide_eq_true hk; subst h2; rfl), rfl⟩
    refine ew_one_or ?_
    refine et_not ?_
    refine et_v ?_
    refine ef_allF B ?_
    refine ef_lcM (ts := [3]) [("_law_word", 3)] (fun d => .bool (isStr d)) (show blkC ["_law_parts_here", "_law_value", "_law_called_here", "_law_word", "_law_tally"] (defScope (topS 82)) _ [("_law_word", 3)] = true from by decide +kernel) sc82.nd ?_
    refine ei_t ?_
    refine ef_i 1 rfl ?_
    refine ⟨_, rfl, ?_⟩
    refine ⟨rfl, (by omega), by decide, fun d hd s H0 Cc cl fp => ?_, ?_⟩
    ·
      refine sg_n 3 rfl ?_ sc82.nd
      refine ⟨rfl, fun s H0 Cc cl fp => ?_⟩
      refine ef_isStr B ?_
      refine ef_i 3 rfl ?_
      refine ⟨_, rfl, (dat_mem hv hd).pl, ?_⟩
      exact ⟨rfl, rfl⟩
    refine ⟨_, _, rfl, ?_⟩
    refine ⟨_, rfl, ?_⟩
    have h2 : ds ≠ [] := of_decide_eq_false hk
    exact ⟨(by rw [bl0_t, decide_eq_true h2]; rfl), rfl⟩
  refine ⟨fun hk => ?_, fun hk => ?_⟩
  ·
    refine ss_retD ?_
    refine ef_bl ?_
    refine ⟨_, rfl, ?_⟩
    exact (by show _ = PyData.bool (gang p v).isSome; rw [bl0_not (by simpa using hk)]; rfl)
  refine ss_nil ?_
  refine ss_set 2 ?_ rfl sc82.nd
  refine ef_lcM (ts := ([3] ++ ([4] ++ []))) [("_law_word", 3), ("_law_tally", 4)] cnG (show blkC ["_law_parts_here", "_law_value", "_law_called_here", "_law_word", "_law_tally"] (defScope (topS 82)) _ [("_law_word", 3), ("_law_tally", 4)] = true from by decide +kernel) sc82.nd ?_
  refine ei_t ?_
  refine ef_ixL ?_
  refine ef_i 0 rfl ?_
  refine ⟨_, rfl, ?_⟩
  refine ef_int ?_
  refine ⟨_, _, _, rfl, rfl, (atI_of (i := 1) rfl), ?_⟩
  refine ⟨_, rfl, ?_⟩
  refine ⟨rfl, (by show (p.cl.map ptyD).length ≤ 100000; rw [List.length_map]; omega), by decide, fun d hd s H0 Cc cl fp => ?_, ?_⟩
  ·
    obtain ⟨c, hc, rfl⟩ := List.mem_map.mp hd
    unfold ptyD
    refine sg_t ?_
    refine sr_cons ?_
    refine sg_n 3 rfl ?_ sc82.nd
    refine sr_cons ?_
    refine sg_n 4 rfl ?_ sc82.nd
    refine sr_nil ?_
    refine ⟨rfl, fun s H0 Cc cl fp => ?_⟩
    refine ef_i 3 rfl ?_
    exact ⟨rfl, rfl⟩
  refine ⟨_, rfl, rfl, ?_⟩
  refine ss_retD ?_
  obtain ⟨ss, rfl, hne⟩ := bl0_inv (show bl0 v = true by simpa using hk)
  have hl : ss.length ≤ 60 := hp.s ss rfl
  refine ef_cut (.bool (gang p (.tuple (ss.map .str))).isSome) ?_ ?_
  ·
    refine ef_and2 ?_
    refine ef_allF B ?_
    refine ef_lcM (ts := [3]) [("_law_word", 3)] (fun d => .bool (inS p.names d)) (show blkC ["_law_parts_here", "_law_value", "_law_called_here", "_law_word", "_law_tally"] (defScope (topS 82)) _ [("_law_word", 3)] = true from by decide +kernel) sc82.nd ?_
    refine ei_t ?_
    refine ef_i 1 rfl ?_
    refine ⟨_, rfl, ?_⟩
    refine ⟨rfl, (by rw [List.length_map]; omega), by decide, fun d hd s H0 Cc cl fp => ?_, ?_⟩
    ·
      obtain ⟨z, hz, rfl⟩ := List.mem_map.mp hd
      refine sg_n 3 rfl ?_ sc82.nd
      refine ⟨rfl, fun s H0 Cc cl fp => ?_⟩
      refine ef_c ?_
      refine ec_in ?_
      refine ef_i 3 rfl ?_
      refine ⟨_, rfl, ?_⟩
      refine ef_i 2 rfl ?_
      refine ⟨_, _, rfl, .inl (by rw [cn_names]), ?_⟩
      exact ⟨rfl, rfl⟩
    refine ⟨_, _, rfl, ?_⟩
    refine ⟨_, rfl, fun hk => ?_, fun hk => ?_⟩
    · exact ⟨(by rw [all_in] at hk; rw [gang_eq p hne, hk]; rfl), rfl⟩
    refine ef_c ?_
    refine ec_eqD hr ?_
    refine ef_list B ?_
    refine ef_i 1 rfl ?_
    refine ⟨_, .inr rfl, ?_⟩
    refine ⟨trivial, ?_⟩
    refine ef_sortSet B ?_
    refine ef_i 1 rfl ?_
    have hin : ∀ z ∈ ss, z ∈ p.names := fun z hz => by rw [all_in] at hk; exact of_decide_eq_true (List.all_eq_true.mp hk z hz)
    refine ⟨_, rfl, (by omega), fun ys hnd hmem hs => ?_⟩
    refine ⟨_, _, rfl, rfl, (cmp_strsL fun z hz => nm_ok o (hin z hz)), (cmp_strsL fun z hz => nm_ok o (hin z ((hmem z).mp hz))), ?_⟩
    exact ⟨(by rw [gang_sort hnd hmem hs, gang_eq p hne]; rw [all_in] at hk; rw [hk]; rfl), rfl⟩
  refine ⟨_, rfl, ?_⟩
  exact rfl
end W
/-! W13: the class's properties and methods. -/
namespace W
open PySem PySem.Spec PyProof.Rows L2 DL M
def clsB : Stmt → List Stmt
  | .ClassDef _ _ _ b _ _ _ _ _ _ _ => b
  | _ => []
def mS (i : Nat) : Stmt := (clsB (topS 36)).getD i (.Pass ⟨0, 0, 0, 0⟩)
theorem scM2 : FnScope ["self"] ["self"] (defScope (mS 2)) := ⟨rfl, rfl, rfl, by decide +kernel, rfl, by decide +kernel, by decide +kernel⟩
theorem scM3 : FnScope ["self"] ["self"] (defScope (mS 3)) := ⟨rfl, rfl, rfl, by decide +kernel, rfl, by decide +kernel, by decide +kernel⟩
theorem scM4 : FnScope ["self"] ["self"] (defScope (mS 4)) := ⟨rfl, rfl, rfl, by decide +kernel, rfl, by decide +kernel, by decide +kernel⟩
theorem scM5 : FnScope ["self", "party"] ["self"] (defScope (mS 5)) := ⟨rfl, rfl, rfl, by decide +kernel, rfl, by decide +kernel, by decide +kernel⟩
theorem scM6 : FnScope ["self"] ["self"] (defScope (mS 6)) := ⟨rfl, rfl, rfl, by decide +kernel, rfl, by decide +kernel, by decide +kernel⟩
theorem scM14 : FnScope ["self"] ["self"] (defScope (mS 14)) := ⟨rfl, rfl, rfl, by decide +kernel, rfl, by decide +kernel, by decide +kernel⟩
section
variable {K : PySem.W.Frag}
theorem bm1 {x q : Str} {st : Stmt} {a0 : Str} (h : ∀ (kV doc pm : Value) (an : Option Addr) (cdv ct u0 : Value), bindArgs (PySem.W.fnOf x q (defArgs st) (defBody st) (defScope st) .none kV doc pm an cdv ct) ⟨[u0], []⟩ = pure [(a0, u0)]) : ∀ f fd, Fun K x q st f fd → Binds K fd [a0] [] := fun f fd F => F.binds fun kV doc pm an cdv ct us hl => match us, hl with | [u0], _ => h kV doc pm an cdv ct u0
end
section
variable {S : Sys} {p g : Addr} {fd : FuncData}
theorem w_divisors (hp : PropOf S.K S.C "divisors" p g) (F : Fun S.K "divisors" "Night.divisors" (mS 2) g fd) (N : Nc S.K S.C) : P_divisors S := by
  refine ⟨p, g, fd, hp, fn_A F scM2 (fun _ _ => rfl) fun cdv A outer s H E a hr hp => ?_, bm1 (fun _ _ _ _ _ _ _ => rfl) g fd F⟩
  refine ss_retD ?_
  refine ef_f1 N ?_
  refine ef_i 0 rfl ?_
  refine ⟨_, _, _, rfl, ?_⟩
  exact ⟨_, rfl, rfl⟩
theorem w_parties (hp : PropOf S.K S.C "parties" p g) (F : Fun S.K "parties" "Night.parties" (mS 3) g fd) (N : Nc S.K S.C) : P_parties S := by
  refine ⟨p, g, fd, hp, fn_A F scM3 (fun _ _ => rfl) fun cdv A outer s H E a hr hp => ?_, bm1 (fun _ _ _ _ _ _ _ => rfl) g fd F⟩
  refine ss_retD ?_
  refine ef_f2 N ?_
  refine ef_i 0 rfl ?_
  refine ⟨_, _, _, rfl, ?_⟩
  exact ⟨_, rfl, rfl⟩
theorem w_piles (hp : PropOf S.K S.C "piles" p g) (F : Fun S.K "piles" "Night.piles" (mS 4) g fd) (N : Nc S.K S.C) : P_piles S := by
  refine ⟨p, g, fd, hp, fn_A F scM4 (fun _ _ => rfl) fun cdv A outer s H E a hr hp => ?_, bm1 (fun _ _ _ _ _ _ _ => rfl) g fd F⟩
  refine ss_retD ?_
  refine ef_f3 N ?_
  refine ef_i 0 rfl ?_
  refine ⟨_, _, _, rfl, ?_⟩
  exact ⟨_, rfl, rfl⟩
theorem w_seats (hp : PropOf S.K S.C "seats" p g) (F : Fun S.K "seats" "Night.seats" (mS 6) g fd) (N : Nc S.K S.C) (B : Bt S.mg) : P_seats S := by
  refine ⟨p, g, fd, hp, fn_A F scM6 (fun _ _ => rfl) fun cdv A outer s H E a hr hp => ?_, bm1 (fun _ _ _ _ _ _ _ => rfl) g fd F⟩
  refine ss_retD ?_
  refine ef_len B ?_
  refine ef_f1 N ?_
  refine ef_i 0 rfl ?_
  refine ⟨_, _, _, rfl, ?_⟩
  refine ⟨_, .inr rfl, ?_⟩
  exact ⟨_, rfl, by rw [List.length_map]⟩
theorem w_tables (hm : Meth S.K S.C "tables" g) (F : Fun S.K "tables" "Night.tables" (mS 14) g fd) (N : Nc S.K S.C) (B : Bt S.mg) (k_tables_of : T_tables_of S) : M_tables S := by
  refine ⟨g, fd, hm, (fn_A (n := 4) F scM14 (fun _ _ => rfl) fun cdv A outer s H E a hr hp => ?_).mono (by omega), bm1 (fun _ _ _ _ _ _ _ => rfl) g fd F⟩
  refine ss_retD ?_
  refine ef_cF k_tables_of (hr.mono (by omega)) ?_
  refine ea_d ?_
  refine ef_len B ?_
  refine ef_f2 N ?_
  refine ef_i 0 rfl ?_
  refine ⟨_, _, _, rfl, ?_⟩
  refine ⟨_, .inr rfl, ?_⟩
  refine ⟨_, rfl, ?_⟩
  refine ea_d ?_
  refine ef_len B ?_
  refine ef_f1 N ?_
  refine ef_i 0 rfl ?_
  refine ⟨_, _, _, rfl, ?_⟩
  refine ⟨_, .inr rfl, ?_⟩
  refine ⟨_, rfl, ?_⟩
  refine ea_nil ?_
  refine ⟨(a.cl.length, a.dv.length), by rw [List.length_map, List.length_map]; rfl, ⟨hp.c1, hp.c3, Nat.le_refl _, hp.d3⟩, ?_⟩
  exact ⟨_, rfl, rfl⟩
def cnF0 : PyData → PyData
  | .tuple [a, _] => a
  | _ => .none
theorem w_names (hp : PropOf S.K S.C "names" p g) (F : Fun S.K "names" "Night.names" (mS 5) g fd) (N : Nc S.K S.C) (B : Bt S.mg) : N_names S := by
  refine ⟨p, g, fd, hp, F.ok scM5 (fun vs H Q E ⟨O, a, _, r, hok, _⟩ => r.1) (fun cdv A outer s H vs Q E hr ⟨O, a, ow, r, hok, k⟩ => ⟨_, pss_W _, ?_⟩), bm1 (fun _ _ _ _ _ _ _ => rfl) g fd F⟩
  have E0 := env_start (N := ["self", "party"]) ow r (Nat.le_succ 1)
  refine ret_tupleF (X := bX S.P S.w S.K S.mg S.base ["self", "party"] "Night.names" (mS 5) g cdv A outer s H E) (C := S.C) B E0 rfl ?_
  refine ef_lcM (ts := [1]) [("party", 1)] cnF0 (show blkC ["self", "party"] (defScope (mS 5)) _ [("party", 1)] = true from by decide +kernel) scM5.nd ?_
  refine ei_t ?_
  refine ef_f2 N ?_
  refine ef_i 0 rfl ?_
  refine ⟨_, _, _, rfl, ?_⟩
  refine ⟨_, rfl, ?_⟩
  refine ⟨rfl, by rw [List.length_map]; have := hok.c3; omega, by decide, fun d hd s H0 Cc cl fp => ?_, ?_⟩
  · obtain ⟨c, hc, rfl⟩ := List.mem_map.mp hd
    refine sg_n 1 rfl ?_ scM5.nd
    refine ⟨rfl, fun s H0 Cc cl fp => ?_⟩
    unfold ptyD
    refine ef_ixT ?_
    refine ef_i 1 rfl ?_
    refine ⟨_, rfl, ?_⟩
    refine ef_int ?_
    refine ⟨_, _, _, rfl, rfl, (atI_of (i := 0) rfl), ?_⟩
    exact ⟨rfl, rfl⟩
  refine ⟨a.names, by rw [List.map_map]; show _ = Vl.d (.list ((a.cl.map Prod.fst).map .str)); rw [List.map_map]; rfl, fun l o H' kk hl hd hc hH => ?_⟩
  exact k l o H' (fun b u e => kk b u e no_ow) hl hd hc hH
end
end W
/-! W14: a night is made, read. -/
namespace W
open PySem PySem.Spec PyProof.Rows L2 DL M
theorem sc_init : FnScope ["self", "divisors", "parties", "piles", "party"] ["self", "divisors", "parties", "piles"] (defScope (mS 0)) := ⟨rfl, rfl, rfl, by decide +kernel, rfl, by decide +kernel, by decide +kernel⟩
/-- what __init__ promises: the objects at hand before the instance was laid are H0 -/
def spI (K : PySem.W.Frag) (C : Addr) : Sp := fun vs H Q _ => ∃ (O : List Addr) (H0 : Hp) (x dx : Addr) (ws : List V) (p : Pt), vs = .ref x :: ws ∧ Own O H0 ∧ H0 x = none ∧ H0 dx = none ∧ dx ≠ x ∧ H = upd (upd H0 dx (.own x)) x (.ins C dx []) ∧
  RepAll K C O H0 ws [dvD p, clD p, hpD p] ∧ Ok p ∧ ∀ H', (∀ a o, H0 a = some o → H' a = some o) → Rep K C O H' (.ref x) (nig p) → Q .non H'
theorem ef_run {C : Addr} {X : Cx} {e : Expr} {G : Ga} {Q : Vl → Ga → Prop} {O : List Addr} {σ : L2.St} {H : Hp} {Q' : VK} (h : Ef C X e G Q) (E : Env X.K C O H σ G)
    (k : ∀ v vl G' H', Env X.K C O H' σ G' → Kp σ G O H σ G' O H' → RepV X.K C O H' σ G' v vl → Q vl G' → Q' v H') : tW X e σ H Q' := h O σ H E Q' k
section
variable {S : Sys} {g : Addr} {fd : FuncData} {dv : V}
/-- one store -/
theorem fld_go {X : Cx} {σ : L2.St} {H : Hp} {D : Ends} {f x y : Str} {rest : List Stmt} {i : Nat} {p1 p2 p3 pos : Pos} {a C dx : Addr} {fs : List (Str × V)} {v : V}
    (hc : Cls X.K C) (hn : NoAttr X.K C f) (h0 : X.N[0]? = some x) (hi : X.N[i]? = some y) (vx : Vis X.env.scope x) (vy : Vis X.env.scope y) (d1 : (x == ("__debug__" : Str)) = false) (d2 : (x == ("__classdict__" : Str)) = false) (d3 : (y == ("__debug__" : Str)) = false) (d4 : (y == ("__classdict__" : Str)) = false)
    (sx : σ[0]? = some (some (.ref a))) (sy : σ[i]? = some (some v)) (hH : H a = some (.ins C dx fs)) (hl : fs.length < 1000) (hs : swapsWith (.Name y p3) (some (.Attribute (.Name x p1) f p2)) pos.line X.env = pure false)
    (k : tSs X rest D σ (upd H a (.ins C dx (putF f v fs)))) : tSs X (.Assign [.Attribute (.Name x p1) f p2] (.Name y p3) pos :: rest) D σ H :=
  tSs_of (pss_cons (ps_fld (pe_var h0 vx d1 d2) (pe_var hi vy d3 d4) hs) (pss_W rest)) ⟨v, sy, .ref a, sx, a, C, dx, fs, rfl, hH, hc, hn, hl, k⟩
theorem w_init (F : FunD S.K "__init__" "Night.__init__" (defArgs (mS 0)) (defBody (mS 0)) (defScope (mS 0)) [dv] [] g fd) (N : Nc S.K S.C) (B : Bt S.mg)
    (k_check_divisors : T_check_divisors S) (k_check_parties : T_check_parties S) (k_check_piles : T_check_piles S) : FnR S.P S.w S.K S.mg S.base CX0 5 g (spI S.K S.C) := by
  have FO : FnOk S.P S.w S.K S.mg S.base CX0 5 g fd ["self", "divisors", "parties", "piles"] (spI S.K S.C) := by
    refine F.ok (k := 4) sc_init (fun vs H Q E ⟨O, H0, x, dx, ws, p, e, _, _, _, _, _, r, _⟩ => by rw [e, List.length_cons, r.1]; rfl) (fun cdv A outer s H vs Q E hr ⟨O, H0, x, dx, ws, p, e, w0, n1, n2, n3, eH, r, ok, k⟩ => ⟨_, (pss_W _).nox, ?_⟩)
    subst e eH
    have hk : ∀ a o, H0 a = some o → upd (upd H0 dx (.own x)) x (.ins S.C dx []) a = some o := fun a o e => by
      rw [upd_ne (ne_of_none e n1), upd_ne (ne_of_none e n2)]
      exact e
    have w1 : Own O (upd (upd H0 dx (.own x)) x (.ins S.C dx [])) := w0.keepNew hk
    obtain ⟨v1, r1, rfl, q1, r'⟩ := r.cons_inv
    obtain ⟨v2, r2, rfl, q2, r''⟩ := r'.cons_inv
    obtain ⟨v3, r3, rfl, q3, r'''⟩ := r''.cons_inv
    obtain rfl := r'''.nil_inv
    have kk : Keep O H0 O (upd (upd H0 dx (.own x)) x (.ins S.C dx [])) := ⟨fun a o e _ => hk a o e, fun _ m => .inl m⟩
    have E0 : Env S.K S.C O (upd (upd H0 dx (.own x)) x (.ins S.C dx [])) (L2.start ["self", "divisors", "parties", "piles", "party"] [.ref x, v1, v2, v3]) [.un, .imm (dvD p), .imm (clD p), .imm (hpD p), .un] := by
      refine ⟨rfl, fun i s h => ?_, fun i j s t ds es a h1 h2 h3 h4 h5 h6 => ?_, w1⟩
      · match i, h with
        | 0, h => cases h; exact ⟨_, rfl, trivial⟩
        | 1, h => cases h; exact ⟨_, rfl, v1, rfl, q1.keep kk w0⟩
        | 2, h => cases h; exact ⟨_, rfl, v2, rfl, q2.keep kk w0⟩
        | 3, h => cases h; exact ⟨_, rfl, v3, rfl, q3.keep kk w0⟩
        | 4, h => cases h; exact ⟨_, rfl, trivial⟩
        | n + 5, h => cases h
      · match i, h3 with
        | 0, h => cases h; cases h5
        | 1, h => cases h; cases h5
        | 2, h => cases h; cases h5
        | 3, h => cases h; cases h5
        | 4, h => cases h; cases h5
        | n + 5, h => cases h
    have no : ∀ (a : Addr), ¬ Ow (L2.start ["self", "divisors", "parties", "piles", "party"] [.ref x, v1, v2, v3]) [.un, .imm (dvD p), .imm (clD p), .imm (hpD p), .un] a := fun a ⟨i, s, ds, h1, h2, h3⟩ => by
      match i, h2 with
      | 0, h => cases h; cases h3
      | 1, h => cases h; cases h3
      | 2, h => cases h; cases h3
      | 3, h => cases h; cases h3
      | 4, h => cases h; cases h3
      | n + 5, h => cases h
    have hx0 : upd (upd H0 dx (.own x)) x (.ins S.C dx []) x = some (.ins S.C dx []) := upd_same
    -- the body
    generalize hX : (cxOf CX0 S.P S.w S.K S.mg S.base ["self", "divisors", "parties", "piles", "party"] "Night.__init__" (defScope (mS 0)) g cdv A outer s (upd (upd H0 dx (.own x)) x (.ins S.C dx [])) E).nox = X
    subst hX
    refine tSs_of (pss_cons (ps_expr (pe_W _)) (pss_W _)) ?_
    refine ef_run (C := S.C) (Q := fun _ G => G = [.un, .imm (dvD p), .imm (clD p), .imm (hpD p), .un]) ?_ E0 fun v vl G1 H1 E1 K1 R1 e1 => ?_
    · refine ef_cF k_check_divisors (hr.mono (by omega)) ?_
      refine ea_d ?_
      refine ef_i 1 rfl ?_
      refine ⟨_, rfl, ?_⟩
      refine ea_nil ?_
      exact ⟨p, rfl, ok, rfl⟩
    subst e1
    refine tSs_of (pss_cons (ps_expr (pe_W _)) (pss_W _)) ?_
    refine ef_run (C := S.C) (Q := fun _ G => G = [.un, .imm (dvD p), .imm (clD p), .imm (hpD p), .un]) ?_ E1 fun v vl G2 H2 E2 K2 R2 e2 => ?_
    · refine ef_cF k_check_parties (hr.mono (by omega)) ?_
      refine ea_d ?_
      refine ef_i 2 rfl ?_
      refine ⟨_, rfl, ?_⟩
      refine ea_nil ?_
      exact ⟨p, rfl, ok, rfl⟩
    subst e2
    refine tSs_of (pss_cons (ps_expr (pe_W _)) (pss_W _)) ?_
    refine ef_run (C := S.C) (Q := fun _ G => G = [.un, .imm (dvD p), .imm (clD p), .imm (hpD p), .un]) ?_ E2 fun v vl G3 H3 E3 K3 R3 e3 => ?_
    · refine ef_cF k_check_piles (hr.mono (by omega)) ?_
      refine ea_d ?_
      refine ef_lcM (ts := [4]) [("party", 4)] cnF0 (show blkC ["self", "divisors", "parties", "piles", "party"] (defScope (mS 0)) _ [("party", 4)] = true from by decide +kernel) sc_init.nd ?_
      refine ei_t ?_
      refine ef_i 2 rfl ?_
      refine ⟨_, rfl, ?_⟩
      refine ⟨rfl, by rw [List.length_map]; have := ok.c3; omega, by decide, fun d hd s H0 Cc cl fp => ?_, ?_⟩
      · obtain ⟨c, hc, rfl⟩ := List.mem_map.mp hd
        refine sg_n 4 rfl ?_ sc_init.nd
        refine ⟨rfl, fun s H0 Cc cl fp => ?_⟩
        unfold ptyD
        refine ef_ixT ?_
        refine ef_i 4 rfl ?_
        refine ⟨_, rfl, ?_⟩
        refine ef_int ?_
        refine ⟨_, _, _, rfl, rfl, (atI_of (i := 0) rfl), ?_⟩
        exact ⟨rfl, rfl⟩
      refine ⟨_, rfl, ?_⟩
      refine ea_d ?_
      refine ef_i 3 rfl ?_
      refine ⟨_, rfl, ?_⟩
      refine ea_nil ?_
      refine ⟨p, by rw [List.map_map]; show _ = [Vl.d (PyData.list ((p.cl.map Prod.fst).map .str)), _]; rw [List.map_map]; rfl, ok, rfl⟩
    have K : Kp _ _ O _ _ _ O _ := (K1.trans K2 E0).trans K3 E0
    have hx3 : H3 x = some (.ins S.C dx []) := K.obj _ _ hx0 (no _)
    refine fld_go N.cls N.n1 rfl (i := 1) rfl (Or.inl rfl) (Or.inl rfl) (by decide) (by decide) (by decide) (by decide) rfl (v := v1) rfl hx3 (Nat.zero_lt_succ _) rfl ?_
    refine fld_go N.cls N.n2 rfl (i := 2) rfl (Or.inl rfl) (Or.inl rfl) (by decide) (by decide) (by decide) (by decide) rfl (v := v2) rfl upd_same (Nat.lt_of_le_of_lt (L2.length_putF _ _ _) (by have := L2.length_putF "held_divisors" v1 []; simp only [List.length_nil] at this ⊢; omega)) rfl ?_
    refine fld_go N.cls N.n3 rfl (i := 3) rfl (Or.inl rfl) (Or.inl rfl) (by decide) (by decide) (by decide) (by decide) rfl (v := v3) rfl upd_same (Nat.lt_of_le_of_lt (L2.length_putF _ _ _) (by have h1 := L2.length_putF "held_divisors" v1 []; have h2 := L2.length_putF "held_parties" v2 (putF "held_divisors" v1 []); simp only [List.length_nil] at h1 h2 ⊢; omega)) rfl ?_
    refine tSs_of pss_nil ?_
    have hf : ∀ a o, H0 a = some o → ∀ f1 f2 f3 : HO, upd (upd (upd H3 x f1) x f2) x f3 a = some o := fun a o e f1 f2 f3 => by
      rw [upd_ne (ne_of_none e n1), upd_ne (ne_of_none e n1), upd_ne (ne_of_none e n1)]
      exact K.obj _ _ (hk a o e) (no _)
    have kf : ∀ f1 f2 f3 : HO, Keep O H0 O (upd (upd (upd H3 x f1) x f2) x f3) := fun f1 f2 f3 => ⟨fun a o e _ => hf a o e f1 f2 f3, fun _ m => .inl m⟩
    refine k _ (fun a o e => hf a o e _ _ _) (.nig upd_same (q1.keep (kf _ _ _) w0) (q2.keep (kf _ _ _) w0) (q3.keep (kf _ _ _) w0))
  obtain ⟨ds, hd, hb⟩ := F.binds1 (ps := ["self", "divisors", "parties", "piles"]) 4 1 (by simp) rfl fun T kV doc pm an cdv ct us its h1 h2 => match us, its, h1, h2 with | [_, _, _, _], [_], _, _ => ⟨_, rfl, rfl⟩
  exact (FO.raw hb hd).imp fun vs H Q E h => by
    show spI S.K S.C (vs ++ []) H Q E
    rw [List.append_nil]
    exact h
end
end W
/-! W15: Night.read, night_of. -/
namespace DL
open PySem PySem.Spec PyProof.Rows L2
def clsD : PyData := .dict [(.none, .none)]
section
variable {C : Addr} {X : Cx} {G G' : Ga} {T : Es} {Q : Vl → Ga → Prop} {O O' : List Addr} {σ σ' : L2.St} {H H' : Hp}
variable {x y z : Str} {pos pos' p : Pos} {a b e c : Expr} {es : List Expr} {st : Stmt} {rest body : List Stmt}
/-- try: .. except ..: .. where the body raises nothing -/
theorem ss_try {h₀ : ExceptHandler} {hs : List ExceptHandler} (h : SS C X.nox body G { T with N := fun G' => SS C X rest G' T }) : SS C X (.Try body (h₀ :: hs) [] [] pos :: rest) G T :=
  ss_cons (ps_try_thru0 (pss_W (X := X.nox) body)) fun O σ H E D hN hR hB hJ => h O σ H E D (fun O' σ' G' H' E' K' q => hN O' σ' G' H' E' K' q) hR hB hJ
theorem cls_inv {v : V} (h : Rep X.K C O H v clsD) : v = .ref C := by
  unfold clsD at h
  cases h with
  | cls => rfl
/-- the promise of a def that makes an instance from data: what the class call gives -/
def tMkL (C : Addr) (i : Nat) (sp : Sp) (E : XK) (t : TA) : TE := fun σ H Q => σ[i]? = some (some (.ref C)) ∧ t σ H fun vs H1 => ∀ x dx, H1 x = Option.none → H1 dx = Option.none → dx ≠ x →
  sp (V.ref x :: vs) (upd (upd H1 dx (.own x)) x (.ins C dx [])) (fun v H2 => v = .non ∧ Q (.ref x) H2) E
theorem pe_makeL {CX : CXT} {k i : Nat} {f : Addr} {sp : Sp} {E : XK} {t : TA} (M : Mk X.K C f) (F : FnR X.prog X.w X.K X.mg X.base CX k f sp) (hr : Room (k + 1) X.A) (hN : X.N[i]? = some x) (hv : Vis X.env.scope x) (hx : Passes CX X E) (ha : PA X (e :: es) t)
    (hdb : (x == ("__debug__" : Str)) = false := by decide) (hcd : (x == ("__classdict__" : Str)) = false := by decide)
    (he : starEach (e :: es) X.env = (false, eval e X.env) :: starEach es X.env := by rfl) (hpl : (backTo pos (starEach es X.env)).any (·.1) = false := by rfl) : PE X (.Call (.Name x p) (e :: es) [] pos) (tMkL C i sp E t) := by
  refine ⟨fun pins s σ H Q I h => ?_⟩
  obtain ⟨hs, ht⟩ := h
  refine wpAny_Call_Name_kw (thn ((pe_var (pos := p) hN hv hdb hcd).run pins s σ H (fun v H1 => v = .ref C ∧ H1 = H) I ⟨.ref C, hs, rfl, rfl⟩) fun u s1 ⟨v, H1, I1, r1, q1⟩ => ?_)
  obtain ⟨rfl, rfl⟩ := q1
  cases r1
  refine PySem.W.callWith_K (h₀ := X.base) I.ok.mod.kin M.kp (thn (ha.run pos pins s1 σ _ _ I1 ht) fun us s2 ⟨vs, H2, I2, r, q⟩ => ⟨I2.kIn, ?_⟩) he hpl
  exact StX.run_makeR M F hr hx I2 r q
end
end DL
namespace W
open PySem PySem.Spec PyProof.Rows L2 DL M
section
variable {C : Addr} {X : Cx} {G G' : Ga} {T : Es} {Q : Vl → Ga → Prop} {O O' : List Addr} {σ σ' : L2.St} {H H' : Hp}
variable {x y z : Str} {pos pos' p : Pos} {a b e c : Expr} {es : List Expr} {st : Stmt} {rest body : List Stmt}
theorem ef_makeL (i : Nat) {f : Addr} {k : Nat} (M : Mk X.K C f) (F : FnR X.prog X.w X.K X.mg X.base CX0 k f (spI X.K C)) (hr : Room (k + 1) X.A) (hG : G[i]? = some (.imm clsD))
    (h : Ea C X (e :: es) G fun vls G1 => ∃ p : Pt, vls = [dvD p, clD p, hpD p].map Vl.d ∧ Ok p ∧ Q (.d (nig p)) G1) (hN : X.N[i]? = some x := by rfl) (hv : Vis X.env.scope x := by first | exact Or.inl rfl | exact Or.inr (Or.inl rfl) | exact Or.inr (Or.inr rfl))
    (hdb : (x == ("__debug__" : Str)) = false := by decide) (hcd : (x == ("__classdict__" : Str)) = false := by decide)
    (he : starEach (e :: es) X.env = (false, eval e X.env) :: starEach es X.env := by rfl) (hpl : (backTo pos (starEach es X.env)).any (·.1) = false := by rfl) : Ef C X (.Call (.Name x p) (e :: es) [] pos) G Q := by
  intro O σ H E Q' q
  refine tW_of (pe_makeL (E := E0) M F hr hN hv pass0 (pa_W (e :: es)) hdb hcd he hpl) ?_
  obtain ⟨o, e0, v, rfl, r⟩ := E.sl i _ hG
  refine ⟨by rw [e0, cls_inv r], h O σ H E _ fun vs vls G1 H1 E1 K1 hl R1 ⟨p, e1, ok, z⟩ => ?_⟩
  subst e1
  intro x dx n1 n2 ne
  exact ⟨O, H1, x, dx, vs, p, rfl, E1.wo, n1, n2, ne, rfl, repAll_of hl R1, ok, fun H' k r => ⟨rfl, Co.ext (Co.step q E K1) E1 k r z⟩⟩
/-- Night.read, as others see it -/
structure RdN (S : Sys) (n : Nat) : Prop where
  ex : ∃ mc p g, ClX.CRead S.K S.C mc ∧ ClX.CMet S.K S.C mc "read" p g ∧ FnR S.P S.w S.K S.mg S.base CX0 n g (spF S.K S.C (α := Pt) (fun p => [clsD, .str (sheet p)]) (fun p => Ok p) (fun p => nig p)) ∧ S.mg "Night" = some (.ref S.C)
theorem ef_read {S : Sys} {n : Nat} {w : World} {N : List Str} {q : Str} {sc : Scope} {pl : Sem Bool} (R : RdN S n) (hP : X.prog = S.P) (hw : X.w = S.w) (hK : X.K = S.K) (hmg : X.mg = S.mg) (hbase : X.base = S.base) (hC : C = S.C) (hr : Room n X.A)
    (h : Ea C X [e] G fun vls G1 => ∃ p : Pt, vls = [Vl.d (.str (sheet p))] ∧ Ok p ∧ Q (.d (nig p)) G1) (hg : Gl X "Night" := by rfl)
    (hst : starEach [e] X.env = (false, eval e X.env) :: starEach [] X.env := by rfl)
    (ht : eval (.Call (.Attribute (.Name "Night" p) "read" pos') [e] [] pos) X.env = (do
      let ov ← eval (.Name "Night" p) X.env
      standAt pos'.atName
      let (f, first) ← holding [ov] (getMethod ov "read" pl)
      callWith pos f first (backTo pos (starEach [e] X.env)) (backToKw pos (keywordEach [] X.env))) := by rfl) : Ef C X (.Call (.Attribute (.Name "Night" p) "read" pos') [e] [] pos) G Q := by
  obtain ⟨mc, p', g, cr, cm, F, hm⟩ := R.ex
  subst hC
  rw [← hP, ← hw, ← hK, ← hmg, ← hbase] at F
  rw [← hK] at cr cm
  rw [← hmg] at hm
  intro O σ H E Q' q
  refine tW_of (ClX.pe_cmeth (E := E0) (pe_glob (v := .ref S.C) hg hm rfl) cr cm F hr pass0 (pa_W [e]) hst rfl ht) ?_
  refine ⟨rfl, h O σ H E _ fun vs vls G1 H1 E1 K1 hl R1 ⟨p, e1, ok, z⟩ => ?_⟩
  subst e1
  match vs, hl, R1 with
  | [v], _, R1 =>
    have r1 : Rep X.K S.C O H1 v (.str (sheet p)) := R1 0 v _ rfl rfl
    refine ⟨O, p, E1.wo, .cons .cls (.cons r1 .nil), ok, fun v' H' d k hp r => ?_⟩
    subst hp
    refine Co.ext (Co.step q E K1) E1 k ?_ z
    exact r
end
theorem sc_read : FnScope ["cls", "text", "parts", "night"] ["cls", "text"] (defScope (mS 1)) := ⟨rfl, rfl, rfl, by decide +kernel, rfl, by decide +kernel, by decide +kernel⟩
section
variable {S : Sys} {g f : Addr} {fd : FuncData}
theorem w_read (F : Fun S.K "read" "Night.read" (mS 1) g fd) (M : Mk S.K S.C f) (I : FnR S.P S.w S.K S.mg S.base CX0 5 f (spI S.K S.C)) (B : Bt S.mg) (k_parts_of : T_parts_of S) :
    FnR S.P S.w S.K S.mg S.base CX0 7 g (spF S.K S.C (α := Pt) (fun p => [clsD, .str (sheet p)]) (fun p => Ok p) (fun p => nig p)) := by
  have FO : FnOk S.P S.w S.K S.mg S.base CX0 7 g fd ["cls", "text"] (spF S.K S.C (α := Pt) (fun p => [clsD, .str (sheet p)]) (fun p => Ok p) (fun p => nig p)) := by
    refine fn_A F sc_read (fun _ _ => rfl) fun cdv A outer s H E a hr hp => ?_
    refine ss_set 2 ?_ rfl sc_read.nd
    refine ef_cut (.tuple [dvD a, clD a, hpD a]) ?_ ?_
    · refine ef_if ?_
      refine et_v ?_
      refine ef_isStr B ?_
      refine ef_i 1 rfl ?_
      refine ⟨_, rfl, rfl, ?_⟩
      refine ⟨_, rfl, ?_⟩
      refine ⟨fun hk => ?_, fun hk => nomatch hk⟩
      refine ef_cF k_parts_of (hr.mono (by omega)) ?_
      refine ea_d ?_
      refine ef_i 1 rfl ?_
      refine ⟨_, rfl, ?_⟩
      refine ea_nil ?_
      refine ⟨a, rfl, hp, ?_⟩
      exact ⟨rfl, rfl⟩
    refine ⟨_, rfl, rfl, ?_⟩
    refine ss_if ?_
    refine et_c ?_
    refine ec_isN ?_
    refine ef_i 2 rfl ?_
    refine ⟨_, rfl, ?_⟩
    refine ⟨_, rfl, ?_⟩
    refine ⟨fun hk => (nomatch hk), fun hk => ?_⟩
    refine ss_nil ?_
    refine ss_try ?_
    refine ss_set 3 ?_ rfl sc_read.nd
    refine ef_makeL 0 M I (hr.mono (by omega)) rfl ?_
    refine ea_d ?_
    refine ef_ixT ?_
    refine ef_i 2 rfl ?_
    refine ⟨_, rfl, ?_⟩
    refine ef_int ?_
    refine ⟨_, _, _, rfl, rfl, (atI_of (i := 0) rfl), ?_⟩
    refine ⟨_, rfl, ?_⟩
    refine ea_d ?_
    refine ef_ixT ?_
    refine ef_i 2 rfl ?_
    refine ⟨_, rfl, ?_⟩
    refine ef_int ?_
    refine ⟨_, _, _, rfl, rfl, (atI_of (i := 1) rfl), ?_⟩
    refine ⟨_, rfl, ?_⟩
    refine ea_d ?_
    refine ef_ixT ?_
    refine ef_i 2 rfl ?_
    refine ⟨_, rfl, ?_⟩
    refine ef_int ?_
    refine ⟨_, _, _, rfl, rfl, (atI_of (i := 2) rfl), ?_⟩
    refine ⟨_, rfl, ?_⟩
    refine ea_nil ?_
    refine ⟨a, rfl, hp, ?_⟩
    refine ⟨_, rfl, rfl, ?_⟩
    refine ss_nil ?_
    refine ss_retD ?_
    refine ef_i 3 rfl ?_
    exact ⟨_, rfl, rfl⟩
  refine (FO.raw (ds := []) (dvs := []) (F.binds fun kV doc pm an cdv ct us hl => match us, hl with | [u0, u1], _ => rfl) .nil).imp fun vs H Q E h => ?_
  show spF S.K S.C _ _ _ (vs ++ []) H Q E
  rw [List.append_nil]
  exact h
theorem sc54 : FnScope ["text", "night"] ["text"] (defScope (topS 54)) := ⟨rfl, rfl, rfl, by decide +kernel, rfl, by decide +kernel, by decide +kernel⟩
abbrev T_night_of (S : Sys) : Prop := Kn S.P S.w S.K S.mg S.base 8 "night_of" ["text"] (spF S.K S.C (α := Pt) (fun p => [.str (sheet p)]) (fun p => Ok p) (fun p => nig p))
theorem w_night_of (A : At S.K S.mg "night_of" (topS 54)) (R : RdN S 7) : T_night_of S := by
  refine kn_F A sc54 (fun _ _ => rfl) (b1 fun _ _ _ _ _ _ _ => rfl) fun f cdv A outer s H E a hr hp => ?_
  refine ss_try ?_
  refine ss_set 1 ?_ rfl sc54.nd
  refine ef_read (w := S.w) (N := []) (q := "") (sc := defScope (topS 54)) R rfl rfl rfl rfl rfl rfl (hr.mono (by omega)) ?_
  refine ea_d ?_
  refine ef_i 0 rfl ?_
  refine ⟨_, rfl, ?_⟩
  refine ea_nil ?_
  refine ⟨a, rfl, hp, ?_⟩
  refine ⟨_, rfl, rfl, ?_⟩
  refine ss_nil ?_
  refine ss_retD ?_
  refine ef_i 1 rfl ?_
  exact ⟨_, rfl, rfl⟩
end
end W
/-! W16: accepts. -/
namespace DL
open PySem PySem.Spec PyProof.Rows L2
section
variable {C : Addr} {X : Cx} {G G' : Ga} {O O' : List Addr} {σ σ' : L2.St} {H H' : Hp}
theorem un_held {i j : Nat} {s : Sl} {ds : List PyData} (hG : G[i]? = some .un) (h : G[j]? = some s) (hs : s.held = some ds) : i ≠ j := fun e => by
  subst e
  rw [hG] at h
  cases h
  cases hs
theorem Env.setU {i : Nat} {v : V} (E : Env X.K C O H σ G) (hG : G[i]? = some .un) : Env X.K C O H (σ.set i (some v)) G := by
  refine ⟨by rw [List.length_set]; exact E.len, fun j s h => ?_, fun j k s t ds es a h1 h2 h3 h4 h5 h6 => ?_, E.wo⟩
  · by_cases e : i = j
    · subst e
      rw [hG] at h
      cases h
      have : i < σ.length := by rw [E.len]; exact (List.getElem?_eq_some_iff.mp hG).1
      exact ⟨_, List.getElem?_set_self this, trivial⟩
    · rw [List.getElem?_set_ne e]
      exact E.sl j s h
  · rw [List.getElem?_set_ne (un_held hG h3 h5)] at h1
    rw [List.getElem?_set_ne (un_held hG h4 h6)] at h2
    exact E.dj j k s t ds es a h1 h2 h3 h4 h5 h6
theorem Kp.setU {i : Nat} {v : V} (hG : G[i]? = some .un) : Kp σ G O H (σ.set i (some v)) G O H where
  obj := fun _ _ h _ => h
  stay := fun _ h _ => h
  new := fun _ h => .inl h
  own := fun a ⟨j, s, ds, h1, h2, h3⟩ => .inl ⟨j, s, ds, by rwa [List.getElem?_set_ne (un_held hG h2 h3)] at h1, h2, h3⟩
  there := fun _ h => h
  urn := fun j ds h => ⟨List.getElem?_set_ne (un_held (ds := ds) hG h rfl), ds, h⟩
end
end DL
namespace W
open PySem PySem.Spec PyProof.Rows L2 DL M
/-- d.update(e): two dicts -/
def tDUpd (td ty : TE) : TE := fun σ H Q => td σ H fun x H1 => ∃ a, x = .ref a ∧ IsD H1 a ∧ ty σ H1 fun y H2 => ∃ b kvs more, y = .ref b ∧ a ≠ b ∧ H2 a = some (.dK kvs) ∧ H2 b = some (.dK more) ∧ kvs.length + more.length ≤ sizeLine ∧ Q .non (upd H2 a (.dK (mergeK kvs more)))
section
variable {X : Cx} {o e : Expr} {apos cpos pos : Pos} {td ty tf : TE} {t : TA} {es : List Expr} {fe : Expr}
theorem pe_dupd (ho : PE X o td) (he : PE X e ty) (m : M1 X o "update" apos e cpos) : PE X (.Call (.Attribute o "update" apos) [e] [] cpos) (tDUpd td ty) := by
  refine ⟨fun pins s σ H Q I h => ?_⟩
  refine wpAny_Call_method m.base m.few m.line PySem.F.plainAttrs_dict PySem.F.slot_dict_update PySem.F.type_dict_update (thn (ho.run pins s σ H _ I h) fun u s1 ⟨x, H1, I1, rx, a, ex, d, q1⟩ => ?_)
  subst ex
  obtain rfl : u = Value.ref a := rx
  obtain ⟨t1, t2, _⟩ := isD_at I1 d
  refine ⟨t1, t2, ?_⟩
  rw [m.trees]
  refine Calls.callWith_builtin rfl (Calls.evalArgs_plain (Calls.spliced_cons (thn (he.run pins s1 σ H1 _ I1 q1) fun iv s2 ⟨y, H2, I2, ry, b, kvs, more, ey, ne, ea, eb, hz, q2⟩ => Calls.spliced_nil ?_)))
  subst ey
  obtain rfl : iv = Value.ref b := ry
  obtain ⟨z, hd, vs, rel, dd⟩ := dk_of I2.hok ea
  obtain ⟨z2, hd2, vs2, rel2, dd2⟩ := dk_of I2.hok eb
  refine call_meetsIn PySem.F.slot_dict_update dd.typeIs PySem.F.entry_dict_update (PySem.F.args_dict_update_2 _ _) (meets_dict_update (mixKind X.prog X.w) a b ne hd2) ⟨vs, vs2, dd, dd2, by rw [← rel.length, ← rel2.length]; exact hz, fun h' dm _ hs => ?_⟩
  have he : ∃ q, h'.get? a = some q := let ⟨q, _, _, hq, _⟩ := dm; ⟨q, hq⟩
  have hl := length_mergeK more kvs
  exact ⟨.non, _, d_write I2 (by rw [ea]; exact True.intro) hs he (dk_new (by omega) hd (rel2.merge rel) dm), rfl, q2⟩
/-- fe(e, ..), fe an expression that gives a def -/
def tCallE (X : Cx) (k : Nat) (tf : TE) (t : TA) : TE := fun σ H Q => tf σ H fun y H1 => ∃ f sp, y = V.ref f ∧ PySem.W.keepIn X.K (.ref f) = true ∧ FnR X.prog X.w X.K X.mg X.base CX0 k f sp ∧ t σ H1 fun vs H2 => sp vs H2 Q E0
theorem pe_callE {k : Nat} (hr : Room k X.A) (hf : PE X fe tf) (ha : PA X (e :: es) t)
    (ht : eval (.Call fe (e :: es) [] pos) X.env = (do callWith pos (← eval fe X.env) [] (backTo pos (starEach (e :: es) X.env)) (backToKw pos (keywordEach [] X.env))) := by rfl)
    (he : starEach (e :: es) X.env = (false, eval e X.env) :: starEach es X.env := by rfl) (hpl : (backTo pos (starEach es X.env)).any (·.1) = false := by rfl) : PE X (.Call fe (e :: es) [] pos) (tCallE X k tf t) := by
  refine ⟨fun pins s σ H Q I h => ?_⟩
  refine Call_ (thn (hf.run pins s σ H _ I h) fun u s1 ⟨y, H1, I1, ry, f, sp, ey, hk, F, q⟩ => ?_) ht
  subst ey
  obtain rfl : u = Value.ref f := ry
  refine PySem.W.callWith_K (h₀ := X.base) I.ok.mod.kin hk (thn (ha.run pos pins s1 σ H1 _ I1 q) fun us s2 ⟨vs, H2, I2, r, q2⟩ => ⟨I2.kIn, ?_⟩) he hpl
  exact wpAny_call (run_fnR F hr pass0 I2 r q2)
end
theorem et_run {C : Addr} {X : Cx} {e : Expr} {G : Ga} {Q : Bool → Ga → Prop} {O : List Addr} {σ : L2.St} {H : Hp} {Q' : Bool → Hp → Prop} (h : Et C X e G Q) (E : Env X.K C O H σ G)
    (k : ∀ b G' H', Env X.K C O H' σ G' → Kp σ G O H σ G' O H' → Q b G' → Q' b H') : tT X e σ H Q' := h O σ H E Q' k
theorem ea_run {C : Addr} {X : Cx} {es : List Expr} {G : Ga} {Q : List Vl → Ga → Prop} {O : List Addr} {σ : L2.St} {H : Hp} {Q' : List V → Hp → Prop} (h : Ea C X es G Q) (E : Env X.K C O H σ G)
    (k : ∀ vs vls G' H', Env X.K C O H' σ G' → Kp σ G O H σ G' O H' → vs.length = vls.length → (∀ (i : Nat) v vl, vs[i]? = some v → vls[i]? = some vl → RepV X.K C O H' σ G' v vl) → Q vls G' → Q' vs H') : tA X es σ H Q' := h O σ H E Q' k
/-- a known def, with its def at hand -/
structure KnF (P : Program) (w : World) (K : PySem.W.Frag) (mg : Str → Option Value) (base : Heap) (n : Nat) (x : Str) (st : Stmt) (ps : List Str) (sp : Sp) : Prop where
  ex : ∃ f fd, FnOk P w K mg base CX0 n f fd ps sp ∧ mg x = some (.ref f) ∧ PySem.W.keepIn K (.ref f) = true ∧ L2.Binds K fd ps [] ∧ L2.Fun K x x st f fd
theorem KnF.kn {P : Program} {w : World} {K : PySem.W.Frag} {mg : Str → Option Value} {base : Heap} {n : Nat} {x : Str} {st : Stmt} {ps : List Str} {sp : Sp} (h : KnF P w K mg base n x st ps sp) : Kn P w K mg base n x ps sp := by
  obtain ⟨f, fd, h1, h2, h3, h4, _⟩ := h.ex
  exact ⟨f, fd, h1, h2, h3, h4⟩
theorem kk_F {P : Program} {w : World} {K : PySem.W.Frag} {mg : Str → Option Value} {base : Heap} {C : Addr} {α : Type} {x : Str} {st : Stmt} {N ps : List Str} {n : Nat} {enc : α → List PyData} {ok : α → Prop} {val : α → PyData} (A : At K mg x st) (S : FnScope N ps (defScope st)) (hl : ∀ a, ok a → (enc a).length = ps.length) (hb : ∀ f fd, L2.Fun K x x st f fd → L2.Binds K fd ps [])
    (body : ∀ (f : Addr) (cdv : Value) (A : Around) (outer : List PySem.Env) (s : Shared) (H : Hp) (E : XK) (a : α), Room n (A.deeper (envOfC x (defScope st) s.heap.objs.size f cdv)) → ok a →
      SS C (bX P w K mg base N x st f cdv A outer s H E) (defBody st) ((enc a).map Sl.imm ++ List.replicate (N.length - (enc a).length) .un) { N := fun _ => PyData.none = val a, R := fun d _ => d = val a }) :
    KnF P w K mg base (n + 1) x st ps (spF K C enc ok val) := by
  obtain ⟨f, fd, F, hm⟩ := A.ex
  exact ⟨f, fd, fn_A F S hl (body f), hm, F.kp, hb f fd F, F⟩
/-- the checkers' names stand for defs -/
structure Av (mg : Str → Option Value) : Prop where
  a1 : ∃ f, mg "accepts_can" = some (.ref f)
  a2 : ∃ f, mg "accepts_barred" = some (.ref f)
  a3 : ∃ f, mg "accepts_distance" = some (.ref f)
structure AcOk (a : Pt × Bool × List PyData × PyData) : Prop where
  o : Ok a.1
  t : ∀ d ∈ a.2.2.1, Dat d
  d : Dat a.2.2.2
  l1 : 1 ≤ a.2.2.1.length
  l2 : a.2.2.1.length ≤ 9
theorem sc69 : FnScope ["claim", "certificate", "asked", "night"] ["claim", "certificate"] (defScope (topS 69)) := ⟨rfl, rfl, rfl, by decide +kernel, rfl, by decide +kernel, by decide +kernel⟩
abbrev T_accepts (S : Sys) : Prop := KnF S.P S.w S.K S.mg S.base 10 "accepts" (topS 69) ["claim", "certificate"] (spF S.K S.C (α := Pt × Bool × List PyData × PyData) (fun a => [claimD a.1 a.2.1 a.2.2.1, a.2.2.2]) (fun a => AcOk a) (fun a => .bool (dueT a.1 a.2.1 a.2.2.1 a.2.2.2)))
def asked1 (f1 f2 f3 : Addr) : List (Key × V) := [(.inr "can", .ref f1), (.inr "barred", .ref f2), (.inr "sure", .ref f3), (.inr "never", .ref f3)]
def asked2 (f4 : Addr) : List (Key × V) := [(.inr "near", .ref f4), (.inr "far", .ref f4)]
theorem asked_at (f1 f2 f3 f4 : Addr) (sure : Bool) : valV (mergeK (mergeK [] (asked1 f1 f2 f3)) (mergeK [] (asked2 f4))) (.inr (wd sure)) = some (.ref f3) := by
  cases sure <;> kernel_rfl
theorem asked_len (f1 f2 f3 f4 : Addr) : (mergeK [] (asked1 f1 f2 f3)).length + (mergeK [] (asked2 f4)).length ≤ sizeLine := by
  have h1 := length_mergeK (asked1 f1 f2 f3) []
  have h2 := length_mergeK (asked2 f4) []
  rw [List.length_nil] at h1 h2
  rw [sizeLine_eq]
  have e1 : (asked1 f1 f2 f3).length = 4 := rfl
  have e2 : (asked2 f4).length = 2 := rfl
  omega
theorem w_accepts {S : Sys} (A : At S.K S.mg "accepts" (topS 69)) (B : Bt S.mg) (av : Av S.mg) (k_night_of : T_night_of S) (k_accepts_bloc : T_accepts_bloc S) : T_accepts S := by
  refine kk_F (n := 9) A sc69 (fun _ _ => rfl) (b2 fun _ _ _ _ _ _ _ _ => rfl) fun f cdv A outer s H E a hr hp => ?_
  obtain ⟨p, sure, tail, paper⟩ := a
  have hl1 : 1 ≤ tail.length := hp.l1
  have hl2 : tail.length ≤ 9 := hp.l2
  show SS _ _ _ [.imm (.tuple (.str (wd sure) :: .str (sheet p) :: tail)), .imm paper, .un, .un] _
  refine ss_if ?_
  refine et_cut false ?_ ?_
  ·
    refine et_w ?_
    refine ew_or ?_
    refine et_not ?_
    refine et_v ?_
    refine ef_isTup B ?_
    refine ef_i 0 rfl ?_
    refine ⟨_, rfl, rfl, ?_⟩
    refine ⟨_, rfl, ?_⟩
    refine ⟨fun hk => ?_, fun hk => ?_⟩
    · cases hk
    refine ew_or ?_
    refine et_c ?_
    refine ec_lt ?_
    refine ef_len B ?_
    refine ef_i 0 rfl ?_
    refine ⟨_, .inr rfl, ?_⟩
    refine ⟨_, rfl, ?_⟩
    refine ef_int ?_
    refine ⟨_, _, rfl, rfl, ?_⟩
    refine ⟨_, rfl, ?_⟩
    refine ⟨fun hk => ?_, fun hk => ?_⟩
    · have := of_decide_eq_true hk
      simp only [List.length_cons] at this
      omega
    refine ew_one_or ?_
    refine et_not ?_
    refine et_v ?_
    refine ef_isStr B ?_
    refine ef_ixT ?_
    refine ef_i 0 rfl ?_
    refine ⟨_, rfl, ?_⟩
    refine ef_int ?_
    refine ⟨_, _, _, rfl, rfl, (atI_of (i := 0) rfl), ?_⟩
    refine ⟨_, rfl, rfl, ?_⟩
    refine ⟨_, rfl, ?_⟩
    exact ⟨rfl, rfl⟩
  refine ⟨fun hk => (nomatch hk), fun hk => ?_⟩
  refine ss_nil ?_
  refine ss_if ?_
  refine et_c ?_
  refine ec_in ?_
  refine ef_ixT ?_
  refine ef_i 0 rfl ?_
  refine ⟨_, rfl, ?_⟩
  refine ef_int ?_
  refine ⟨_, _, _, rfl, rfl, (atI_of (i := 0) rfl), ?_⟩
  refine ⟨_, rfl, ?_⟩
  refine ef_tup ?_
  refine ea_d ?_
  refine ef_str ?_
  refine ⟨_, rfl, ?_⟩
  refine ea_d ?_
  refine ef_str ?_
  refine ⟨_, rfl, ?_⟩
  refine ea_nil ?_
  refine ⟨[_, _], rfl, show 2 ≤ sizeLine by decide, ?_⟩
  refine ⟨_, ["alike", "parted"], rfl, .inr rfl, ?_⟩
  refine ⟨_, rfl, ?_⟩
  refine ⟨fun hk => ?_, fun hk => ?_⟩
  · exact absurd (of_decide_eq_true hk) (by cases sure <;> decide +kernel)
  refine ss_nil ?_
  -- asked = {..}
  obtain ⟨f1, m1⟩ := av.a1
  obtain ⟨f2, m2⟩ := av.a2
  obtain ⟨f4, m4⟩ := av.a3
  obtain ⟨f3, fd3, F3, m3, kp3, b3⟩ := k_accepts_bloc.ex
  intro O σ H0 Ev D hN hR hB hJ
  have g2 : σ.length = 4 := Ev.len
  refine tSs_of (pss_cons (ps_set sc69.nd (i := 2) rfl (.inl rfl) (pe_disp (pps_cons pe_str (pe_glob (v := .ref f1) (by rfl) m1 rfl) (pps_cons pe_str (pe_glob (v := .ref f2) (by rfl) m2 rfl) (pps_cons pe_str (pe_glob (v := .ref f3) (by rfl) m3 rfl) (pps_cons pe_str (pe_glob (v := .ref f3) (by rfl) m3 rfl) pps_nil)))) rfl rfl (by simp) (by decide))) (pss_W _)) ?_
  intro q hq
  refine ⟨upd_same, asked1 f1 f2 f3, rfl, (show 4 ≤ 15 by decide), ?_⟩
  show tSs _ _ D (σ.set 2 (some (.ref q))) (upd (upd H0 q (.dK [])) q (.dK (mergeK [] (asked1 f1 f2 f3))))
  have hk1 : ∀ b o, H0 b = some o → upd (upd H0 q (.dK [])) q (.dK (mergeK [] (asked1 f1 f2 f3))) b = some o := fun b o e => by
    rw [upd_ne (ne_of_none e hq), upd_ne (ne_of_none e hq)]
    exact e
  have s2 : (σ.set 2 (some (.ref q)))[2]? = some (some (V.ref q)) := List.getElem?_set_self (by omega)
  have hqq : upd (upd H0 q (.dK [])) q (.dK (mergeK [] (asked1 f1 f2 f3))) q = some (.dK (mergeK [] (asked1 f1 f2 f3))) := upd_same
  generalize upd (upd H0 q (.dK [])) q (.dK (mergeK [] (asked1 f1 f2 f3))) = H1 at *
  -- asked.update({..})
  refine tSs_of (pss_cons (ps_expr (pe_dupd (pe_var (i := 2) rfl (.inl rfl)) (pe_disp (pps_cons pe_str (pe_glob (v := .ref f4) (by rfl) m4 rfl) (pps_cons pe_str (pe_glob (v := .ref f4) (by rfl) m4 rfl) pps_nil)) rfl rfl (by simp) (by decide)) ⟨rfl, rfl, rfl, rfl⟩)) (pss_W _)) ?_
  refine ⟨_, s2, q, rfl, .inl ⟨_, .inl hqq⟩, fun r hr' => ⟨upd_same, asked2 f4, rfl, (show 2 ≤ 15 by decide), ?_⟩⟩
  have hqr : q ≠ r := ne_of_none hqq hr'
  refine ⟨r, _, _, rfl, hqr, ?_, upd_same, asked_len f1 f2 f3 f4, ?_⟩
  · rw [upd_ne hqr, upd_ne hqr]
    exact hqq
  show tSs _ _ D (σ.set 2 (some (.ref q))) (upd (upd (upd H1 r (.dK [])) r (.dK (mergeK [] (asked2 f4)))) q (.dK (mergeK (mergeK [] (asked1 f1 f2 f3)) (mergeK [] (asked2 f4)))))
  have hk2 : ∀ b o, H0 b = some o → upd (upd (upd H1 r (.dK [])) r (.dK (mergeK [] (asked2 f4)))) q (.dK (mergeK (mergeK [] (asked1 f1 f2 f3)) (mergeK [] (asked2 f4)))) b = some o := fun b o e => by
    rw [upd_ne (ne_of_none e hq), upd_ne (ne_of_none (hk1 b o e) hr'), upd_ne (ne_of_none (hk1 b o e) hr')]
    exact hk1 b o e
  have hqq2 : upd (upd (upd H1 r (.dK [])) r (.dK (mergeK [] (asked2 f4)))) q (.dK (mergeK (mergeK [] (asked1 f1 f2 f3)) (mergeK [] (asked2 f4)))) q = some (.dK (mergeK (mergeK [] (asked1 f1 f2 f3)) (mergeK [] (asked2 f4)))) := upd_same
  generalize upd (upd (upd H1 r (.dK [])) r (.dK (mergeK [] (asked2 f4)))) q (.dK (mergeK (mergeK [] (asked1 f1 f2 f3)) (mergeK [] (asked2 f4)))) = H2 at *
  have E2 := (Ev.ext hk2).setU (i := 2) (v := .ref q) rfl
  have K2 := (Kp.ext (σ := σ) (G := [.imm (.tuple (.str (wd sure) :: .str (sheet p) :: tail)), .imm paper, .un, .un]) (O := O) hk2).trans (Kp.setU (i := 2) (v := .ref q) rfl) Ev
  -- night = ..
  refine tSs_of (pss_cons (ps_set sc69.nd (i := 3) rfl (.inl rfl) (pe_W _)) (pss_W _)) ?_
  refine ef_run (C := S.C) (Q := fun v G => v = .d (nig p) ∧ G = [.imm (.tuple (.str (wd sure) :: .str (sheet p) :: tail)), .imm paper, .un, .un]) ?_ E2 fun v vl G3 H3 E3 K3 R3 ⟨e3, e3'⟩ => ?_
  · refine ef_cF k_night_of (hr.mono (by omega)) ?_
    refine ea_d ?_
    refine ef_ixT ?_
    refine ef_i 0 rfl ?_
    refine ⟨_, rfl, ?_⟩
    refine ef_int ?_
    refine ⟨_, _, _, rfl, rfl, (atI_of (i := 1) rfl), ?_⟩
    refine ⟨_, rfl, ?_⟩
    refine ea_nil ?_
    refine ⟨p, rfl, hp.o, ?_⟩
    exact ⟨rfl, rfl⟩
  subst e3 e3'
  have hq3 := K3.obj _ _ hqq2 (no_ow (ds := [.tuple (.str (wd sure) :: .str (sheet p) :: tail), paper]) (n := 2))
  have E4 := E3.setD (i := 3) (v := v) (d := nig p) R3
  have K4 := (K2.trans K3 Ev).trans (Kp.setD (i := 3) (v := v) (d := nig p) rfl) Ev
  show tSs _ _ D ((σ.set 2 (some (.ref q))).set 3 (some v)) H3
  have s3 : ((σ.set 2 (some (.ref q))).set 3 (some v))[2]? = some (some (V.ref q)) := by
    rw [List.getElem?_set_ne (by decide)]
    exact s2
  generalize (σ.set 2 (some (.ref q))).set 3 (some v) = σ2 at *
  -- the last test
  refine tSs_of (pss_cons (ps_if (PW.pt (pw_or (pt_cmp (pc_dnotin (by have := hr.units; exact Nat.lt_of_le_of_lt (Nat.add_le_add_left (by decide) _) this) (pe_W _) (pe_var (i := 2) rfl (.inl rfl)))) (pw_or1 (pt_W _)))) (pss_W _) (pss_W _)) (pss_W _)) ?_
  refine ef_run (C := S.C) (Q := fun v G => v = .d (.str (wd sure)) ∧ G = [.imm (.tuple (.str (wd sure) :: .str (sheet p) :: tail)), .imm paper, .un, .imm (nig p)]) ?_ E4 fun v5 vl5 G5 H5 E5 K5 R5 ⟨e5, e5'⟩ => ?_
  · refine ef_ixT ?_
    refine ef_i 0 rfl ?_
    refine ⟨_, rfl, ?_⟩
    refine ef_int ?_
    refine ⟨_, _, _, rfl, rfl, (atI_of (i := 0) rfl), ?_⟩
    exact ⟨rfl, rfl⟩
  subst e5 e5'
  obtain rfl := Rep.str_inv R5
  have no4 : ∀ b, ¬ Ow σ2 [.imm (.tuple (.str (wd sure) :: .str (sheet p) :: tail)), .imm paper, .un, .imm (nig p)] b := fun b ⟨i, s, ds, _, h2, h3⟩ => by
    match i, h2 with
    | 0, h => cases h; cases h3
    | 1, h => cases h; cases h3
    | 2, h => cases h; cases h3
    | 3, h => cases h; cases h3
    | n + 4, h => cases h
  have hq5 := K5.obj _ _ hq3 (no4 _)
  refine ⟨.ref q, s3, q, some (.ref f3), rfl, .inl ⟨_, .inr (wd sure), .inl hq5, rfl, (asked_at f1 f2 f3 f4 sure).symm⟩, false, rfl, ?_⟩
  refine iteF ?_
  refine et_run (C := S.C) (Q := fun k G => k = false ∧ G = [.imm (.tuple (.str (wd sure) :: .str (sheet p) :: tail)), .imm paper, .un, .imm (nig p)]) ?_ E5 fun k6 G6 H6 E6 K6 ⟨e6, e6'⟩ => ?_
  · refine et_c ?_
    refine ec_isN ?_
    refine ef_i 3 rfl ?_
    refine ⟨_, rfl, ?_⟩
    refine ⟨_, rfl, ?_⟩
    exact ⟨rfl, rfl⟩
  subst e6 e6'
  refine iteF ?_
  refine tSs_of pss_nil ?_
  have hq6 := K6.obj _ _ hq5 (no4 _)
  -- the call
  refine tSs_of (pss_one (ps_ret (pe_callE (k := 9) (hr.mono (by omega)) (pe_dget (by have := hr.units; exact Nat.lt_of_le_of_lt (Nat.add_le_add_left (by decide) _) this) (pe_var (i := 2) rfl (.inl rfl)) (pe_W _) (fun _ _ => rfl)) (pa_W _)))) ?_
  refine ⟨.ref q, s3, ?_⟩
  refine ef_run (C := S.C) (Q := fun v G => v = .d (.str (wd sure)) ∧ G = [.imm (.tuple (.str (wd sure) :: .str (sheet p) :: tail)), .imm paper, .un, .imm (nig p)]) ?_ E6 fun v7 vl7 G7 H7 E7 K7 R7 ⟨e7, e7'⟩ => ?_
  · refine ef_ixT ?_
    refine ef_i 0 rfl ?_
    refine ⟨_, rfl, ?_⟩
    refine ef_int ?_
    refine ⟨_, _, _, rfl, rfl, (atI_of (i := 0) rfl), ?_⟩
    exact ⟨rfl, rfl⟩
  subst e7 e7'
  obtain rfl := Rep.str_inv R7
  have hq7 := K7.obj _ _ hq6 (no4 _)
  refine ⟨q, .ref f3, rfl, .inl ⟨_, .inr (wd sure), .inl hq7, rfl, (asked_at f1 f2 f3 f4 sure).symm⟩, f3, _, rfl, kp3, F3.raw b3 .nil, ?_⟩
  refine ea_run (C := S.C) (Q := fun vls G => vls = [nig p, claimD p sure tail, paper].map Vl.d ∧ G = [.imm (.tuple (.str (wd sure) :: .str (sheet p) :: tail)), .imm paper, .un, .imm (nig p)]) ?_ E7 fun vs vls G8 H8 E8 K8 hl8 R8 ⟨e8, e8'⟩ => ?_
  · refine ea_d ?_
    refine ef_i 3 rfl ?_
    refine ⟨_, rfl, ?_⟩
    refine ea_d ?_
    refine ef_i 0 rfl ?_
    refine ⟨_, rfl, ?_⟩
    refine ea_d ?_
    refine ef_i 1 rfl ?_
    refine ⟨_, rfl, ?_⟩
    refine ea_nil ?_
    exact ⟨rfl, rfl⟩
  subst e8 e8'
  refine ⟨O, (p, sure, tail, paper), E8.wo, ?_, ⟨hp.o, hp.t, hp.d⟩, fun v H' d kk hd rd => ?_⟩
  · rw [List.append_nil]
    exact repAll_of hl8 R8
  · subst hd
    have K9 := ((((K4.trans K5 Ev).trans K6 Ev).trans K7 Ev).trans K8 Ev).trans (Kp.ext kk) Ev
    exact hR O σ2 v _ _ H' (E8.ext kk) K9 rd rfl
end W
/-! V4: accepts called by keywords, _law_judged. -/
namespace W
open PySem PySem.Spec PyProof.Rows L2 DL M
def sw {α : Type} : List α → List α
  | [a, b] => [b, a]
  | l => l
section
variable {C : Addr} {X : Cx} {G : Ga} {Q : Vl → Ga → Prop} {a b e : Expr} {p pos kp1 kp2 : Pos} {x k1 k2 : Str} {kws : List Keyword} {tk : TA}
theorem pe_callN0 {k : Nat} {f : Addr} {fd : FuncData} {ps ks : List Str} {sp : Sp} {g : List Value → List Value → List Value} {gV : List V → List V → List V} (F : FnOk X.prog X.w X.K X.mg X.base CX0 k f fd ps sp) (hr : Room k X.A) (hg : Gl X x) (hm : X.mg x = some (.ref f)) (hk : PySem.W.keepIn X.K (.ref f) = true) (hb : KBn X.K fd ps 0 ks g gV)
    (hkw : PK X kws tk) (hall : (backToKw pos (keywordEach kws X.env)).all (·.1.isSome) = true := by rfl) (hks : (backToKw pos (keywordEach kws X.env)).filterMap (·.1) = ks := by rfl)
    (hdb : (x == ("__debug__" : Str)) = false := by decide)
    (hpl : ((backTo pos (starEach [] X.env)).any (·.1) || (backToKw pos (keywordEach kws X.env)).any (·.1.isNone)) = false := by rfl) :
    PE X (.Call (.Name x p) [] kws pos) (tCallN 0 ks.length sp gV E0 tNil tk) := by
  refine ⟨fun pins s σ H Q I h => ?_⟩
  refine wpAny_Call_Name_kw (ld_glob I hg hm ?_ hdb)
  refine PySem.W.callWith_KW0 (h₀ := X.base) I.ok.mod.kin hk hall ?_ hpl
  refine thn (hkw.run pos pins s σ H _ I h) fun ws s2 ⟨zs, H2, I2, rz, l1, l2, q2⟩ => ⟨I2.kIn, ?_⟩
  rw [hks]
  exact run_fnN (us := []) (vs := []) F hr hb pass0 I2 .nil rz rfl l2 q2
theorem ef_callK2 {α : Type} {st : Stmt} {n : Nat} {p1 p2 : Str} {enc : α → List PyData} {ok : α → Prop} {val : α → PyData} (F : KnF X.prog X.w X.K X.mg X.base n x st [p1, p2] (spF X.K C enc ok val)) (hr : Room n X.A)
    (hbind : ∀ (kV doc pm : Value) (an : Option Addr) (cdv ct u0 u1 : Value), bindArgs (PySem.W.fnOf x x (defArgs st) (defBody st) (defScope st) .none kV doc pm an cdv ct) ⟨[], [(p2, u0), (p1, u1)]⟩ = pure [(p1, u1), (p2, u0)])
    (h : Ef C X a G fun v1 G1 => ∃ d1, v1 = .d d1 ∧ Ef C X b G1 fun v2 G2 => ∃ w d2, v2 = .d d2 ∧ enc w = [d2, d1] ∧ ok w ∧ Q (.d (val w)) G2) (hg : Gl X x := by rfl)
    (hall : (backToKw pos (keywordEach [⟨some p2, a, kp1⟩, ⟨some p1, b, kp2⟩] X.env)).all (·.1.isSome) = true := by rfl) (hks : (backToKw pos (keywordEach [⟨some p2, a, kp1⟩, ⟨some p1, b, kp2⟩] X.env)).filterMap (·.1) = [p2, p1] := by rfl)
    (hdb : (x == ("__debug__" : Str)) = false := by decide)
    (hpl : ((backTo pos (starEach [] X.env)).any (·.1) || (backToKw pos (keywordEach [⟨some p2, a, kp1⟩, ⟨some p1, b, kp2⟩] X.env)).any (·.1.isNone)) = false := by rfl) :
    Ef C X (.Call (.Name x p) [] [⟨some p2, a, kp1⟩, ⟨some p1, b, kp2⟩] pos) G Q := by
  obtain ⟨f, fd, FO, hm, hk, _, FU⟩ := F.ex
  have hb : KBn X.K fd [p1, p2] 0 [p2, p1] (fun _ ws => sw ws) (fun _ zs => sw zs) := by
    obtain ⟨oc, od, kV, doc, pm, an, cdv, ct, osl, rfl, lk, hcd⟩ := FU.ex
    refine ⟨fun s us ws _ l1 l2 => ?_, fun {vs us zs ws} _ r => ?_⟩
    · match us, ws, l1, l2 with
      | [], [u0, u1], _, _ => exact .of_eq (hbind kV doc pm an cdv ct u0 u1)
    · cases r with
      | nil => exact .nil
      | cons r1 r => cases r with
        | nil => exact .cons r1 .nil
        | cons r2 r => cases r with
          | nil => exact .cons r2 (.cons r1 .nil)
          | cons r3 r => exact .cons r1 (.cons r2 (.cons r3 r))
  intro O σ H E Q' q
  refine tW_of (pe_callN0 FO hr hg hm hk hb (pk_cons (pe_W a) (pk_cons (pe_W b) pk_nil)) hall hks hdb hpl) ?_
  refine h O σ H E _ fun v1 vl1 G1 H1 E1 K1 R1 ⟨d1, e1, h2⟩ => ?_
  subst e1
  refine h2 O σ H1 E1 _ fun v2 vl2 G2 H2 E2 K2 R2 ⟨w, d2, e2, ew, hok, z⟩ => ?_
  subst e2
  refine ⟨rfl, rfl, O, w, E2.wo, ?_, hok, fun v H' d kk hd r => ?_⟩
  · rw [ew]
    exact .cons R2 (.cons (Rep.keep (K2.keep E1) E1.wo R1) .nil)
  · subst hd
    exact Co.ext (Co.step q E (K1.trans K2 E)) E2 kk r z
end
theorem sc94 : FnScope ["_law_said", "_law_paper", "_law_due"] ["_law_said", "_law_paper", "_law_due"] (defScope (topS 94)) := ⟨rfl, rfl, rfl, by decide +kernel, rfl, by decide +kernel, by decide +kernel⟩
abbrev T__law_judged (S : Sys) : Prop := KnG S.P S.w S.K S.mg S.base 11 "_law_judged" ["_law_said", "_law_paper", "_law_due"] (spF S.K S.C (α := (Pt × Bool × List PyData × PyData) × Bool) (fun a => [claimD a.1.1 a.1.2.1 a.1.2.2.1, a.1.2.2.2, .bool a.2]) (fun a => AcOk a.1) (fun a => .bool (dueT a.1.1 a.1.2.1 a.1.2.2.1 a.1.2.2.2 == a.2)))
theorem shw_bb (a b : Bool) : Shw (.list [.bool a, .bool b]) where
  pl := .lst fun d h => by
    simp at h
    rcases h with rfl | rfl
    · exact .bl _
    · exact .bl _
  sh := by cases a <;> cases b <;> decide +kernel
  dp := by cases a <;> cases b <;> decide +kernel
  ln := by cases a <;> cases b <;> decide +kernel
  nl := .inl (by cases a <;> cases b <;> decide +kernel)
theorem shown_bb (a b : Bool) : decide ((PyData.list [.bool a, .bool a]).shown = (PyData.list [.bool b, .bool b]).shown) = (a == b) := by
  cases a <;> cases b <;> decide +kernel
theorem w__law_judged {S : Sys} (A : At S.K S.mg "_law_judged" (topS 94)) (B : Bt S.mg) (k_accepts : T_accepts S) : T__law_judged S := by
  refine kg_F A sc94 (fun _ _ => rfl) (b3 fun _ _ _ _ _ _ _ _ _ => rfl) fun f cdv A outer s H E a hr hgd hp => ?_
  obtain ⟨⟨p, sure, tail, paper⟩, due⟩ := a
  refine ss_retD ?_
  refine ef_c ?_
  refine ec_eqS ?_
  refine ef_repr B hgd hr ?_
  refine ef_lst ?_
  refine ea_d ?_
  refine ef_cF k_accepts.kn (hr.mono (by omega)) ?_
  refine ea_d ?_
  refine ef_i 0 rfl ?_
  refine ⟨_, rfl, ?_⟩
  refine ea_d ?_
  refine ef_i 1 rfl ?_
  refine ⟨_, rfl, ?_⟩
  refine ea_nil ?_
  refine ⟨(p, sure, tail, paper), rfl, hp, ?_⟩
  refine ⟨_, rfl, ?_⟩
  refine ea_d ?_
  refine ef_callK2 k_accepts (hr.mono (by omega)) (fun _ _ _ _ _ _ _ _ => rfl) ?_
  refine ef_i 1 rfl ?_
  refine ⟨_, rfl, ?_⟩
  refine ef_i 0 rfl ?_
  refine ⟨(p, sure, tail, paper), _, rfl, rfl, hp, ?_⟩
  refine ⟨_, rfl, ?_⟩
  refine ea_nil ?_
  refine ⟨[_, _], rfl, show 2 ≤ sizeLine by decide, ?_⟩
  refine ⟨_, rfl, shw_bb _ _, ?_⟩
  refine ⟨_, rfl, ?_⟩
  refine ef_repr B hgd hr ?_
  refine ef_mulL ?_
  refine ef_lst ?_
  refine ea_d ?_
  refine ef_i 2 rfl ?_
  refine ⟨_, rfl, ?_⟩
  refine ea_nil ?_
  refine ⟨[_], rfl, show 1 ≤ sizeLine by decide, ?_⟩
  refine ⟨_, rfl, ?_⟩
  refine ef_int ?_
  refine ⟨_, _, rfl, rfl, ⟨by decide, by decide, show 1 ≤ 100 by decide⟩, ?_⟩
  refine ⟨_, rfl, shw_bb due due, ?_⟩
  refine ⟨_, _, rfl, rfl, ?_⟩
  refine ⟨_, rfl, ?_⟩
  show PyData.bool _ = PyData.bool _
  congr 1
  exact shown_bb _ _
end W
/-! V5: the repr of a fraction is no other's. -/
namespace W
open PySem PySem.Spec PyProof.Rows L2 DL M TL
def Gd (c : Nat) : Prop := c = 44 ∨ c = 32 ∨ (48 ≤ c ∧ c ≤ 57)
theorem textFrom_mem {c : Nat} : ∀ {ts : List Str} {k : Nat} {acc : Str}, c ∈ tl acc → c ∈ tl (textFrom k acc ts)
  | [], _, _, h => h
  | t :: r, k, acc, h => by
    show c ∈ tl (textFrom (k + 1) _ r)
    refine textFrom_mem ?_
    rw [tl_append, tl_append]
    exact List.mem_append_left _ (List.mem_append_left _ h)
theorem list_mem (ts : List Str) : 91 ∈ tl (listText ts) := by
  unfold listText
  rw [tl_append]
  exact List.mem_append_left _ (textFrom_mem (by decide +kernel))
theorem quote_mem (x : Str) : ∃ l, tl (reprText x) = l ++ [reprQuote x] := by
  unfold reprText tl
  exact ⟨_, Array.toList_push ..⟩
theorem quote_or (x : Str) : reprQuote x = 34 ∨ reprQuote x = 39 := by
  unfold reprQuote
  split
  · exact .inl rfl
  · exact .inr rfl
theorem tl_int {i : Int} (h : i < 0) : 45 ∈ tl (Str.ofString (toString i)) := by
  rw [tl_ofString]
  cases i with
  | ofNat n => simp at h; omega
  | negSucc n =>
    show 45 ∈ (String.toList ("-" ++ toString (n + 1))).map Char.toNat
    rw [String.toList_append]
    simp
theorem good_int {d : PyData} (hd : Plain d) (h : ∀ c ∈ tl d.shown, Gd c) : ∃ n : Nat, d = .int (n : Int) := by
  have no : ∀ c, c ∈ tl d.shown → ¬ Gd c → ∃ n : Nat, d = .int (n : Int) := fun c m z => absurd (h c m) z
  cases hd with
  | non => exact no 78 (by decide +kernel) (by unfold Gd; omega)
  | bl b => cases b with
    | true => exact no 84 (by decide +kernel) (by unfold Gd; omega)
    | false => exact no 70 (by decide +kernel) (by unfold Gd; omega)
  | int i =>
    by_cases hi : i < 0
    · exact no 45 (by simp only [PyData.shown]; exact tl_int hi) (by unfold Gd; omega)
    · exact ⟨i.toNat, by rw [Int.toNat_of_nonneg (by omega)]⟩
  | str z =>
    obtain ⟨l, e⟩ := quote_mem z
    refine no (reprQuote z) (by simp only [PyData.shown]; rw [e]; simp) ?_
    rcases quote_or z with q | q <;> rw [q] <;> unfold Gd <;> omega
  | tup _ => exact no 40 (by simp only [PyData.shown]; unfold tupleText; rw [tl_append, tl_append]; exact List.mem_append_left _ (List.mem_append_left _ (by decide +kernel))) (by unfold Gd; omega)
  | lst _ => exact no 91 (by simp only [PyData.shown]; exact list_mem _) (by unfold Gd; omega)
  | emp => exact no 123 (by decide +kernel) (by unfold Gd; omega)
theorem cut44 : ∀ {a c b d : List Nat}, 44 ∉ a → 44 ∉ c → a ++ 44 :: b = c ++ 44 :: d → a = c ∧ b = d
  | [], [], b, d, _, _, h => ⟨rfl, by simpa using h⟩
  | [], y :: c, b, d, _, h2, h => absurd (by simp at h; rw [← h.1]; exact List.mem_cons_self) h2
  | x :: a, [], b, d, h1, _, h => absurd (by simp at h; rw [h.1]; exact List.mem_cons_self) h1
  | x :: a, y :: c, b, d, h1, h2, h => by
    simp at h h1 h2
    obtain ⟨e1, e2⟩ := cut44 h1.2 h2.2 h.2
    exact ⟨by rw [h.1, e1], e2⟩
theorem tl_tt (ts : List Str) : tl (tupleText ts) = 40 :: (joinL [44, 32] (ts.map tl) ++ (if ts.length == 1 then [44, 41] else [41])) := by
  unfold tupleText
  rw [tl_append, tl_append, tl_join]
  have e1 : tl ("(" : Str) = [40] := by decide +kernel
  have e2 : tl (", " : Str) = [44, 32] := by decide +kernel
  have e3 : tl (Str.ofString (if ts.length == 1 then ",)" else ")")) = (if ts.length == 1 then [44, 41] else [41]) := by
    split
    · decide +kernel
    · decide +kernel
  rw [e1, e2, e3]
  simp
theorem tl_fr (p q : Nat) : tl (frD ((p : Int), (q : Int))).shown = 40 :: (numL p ++ 44 :: 32 :: numL q ++ [41]) := by
  unfold frD
  simp only [PyData.shown, PyData.shownAll]
  rw [tl_tt]
  show 40 :: (joinL [44, 32] [tl (Str.ofString (toString ((p : Nat) : Int))), tl (Str.ofString (toString ((q : Nat) : Int)))] ++ [41]) = _
  rw [tl_num, tl_num]
  show 40 :: ((numL p ++ ([44, 32] ++ numL q)) ++ [41]) = _
  simp
theorem num_gd {n c : Nat} (h : c ∈ numL n) : 48 ≤ c ∧ c ≤ 57 := numL_digits n c h
theorem shownAll_map : ∀ ds : List PyData, PyData.shownAll ds = ds.map PyData.shown
  | [] => by simp only [PyData.shownAll, List.map_nil]
  | d :: ds => by simp only [PyData.shownAll, List.map_cons, shownAll_map ds]
theorem last_eq {a b : List Nat} {x y : Nat} (h : a ++ [x] = b ++ [y]) : a = b ∧ x = y := by
  have := List.append_inj' h rfl
  exact ⟨this.1, by simpa using this.2⟩
theorem shown_fr {d : PyData} (hd : Plain d) (p q : Nat) (h : d.shown = (frD ((p : Int), (q : Int))).shown) : d = frD ((p : Int), (q : Int)) := by
  have ht := congrArg tl h
  rw [tl_fr] at ht
  have gd : ∀ c ∈ numL p ++ 44 :: 32 :: numL q, Gd c := fun c m => by
    rcases List.mem_append.mp m with m | m
    · exact .inr (.inr (num_gd m))
    · rcases List.mem_cons.mp m with m | m
      · exact .inl m
      · rcases List.mem_cons.mp m with m | m
        · exact .inr (.inl m)
        · exact .inr (.inr (num_gd m))
  have hd0 : ∀ {c : Nat}, c ∈ tl d.shown → c = 40 ∨ c = 41 ∨ Gd c := fun {c} m => by
    rw [ht] at m
    rcases List.mem_cons.mp m with m | m
    · exact .inl m
    · rcases List.mem_append.mp m with m | m
      · exact .inr (.inr (gd c m))
      · exact .inr (.inl (by simpa using m))
  have no : ∀ c, c ∈ tl d.shown → ¬ (c = 40 ∨ c = 41 ∨ Gd c) → d = frD ((p : Int), (q : Int)) := fun c m z => absurd (hd0 m) z
  cases hd with
  | non => exact no 78 (by decide +kernel) (by unfold Gd; omega)
  | bl b => cases b with
    | true => exact no 84 (by decide +kernel) (by unfold Gd; omega)
    | false => exact no 70 (by decide +kernel) (by unfold Gd; omega)
  | int i =>
    exfalso
    have m40 : 40 ∈ tl (PyData.int i).shown := by rw [ht]; exact List.mem_cons_self
    simp only [PyData.shown] at m40
    by_cases hi : i < 0
    · rw [tl_ofString] at m40
      cases i with
      | ofNat n => simp at hi; omega
      | negSucc n =>
        have e : (String.toList (toString (Int.negSucc n))).map Char.toNat = 45 :: numL (n + 1) := by
          have := tl_num (n + 1)
          rw [tl_ofString] at this
          rw [← this]
          show (String.toList ("-" ++ toString (n + 1))).map Char.toNat = _
          rw [String.toList_append, List.map_append]
          rfl
        rw [e] at m40
        rcases List.mem_cons.mp m40 with z | z
        · cases z
        · have := num_gd z
          omega
    · obtain ⟨n, rfl⟩ := Int.eq_ofNat_of_zero_le (show 0 ≤ i by omega)
      rw [tl_num] at m40
      have := num_gd m40
      omega
  | str z =>
    exfalso
    obtain ⟨l, e⟩ := quote_mem z
    have e2 : tl (PyData.str z).shown = l ++ [reprQuote z] := by simp only [PyData.shown]; exact e
    rw [e2] at ht
    have := (last_eq (b := 40 :: (numL p ++ 44 :: 32 :: numL q)) (y := 41) ht).2
    rcases quote_or z with k | k <;> rw [k] at this <;> omega
  | lst _ => exact no 91 (by simp only [PyData.shown]; exact list_mem _) (by unfold Gd; omega)
  | emp => exact no 123 (by decide +kernel) (by unfold Gd; omega)
  | @tup ds hds =>
    simp only [PyData.shown] at ht
    rw [shownAll_map, tl_tt, List.map_map] at ht
    have ht := (List.cons.inj ht).2
    match ds, hds, ht with
    | [], _, ht =>
      exfalso
      have := congrArg List.length ht
      simp [joinL] at this
      omega
    | [x], _, ht =>
      exfalso
      have ht2 : (tl x.shown ++ [44]) ++ [41] = (numL p ++ 44 :: 32 :: numL q) ++ [41] := by
        have e : joinL [44, 32] ([x].map (tl ∘ PyData.shown)) = tl x.shown := rfl
        rw [e] at ht
        simpa using ht
      have h1 := (last_eq ht2).1
      obtain ⟨ini, c, hc⟩ : ∃ ini c, numL q = ini ++ [c] := ⟨(numL q).dropLast, (numL q).getLast (numL_ne q), (List.dropLast_concat_getLast (numL_ne q)).symm⟩
      have h2 : tl x.shown ++ [44] = (numL p ++ 44 :: 32 :: ini) ++ [c] := by rw [h1, hc]; simp
      have h3 := (last_eq h2).2
      have := num_gd (n := q) (c := c) (by rw [hc]; simp)
      omega
    | x :: y :: r, hds, ht =>
      have e : joinL [44, 32] ((x :: y :: r).map (tl ∘ PyData.shown)) = tl x.shown ++ ([44, 32] ++ joinL [44, 32] ((y :: r).map (tl ∘ PyData.shown))) := rfl
      have ht2 : (tl x.shown ++ 44 :: (32 :: joinL [44, 32] ((y :: r).map (tl ∘ PyData.shown)))) ++ [41] = (numL p ++ 44 :: (32 :: numL q)) ++ [41] := by
        rw [e] at ht
        simpa using ht
      have h1 := (last_eq ht2).1
      obtain ⟨n, hn⟩ := good_int (hds x List.mem_cons_self) fun c m => gd c (by rw [← h1]; exact List.mem_append_left _ m)
      have ex : tl x.shown = numL n := by rw [hn]; simp only [PyData.shown]; exact tl_num n
      rw [ex] at h1
      obtain ⟨h2, h3⟩ := cut44 (numL_free (by omega)) (numL_free (by omega)) h1
      have h4 : joinL [44, 32] ((y :: r).map (tl ∘ PyData.shown)) = numL q := (List.cons.inj h3).2
      cases r with
      | nil =>
        have h5 : tl y.shown = numL q := h4
        obtain ⟨m, hm⟩ := good_int (hds y (by simp)) fun c k => .inr (.inr (num_gd (n := q) (by rw [← h5]; exact k)))
        have ey : tl y.shown = numL m := by rw [hm]; simp only [PyData.shown]; exact tl_num m
        rw [ey] at h5
        rw [hn, hm, numL_inj h2, numL_inj h5]
        rfl
      | cons z r =>
        exfalso
        have h5 : 44 ∈ numL q := by
          rw [← h4]
          show 44 ∈ tl y.shown ++ ([44, 32] ++ joinL [44, 32] ((z :: r).map (tl ∘ PyData.shown)))
          simp
        exact numL_free (by omega) h5
end W
/-! V6: the law: a price path -/
namespace W
open PySem PySem.Spec PyProof.Rows L2 DL M

theorem shw_fr {g : Int × Int} (h : FrOk g) (hb : g.1 ≤ 1000) : Shw (frD g) where
  pl := .tup fun d hd => by
    simp at hd
    rcases hd with rfl | rfl
    · exact .int _
    · exact .int _
  sh := by
    have h1 := h.p0
    have h2 := h.q1
    have h9 := h.q9
    have lg : ∀ i : Int, 0 ≤ i → i ≤ 1000 → i.natAbs.log2 < 1920 := fun i h0 h1 => by
      have : i.natAbs < 2 ^ 1920 := Nat.lt_of_le_of_lt (show i.natAbs ≤ 1000 by omega) (by decide +kernel)
      by_cases z : i.natAbs = 0
      · rw [z]; decide +kernel
      · exact (Nat.log2_lt z).mpr this
    unfold frD
    simp only [PyData.showable, PyData.showableAll, Bool.and_true, Bool.and_eq_true, decide_eq_true_eq]
    exact ⟨lg _ h1 hb, lg _ (by omega) (by omega)⟩
  dp := by unfold frD; simp only [PyData.depth, PyData.depthAll]; decide
  ln := by
    obtain ⟨a, ha⟩ := Int.eq_ofNat_of_zero_le h.p0
    obtain ⟨b, hb2⟩ := Int.eq_ofNat_of_zero_le (show 0 ≤ g.2 by have := h.q1; omega)
    have e : g = ((a : Int), (b : Int)) := Prod.ext ha hb2
    have h9 := h.q9
    rw [e]
    have l1 : (TL.numL a).length ≤ 4 := TL.numL_len (by decide) (by omega)
    have l2 : (TL.numL b).length ≤ 4 := TL.numL_len (by decide) (by omega)
    have := congrArg List.length (tl_fr a b)
    rw [← TL.len_tl] at this
    simp at this
    omega
  nl := .inl (by unfold frD; simp only [PyData.hasDict, PyData.hasDictAll]; decide)
theorem fr_hi {g : Int × Int} (h : FrOk g) : g.1 ≤ 1000 := by
  have h1 := h.hi
  have h9 := h.q9
  omega
theorem repr_eq {w : PyData} (hw : Plain w) {g : Int × Int} (h : FrOk g) : decide (w.shown = (frD g).shown) = eqFr g w := by
  obtain ⟨a, ha⟩ := Int.eq_ofNat_of_zero_le h.p0
  obtain ⟨b, hb⟩ := Int.eq_ofNat_of_zero_le (show 0 ≤ g.2 by have := h.q1; omega)
  have e : g = ((a : Int), (b : Int)) := Prod.ext ha hb
  subst e
  cases q : eqFr ((a : Int), (b : Int)) w with
  | true =>
    refine decide_eq_true ?_
    unfold eqFr at q
    split at q
    · rename_i x y
      obtain ⟨e1, e2⟩ := of_decide_eq_true q
      subst e1 e2
      rfl
    · cases q
  | false =>
    refine decide_eq_false fun hs => ?_
    rw [shown_fr hw a b hs] at q
    have : eqFr ((a : Int), (b : Int)) (frD ((a : Int), (b : Int))) = true := decide_eq_true ⟨rfl, rfl⟩
    rw [this] at q
    cases q
structure TpOk (a : Pt × List Nat × PyData) : Prop where
  o : Ok a.1
  t : TabOk a.1 a.2.1
  d : Dat a.2.2
  s : ∀ es, a.2.2 = .tuple es → ∀ x y, PyData.tuple [x, y] ∈ es → Shw y
theorem sc90 : FnScope ["_law_parts_here", "_law_split", "_law_value", "_law_called_here", "_law_price", "_law_each", "_law_later", "_law_word", "_law_tally"] ["_law_parts_here", "_law_split", "_law_value"] (defScope (topS 90)) := ⟨rfl, rfl, rfl, by decide +kernel, rfl, by decide +kernel, by decide +kernel⟩
abbrev T__law_top (S : Sys) : Prop := KnG S.P S.w S.K S.mg S.base 4 "_law_top" ["_law_parts_here", "_law_split", "_law_value"] (spF S.K S.C (α := Pt × List Nat × PyData) (fun a => [ptD a.1, tabD a.2.1, a.2.2]) (fun a => TpOk a) (fun a => optD frD (top a.1 a.2.1 a.2.2)))
theorem w__law_top {S : Sys} (A : At S.K S.mg "_law_top" (topS 90)) (B : Bt S.mg) (g : Gv S.K S.mg) (k__law_forced : T__law_forced S) : T__law_top S := by
  refine kg_F A sc90 (fun _ _ => rfl) (b3 fun _ _ _ _ _ _ _ _ _ => rfl) fun f cdv A outer s H E a hr hgd hp => ?_
  obtain ⟨p, t, v⟩ := a
  have o : Ok p := hp.o
  have ht : TabOk p t := hp.t
  have hv : Dat v := hp.d
  refine ss_if ?_
  refine et_not ?_
  refine et_v ?_
  refine ef_isTup B ?_
  refine ef_i 2 rfl ?_
  refine ⟨_, rfl, hv.pl, ?_⟩
  refine ⟨_, rfl, ?_⟩
  refine ⟨fun hk => ?_, fun hk => ?_⟩
  ·
    refine ss_retD ?_
    refine ef_non ?_
    refine ⟨_, rfl, ?_⟩
    exact (by cases v <;> first | rfl | cases hk)
  refine ss_nil ?_
  obtain ⟨es, rfl⟩ := isTup_inv (notT hk)
  refine ss_par2 3 4 ?_ sc90.nd
  refine ea_d ?_
  refine ef_lcM (ts := ([7] ++ ([8] ++ []))) [("_law_word", 7), ("_law_tally", 8)] cnG (show blkC ["_law_parts_here", "_law_split", "_law_value", "_law_called_here", "_law_price", "_law_each", "_law_later", "_law_word", "_law_tally"] (defScope (topS 90)) _ [("_law_word", 7), ("_law_tally", 8)] = true from by decide +kernel) sc90.nd ?_
  refine ei_t ?_
  refine ef_ixL ?_
  refine ef_i 0 rfl ?_
  refine ⟨_, rfl, ?_⟩
  refine ef_int ?_
  refine ⟨_, _, _, rfl, rfl, (atI_of (i := 1) rfl), ?_⟩
  refine ⟨_, rfl, ?_⟩
  refine ⟨rfl, (by show (p.cl.map ptyD).length ≤ 100000; have := o.c3; rw [List.length_map]; omega), by decide, fun d hd s H0 Cc cl fp => ?_, ?_⟩
  ·
    obtain ⟨c, hc, rfl⟩ := List.mem_map.mp hd
    unfold ptyD
    refine sg_t ?_
    refine sr_cons ?_
    refine sg_n 7 rfl ?_ sc90.nd
    refine sr_cons ?_
    refine sg_n 8 rfl ?_ sc90.nd
    refine sr_nil ?_
    refine ⟨rfl, fun s H0 Cc cl fp => ?_⟩
    refine ef_i 7 rfl ?_
    exact ⟨rfl, rfl⟩
  refine ⟨_, rfl, ?_⟩
  refine ea_d ?_
  refine ef_tup ?_
  refine ea_d ?_
  refine ef_int ?_
  refine ⟨_, rfl, ?_⟩
  refine ea_d ?_
  refine ef_int ?_
  refine ⟨_, rfl, ?_⟩
  refine ea_nil ?_
  refine ⟨[_, _], rfl, show 2 ≤ sizeLine by decide, ?_⟩
  refine ⟨_, rfl, ?_⟩
  refine ea_nil ?_
  refine ⟨_, _, rfl, rfl, rfl, ?_⟩
  refine ss_for (ts := [5]) ?_
  refine ei_t ?_
  refine ef_i 2 rfl ?_
  refine ⟨_, rfl, ?_⟩
  refine ⟨(fun i G' => ∃ f : Int × Int, G' = [.imm (ptD p), .imm (tabD t), .imm (.tuple es), .imm (.list (p.names.map .str)), .imm (frD f), .un, .un, .un, .un] ∧ FrOk f ∧ topM p t es (0, 1) = topM p t (es.drop i) f), ⟨(0, 1), by rw [cn_names]; rfl, ⟨by decide, by decide, by decide, by decide⟩, rfl⟩, fun i d G1 hd hP => ?_, fun G1 hP => ?_⟩
  ·
    obtain ⟨f, hP2, hf, hT⟩ := hP
    subst hP2
    have hdd : Dat d := hv.in (List.mem_of_getElem? hd)
    have hde : d ∈ es := List.mem_of_getElem? hd
    have hdrop : es.drop i = d :: es.drop (i + 1) := by rw [List.drop_eq_getElem_cons (List.getElem?_eq_some_iff.mp hd).1]; rw [(List.getElem?_eq_some_iff.mp hd).2]
    rw [hdrop] at hT
    refine sg_n 5 rfl ?_ sc90.nd
    refine ss_if ?_
    refine et_cut (!stepOk p.names d) ?_ ?_
    ·
      refine et_w ?_
      refine ew_or ?_
      refine et_not ?_
      refine et_v ?_
      refine ef_isTup B ?_
      refine ef_i 5 rfl ?_
      refine ⟨_, rfl, hdd.pl, ?_⟩
      refine ⟨_, rfl, ?_⟩
      refine ⟨fun hk => ?_, fun hk => ?_⟩
      · exact ⟨(by rw [show stepOk p.names d = false from by cases d <;> first | rfl | cases hk]; rfl), rfl⟩
      refine ew_or ?_
      refine et_c ?_
      refine ec_neI ?_
      refine ef_len B ?_
      refine ef_i 5 rfl ?_
      obtain ⟨ds, rfl⟩ := isTup_inv (notT hk)
      refine ⟨_, (.inr rfl), ?_⟩
      refine ⟨_, rfl, ?_⟩
      refine ef_int ?_
      refine ⟨_, _, rfl, rfl, ?_⟩
      refine ⟨_, rfl, ?_⟩
      refine ⟨fun hk => ?_, fun hk => ?_⟩
      · exact ⟨(by rw [stepOk_tup (d := .tuple ds) (by show decide (ds.length = 2) = false; exact decide_eq_false fun h => by rw [h] at hk; cases hk)]; rfl), rfl⟩
      refine ew_or ?_
      refine et_not ?_
      refine et_v ?_
      refine ef_isStr B ?_
      refine ef_ixT ?_
      refine ef_i 5 rfl ?_
      refine ⟨_, rfl, ?_⟩
      refine ef_int ?_
      obtain ⟨x, w, hxw⟩ := tup2 (d := .tuple ds) (by show (!decide (ds.length = 2)) = false; rw [decide_eq_true (show ds.length = 2 by have h1 := of_decide_eq_true (notT hk); omega)]; rfl)
      cases hxw
      have hx : Dat x := hdd.in (by simp)
      refine ⟨_, _, _, rfl, rfl, (atI_of (i := 0) rfl), ?_⟩
      refine ⟨_, rfl, hx.pl, ?_⟩
      refine ⟨_, rfl, ?_⟩
      refine ⟨fun hk => ?_, fun hk => ?_⟩
      · exact ⟨(by rw [stepOk_str (notF hk)]; rfl), rfl⟩
      obtain ⟨z, rfl⟩ := isStr_inv (notT hk)
      refine ew_one_or ?_
      refine et_c ?_
      refine ec_notIn ?_
      refine ef_ixT ?_
      refine ef_i 5 rfl ?_
      refine ⟨_, rfl, ?_⟩
      refine ef_int ?_
      refine ⟨_, _, _, rfl, rfl, (atI_of (i := 0) rfl), ?_⟩
      refine ⟨_, rfl, ?_⟩
      refine ef_i 3 rfl ?_
      refine ⟨_, _, rfl, .inl rfl, ?_⟩
      refine ⟨_, rfl, ?_⟩
      exact ⟨rfl, rfl⟩
    refine ⟨fun hk => ?_, fun hk => ?_⟩
    ·
      refine ss_retD ?_
      refine ef_non ?_
      refine ⟨_, rfl, ?_⟩
      exact (by show PyData.none = optD frD (topM p t es (0, 1)); rw [hT, topM_bad (notF hk)]; rfl)
    refine ss_nil ?_
    obtain ⟨z, w, hzw, hz⟩ := stepOk_inv (notT hk)
    subst hzw
    obtain ⟨j, hj, hix, hjl⟩ := idx_some hz
    have hjc : j < p.cl.length := by simpa [Pt.names] using hjl
    obtain ⟨c, hc⟩ : ∃ c, p.cl[j]? = some c := ⟨p.cl[j], List.getElem?_eq_getElem hjc⟩
    obtain ⟨htab, htl⟩ := tab_at ht hjc
    refine ss_set 6 ?_ rfl sc90.nd
    refine ef_cF k__law_forced (hr.mono (by omega)) ?_
    refine ea_d ?_
    refine ef_i 0 rfl ?_
    refine ⟨_, rfl, ?_⟩
    refine ea_d ?_
    refine ef_i 1 rfl ?_
    refine ⟨_, rfl, ?_⟩
    refine ea_d ?_
    refine ef_index ?_
    refine ef_i 3 rfl ?_
    refine ⟨_, rfl, ?_⟩
    refine ef_ixT ?_
    refine ef_i 5 rfl ?_
    refine ⟨_, rfl, ?_⟩
    refine ef_int ?_
    refine ⟨_, _, _, rfl, rfl, (atI_of (i := 0) rfl), ?_⟩
    refine ⟨_, _, rfl, hix, ?_⟩
    refine ⟨_, rfl, ?_⟩
    refine ea_d ?_
    refine ef_i 4 rfl ?_
    refine ⟨_, rfl, ?_⟩
    refine ea_nil ?_
    refine ⟨(p, t, j, f), rfl, ⟨o, ht, hjc, hf⟩, ?_⟩
    dsimp only
    rw [tl_at hc]
    generalize hs : M.stepI p.dv c.2 (t.getD j 0) f = sI
    refine ⟨_, rfl, rfl, ?_⟩
    refine ss_if ?_
    refine et_cut (match sI with | none => true | some g => !eqFr g w) ?_ ?_
    ·
      refine et_w ?_
      refine ew_or ?_
      refine et_c ?_
      refine ec_isN ?_
      refine ef_i 6 rfl ?_
      refine ⟨_, rfl, ?_⟩
      refine ⟨_, rfl, ?_⟩
      refine ⟨fun hk => ?_, fun hk => ?_⟩
      · exact ⟨(by cases sI with | none => rfl | some g => cases hk), rfl⟩
      obtain ⟨g, rfl⟩ : ∃ g, sI = some g := by cases sI with | none => cases hk | some g => exact ⟨g, rfl⟩
      obtain ⟨hgo, hgf⟩ := step_inv o (o.ct c (List.mem_of_getElem? hc)).1 (o.ct c (List.mem_of_getElem? hc)).2 htl hf hs
      have hsw : Shw w := hp.s es rfl _ _ hde
      refine ew_one_or ?_
      refine et_c ?_
      refine ec_neS ?_
      refine ef_repr B hgd hr ?_
      refine ef_ixT ?_
      refine ef_i 5 rfl ?_
      refine ⟨_, rfl, ?_⟩
      refine ef_int ?_
      refine ⟨_, _, _, rfl, rfl, (atI_of (i := 1) rfl), ?_⟩
      refine ⟨_, rfl, hsw, ?_⟩
      refine ⟨_, rfl, ?_⟩
      refine ef_repr B hgd hr ?_
      refine ef_i 6 rfl ?_
      refine ⟨_, rfl, (shw_fr hgo (fr_hi hgo)), ?_⟩
      refine ⟨_, _, rfl, rfl, ?_⟩
      refine ⟨_, rfl, ?_⟩
      exact ⟨(by show (!decide (w.shown = (frD g).shown)) = !eqFr g w; rw [repr_eq hsw.pl hgo]), rfl⟩
    refine ⟨fun hk => ?_, fun hk => ?_⟩
    ·
      refine ss_retD ?_
      refine ef_non ?_
      refine ⟨_, rfl, ?_⟩
      exact (by show PyData.none = optD frD (topM p t es (0, 1)); rw [hT, topM_str hj, tl_at hc, hs]; cases sI with | none => rfl | some g => (dsimp only; rw [if_neg (by rw [notF hk]; decide)]; rfl))
    refine ss_nil ?_
    obtain ⟨g, rfl⟩ : ∃ g, sI = some g := by cases sI with | none => cases hk | some g => exact ⟨g, rfl⟩
    obtain ⟨hgo, hgf⟩ := step_inv o (o.ct c (List.mem_of_getElem? hc)).1 (o.ct c (List.mem_of_getElem? hc)).2 htl hf hs
    refine ss_set 4 ?_ rfl sc90.nd
    refine ef_i 6 rfl ?_
    refine ⟨_, rfl, rfl, ?_⟩
    refine ss_fgt [5, 6] rfl (ss_nil ?_)
    exact ⟨g, rfl, hgo, by rw [hT, topM_str hj, tl_at hc, hs]; dsimp only; rw [if_pos (notT hk)]⟩
  obtain ⟨f, hP2, hf, hT⟩ := hP
  subst hP2
  refine ss_retD ?_
  refine ef_i 4 rfl ?_
  refine ⟨_, rfl, ?_⟩
  exact (by show frD f = optD frD (topM p t es (0, 1)); rw [hT, List.drop_length]; rfl)
end W
/-! PB: papers, and data bent once. -/
namespace W
open PySem PySem.Spec PyProof.Rows L2 DL M TL
/-- a right paper's data -/
inductive Pu (n c : Nat) : PyData → Prop
  | int (i : Int) (h0 : 0 ≤ i) (h1 : i ≤ 2000) : Pu n c (.int i)
  | str (z : Str) : Pu n c (.str z)
  | tup {ds : List PyData} (h : ∀ d ∈ ds, Pu n c d) (l : ds.length ≤ n) (s : ds.countP isStr ≤ c) : Pu n c (.tuple ds)
/-- data of bounded rows -/
inductive Dt (n c : Nat) : PyData → Prop
  | non : Dt n c .none
  | bl (b : Bool) : Dt n c (.bool b)
  | int (i : Int) (h : i.natAbs ≤ 10 ^ 20) : Dt n c (.int i)
  | str (z : Str) : Dt n c (.str z)
  | tup {ds : List PyData} (h : ∀ d ∈ ds, Dt n c d) (l : ds.length ≤ n) (s : ds.countP isStr ≤ c) : Dt n c (.tuple ds)
  | lst {ds : List PyData} (h : ∀ d ∈ ds, Dt n c d) (l : ds.length ≤ n) : Dt n c (.list ds)
  | emp : Dt n c (.dict [])
def spares : List PyData := [.none, .bool true, .bool false, .int 0, .int 1, .int (-1), .int (10 ^ 20), .str "", .str "a", .str "zz", .tuple [], .list [], .dict [], .tuple [.tuple []], .tuple [.int 0, .int 1], .tuple [.int 1, .int 1], .list [.tuple [.int 0, .int 1]], .tuple [.str "a"]]
/-- data bent once -/
inductive Bend : PyData → PyData → Prop
  | spare {d s : PyData} (h : s ∈ spares) : Bend d s
  | up (i : Int) : Bend (.int i) (.int (i + 1))
  | dn (i : Int) : Bend (.int i) (.int (i + -1))
  | put {xs ys : List PyData} {d e : PyData} (b : Bend d e) : Bend (.tuple (xs ++ d :: ys)) (.tuple (xs ++ e :: ys))
  | del {xs ys : List PyData} {d : PyData} : Bend (.tuple (xs ++ d :: ys)) (.tuple (xs ++ ys))
  | dup {xs ys : List PyData} {d : PyData} : Bend (.tuple (xs ++ d :: ys)) (.tuple (xs ++ d :: d :: ys))
  | rev {ds : List PyData} : Bend (.tuple ds) (.tuple ds.reverse)
theorem cut_at {ds : List PyData} {k : Nat} {d : PyData} (h : ds[k]? = some d) : ds = ds.take k ++ d :: ds.drop (k + 1) := by
  obtain ⟨hk, e⟩ := List.getElem?_eq_some_iff.mp h
  have := List.take_append_drop k ds
  rw [List.drop_eq_getElem_cons hk, e] at this
  exact this.symm
section
variable {n c m k : Nat} {d e : PyData} {ds xs ys : List PyData}
theorem Pu.mem (h : Pu n c (.tuple ds)) : (∀ d ∈ ds, Pu n c d) ∧ ds.length ≤ n ∧ ds.countP isStr ≤ c := by
  cases h with
  | tup h l s => exact ⟨h, l, s⟩
theorem Dt.mem (h : Dt n c (.tuple ds)) : (∀ d ∈ ds, Dt n c d) ∧ ds.length ≤ n ∧ ds.countP isStr ≤ c := by
  cases h with
  | tup h l s => exact ⟨h, l, s⟩
theorem Pu.mono (h : Pu n c d) (h1 : n ≤ m) (h2 : c ≤ k) : Pu m k d := by
  induction h with
  | int i h0 h1 => exact .int i h0 h1
  | str z => exact .str z
  | tup h l s ih => exact .tup ih (by omega) (by omega)
theorem Pu.dt (h : Pu n c d) (h1 : n ≤ m) (h2 : c ≤ k) : Dt m k d := by
  induction h with
  | int i h0 h1 => exact .int i (by omega)
  | str z => exact .str z
  | tup h l s ih => exact .tup ih (by omega) (by omega)
theorem spare_dt (hn : 2 ≤ n) (hc : 1 ≤ c) : ∀ s ∈ spares, Dt n c s := by
  have t0 : Dt n c (.tuple []) := .tup (fun d h => by cases h) (Nat.zero_le _) (Nat.zero_le _)
  have t2 : ∀ i j : Int, i.natAbs ≤ 10 ^ 20 → j.natAbs ≤ 10 ^ 20 → Dt n c (.tuple [.int i, .int j]) := fun i j h1 h2 => .tup (fun d h => by
    simp at h
    rcases h with rfl | rfl
    · exact .int _ h1
    · exact .int _ h2) hn (Nat.zero_le _)
  intro s h
  simp only [spares, List.mem_cons, List.not_mem_nil, or_false] at h
  rcases h with h | h | h | h | h | h | h | h | h | h | h | h | h | h | h | h | h | h <;> subst h
  · exact .non
  · exact .bl _
  · exact .bl _
  · exact .int _ (by decide)
  · exact .int _ (by decide)
  · exact .int _ (by decide)
  · exact .int _ (by decide)
  · exact .str _
  · exact .str _
  · exact .str _
  · exact t0
  · exact .lst (fun d h => by cases h) (Nat.zero_le _)
  · exact .emp
  · exact .tup (fun d h => by rw [List.mem_singleton] at h; subst h; exact t0) (by show 1 ≤ n; omega) (Nat.zero_le _)
  · exact t2 0 1 (by decide) (by decide)
  · exact t2 1 1 (by decide) (by decide)
  · exact .lst (fun d h => by rw [List.mem_singleton] at h; subst h; exact t2 0 1 (by decide) (by decide)) (by show 1 ≤ n; omega)
  · exact .tup (fun d h => by rw [List.mem_singleton] at h; subst h; exact .str _) (by show 1 ≤ n; omega) hc
theorem bend_dt (hn : 1 ≤ n) (b : Bend d e) : Pu n c d → Dt (n + 1) (c + 1) e := by
  induction b with
  | spare h => exact fun _ => spare_dt (by omega) (by omega) _ h
  | up i =>
    intro h
    cases h with
    | int i h0 h1 => exact .int _ (by omega)
  | dn i =>
    intro h
    cases h with
    | int i h0 h1 => exact .int _ (by omega)
  | @put xs ys d e b ih =>
    intro h
    obtain ⟨h1, h2, h3⟩ := h.mem
    rw [List.length_append, List.length_cons] at h2
    rw [List.countP_append, List.countP_cons] at h3
    refine .tup (fun x hx => ?_) (by rw [List.length_append, List.length_cons]; omega) ?_
    · rcases List.mem_append.mp hx with hx | hx
      · exact (h1 x (List.mem_append_left _ hx)).dt (by omega) (by omega)
      · rcases List.mem_cons.mp hx with hx | hx
        · rw [hx]
          exact ih (h1 d (List.mem_append_right _ List.mem_cons_self))
        · exact (h1 x (List.mem_append_right _ (List.mem_cons_of_mem _ hx))).dt (by omega) (by omega)
    · rw [List.countP_append, List.countP_cons]
      have : (if isStr e = true then 1 else 0) ≤ 1 := by split <;> omega
      omega
  | @del xs ys d =>
    intro h
    obtain ⟨h1, h2, h3⟩ := h.mem
    rw [List.length_append, List.length_cons] at h2
    rw [List.countP_append, List.countP_cons] at h3
    refine .tup (fun x hx => ?_) (by rw [List.length_append]; omega) (by rw [List.countP_append]; omega)
    rcases List.mem_append.mp hx with hx | hx
    · exact (h1 x (List.mem_append_left _ hx)).dt (by omega) (by omega)
    · exact (h1 x (List.mem_append_right _ (List.mem_cons_of_mem _ hx))).dt (by omega) (by omega)
  | @dup xs ys d =>
    intro h
    obtain ⟨h1, h2, h3⟩ := h.mem
    rw [List.length_append, List.length_cons] at h2
    rw [List.countP_append, List.countP_cons] at h3
    refine .tup (fun x hx => ?_) (by rw [List.length_append, List.length_cons, List.length_cons]; omega) ?_
    · rcases List.mem_append.mp hx with hx | hx
      · exact (h1 x (List.mem_append_left _ hx)).dt (by omega) (by omega)
      · rcases List.mem_cons.mp hx with hx | hx
        · rw [hx]
          exact (h1 d (List.mem_append_right _ List.mem_cons_self)).dt (by omega) (by omega)
        · exact (h1 x (List.mem_append_right _ hx)).dt (by omega) (by omega)
    · rw [List.countP_append, List.countP_cons, List.countP_cons]
      have : (if isStr d = true then 1 else 0) ≤ 1 := by split <;> omega
      omega
  | @rev ds =>
    intro h
    obtain ⟨h1, h2, h3⟩ := h.mem
    refine .tup (fun x hx => (h1 x (List.mem_reverse.mp hx)).dt (by omega) (by omega)) (by rw [List.length_reverse]; omega) (by rw [List.countP_reverse]; omega)
/-! dicts and lists -/
theorem noL_hd (h : Pu n c d) : NoL d ∧ d.hasDict = false := by
  induction h with
  | int i _ _ => exact ⟨.int i, by simp only [PyData.hasDict]⟩
  | str z => exact ⟨.str z, by simp only [PyData.hasDict]⟩
  | tup h l s ih => exact ⟨.tup fun d m => (ih d m).1, by simp only [PyData.hasDict]; exact hdAll fun d m => (ih d m).2⟩
where hdAll : ∀ {ds : List PyData}, (∀ d ∈ ds, d.hasDict = false) → PyData.hasDictAll ds = false
  | [], _ => by simp only [PyData.hasDictAll]
  | x :: xs, h => by
    simp only [PyData.hasDictAll, h x List.mem_cons_self, hdAll fun d m => h d (List.mem_cons_of_mem _ m), Bool.or_false]
theorem spare_nl : ∀ s ∈ spares, NoL s ∨ s.hasDict = false := by
  intro s h
  simp only [spares, List.mem_cons, List.not_mem_nil, or_false] at h
  rcases h with h | h | h | h | h | h | h | h | h | h | h | h | h | h | h | h | h | h <;> subst h <;> first | exact .inl .emp | exact .inr (by simp only [PyData.hasDict, PyData.hasDictAll, Bool.or_false])
theorem bend_nl (b : Bend d e) : Pu n c d → NoL e ∨ e.hasDict = false := by
  have row : ∀ {ds : List PyData}, (∀ d ∈ ds, Pu n c d) → NoL (.tuple ds) ∨ (PyData.tuple ds).hasDict = false := fun h => .inl (.tup fun d m => (noL_hd (h d m)).1)
  induction b with
  | spare h => exact fun _ => spare_nl _ h
  | up i => exact fun _ => .inl (.int _)
  | dn i => exact fun _ => .inl (.int _)
  | @put xs ys d e b ih =>
    intro h
    obtain ⟨h1, _, _⟩ := h.mem
    have hx : ∀ x ∈ xs, Pu n c x := fun x m => h1 x (List.mem_append_left _ m)
    have hy : ∀ x ∈ ys, Pu n c x := fun x m => h1 x (List.mem_append_right _ (List.mem_cons_of_mem _ m))
    rcases ih (h1 d (List.mem_append_right _ List.mem_cons_self)) with q | q
    · refine .inl (.tup fun x m => ?_)
      rcases List.mem_append.mp m with m | m
      · exact (noL_hd (hx x m)).1
      · rcases List.mem_cons.mp m with m | m
        · rw [m]
          exact q
        · exact (noL_hd (hy x m)).1
    · refine .inr ?_
      simp only [PyData.hasDict]
      refine noL_hd.hdAll fun x m => ?_
      rcases List.mem_append.mp m with m | m
      · exact (noL_hd (hx x m)).2
      · rcases List.mem_cons.mp m with m | m
        · rw [m]
          exact q
        · exact (noL_hd (hy x m)).2
  | @del xs ys d =>
    intro h
    obtain ⟨h1, _, _⟩ := h.mem
    exact row fun x m => h1 x ((List.mem_append.mp m).elim (fun m => List.mem_append_left _ m) fun m => List.mem_append_right _ (List.mem_cons_of_mem _ m))
  | @dup xs ys d =>
    intro h
    obtain ⟨h1, _, _⟩ := h.mem
    refine row fun x m => ?_
    rcases List.mem_append.mp m with m | m
    · exact h1 x (List.mem_append_left _ m)
    · rcases List.mem_cons.mp m with m | m
      · rw [m]
        exact h1 d (List.mem_append_right _ List.mem_cons_self)
      · exact h1 x (List.mem_append_right _ m)
  | @rev ds =>
    intro h
    exact row fun x m => h.mem.1 x (List.mem_reverse.mp m)
/-! depth -/
theorem dpA : ∀ {ds : List PyData} {k : Nat}, PyData.depthAll ds ≤ k ↔ ∀ d ∈ ds, d.depth ≤ k
  | [], k => ⟨fun _ d m => (by cases m), fun _ => by simp only [PyData.depthAll]; omega⟩
  | x :: xs, k => by
    have ih := dpA (ds := xs) (k := k)
    simp only [PyData.depthAll]
    constructor
    · intro h d m
      rcases List.mem_cons.mp m with m | m
      · rw [m]
        omega
      · exact ih.mp (by omega) d m
    · intro h
      have h1 := h x List.mem_cons_self
      have h2 := ih.mpr fun d m => h d (List.mem_cons_of_mem _ m)
      omega
theorem dpT {k : Nat} : (PyData.tuple ds).depth ≤ k + 1 ↔ ∀ d ∈ ds, d.depth ≤ k := by
  simp only [PyData.depth]
  rw [← dpA]
  omega
theorem spare_dp : ∀ s ∈ spares, s.depth ≤ 2 := by
  intro s h
  simp only [spares, List.mem_cons, List.not_mem_nil, or_false] at h
  rcases h with h | h | h | h | h | h | h | h | h | h | h | h | h | h | h | h | h | h <;> subst h <;> simp only [PyData.depth, PyData.depthAll, PyData.depthKv] <;> decide
theorem bend_dp (b : Bend d e) : ∀ k, d.depth ≤ k → e.depth ≤ k + 2 := by
  induction b with
  | spare h =>
    intro k _
    have := spare_dp _ h
    omega
  | up i => exact fun k _ => by simp only [PyData.depth]; omega
  | dn i => exact fun k _ => by simp only [PyData.depth]; omega
  | @put xs ys d e b ih =>
    intro k h
    obtain ⟨k, rfl⟩ : ∃ j, k = j + 1 := ⟨k - 1, by simp only [PyData.depth] at h; omega⟩
    rw [dpT] at h
    have hd := ih k (h d (List.mem_append_right _ List.mem_cons_self))
    rw [show k + 1 + 2 = (k + 2) + 1 from rfl, dpT]
    intro x m
    rcases List.mem_append.mp m with m | m
    · have := h x (List.mem_append_left _ m)
      omega
    · rcases List.mem_cons.mp m with m | m
      · rw [m]
        exact hd
      · have := h x (List.mem_append_right _ (List.mem_cons_of_mem _ m))
        omega
  | @del xs ys d =>
    intro k h
    obtain ⟨k, rfl⟩ : ∃ j, k = j + 1 := ⟨k - 1, by simp only [PyData.depth] at h; omega⟩
    rw [dpT] at h
    rw [show k + 1 + 2 = (k + 2) + 1 from rfl, dpT]
    intro x m
    have := h x ((List.mem_append.mp m).elim (fun m => List.mem_append_left _ m) fun m => List.mem_append_right _ (List.mem_cons_of_mem _ m))
    omega
  | @dup xs ys d =>
    intro k h
    obtain ⟨k, rfl⟩ : ∃ j, k = j + 1 := ⟨k - 1, by simp only [PyData.depth] at h; omega⟩
    rw [dpT] at h
    rw [show k + 1 + 2 = (k + 2) + 1 from rfl, dpT]
    intro x m
    have : x.depth ≤ k := by
      rcases List.mem_append.mp m with m | m
      · exact h x (List.mem_append_left _ m)
      · rcases List.mem_cons.mp m with m | m
        · rw [m]
          exact h d (List.mem_append_right _ List.mem_cons_self)
        · exact h x (List.mem_append_right _ m)
    omega
  | @rev ds =>
    intro k h
    obtain ⟨k, rfl⟩ : ∃ j, k = j + 1 := ⟨k - 1, by simp only [PyData.depth] at h; omega⟩
    rw [dpT] at h
    rw [show k + 1 + 2 = (k + 2) + 1 from rfl, dpT]
    intro x m
    have := h x (List.mem_reverse.mp m)
    omega
/-! how long the repr is -/
def ln (d : PyData) : Nat := d.shown.length
def lnS (ds : List PyData) : Nat := (ds.map fun d => ln d + 2).sum
theorem lnS_app (xs ys : List PyData) : lnS (xs ++ ys) = lnS xs + lnS ys := by
  unfold lnS
  rw [List.map_append, List.sum_append]
theorem lnS_cons (x : PyData) (xs : List PyData) : lnS (x :: xs) = ln x + 2 + lnS xs := by
  unfold lnS
  rw [List.map_cons, List.sum_cons]
theorem joinL_len : ∀ (p : List Nat) (ps : List (List Nat)), (joinL [44, 32] (p :: ps)).length + 2 = ((p :: ps).map fun q => q.length + 2).sum
  | p, [] => by simp [joinL]
  | p, q :: r => by
    have ih := joinL_len q r
    have e : joinL [44, 32] (p :: q :: r) = p ++ ([44, 32] ++ joinL [44, 32] (q :: r)) := rfl
    rw [e, List.map_cons, List.sum_cons, ← ih, List.length_append, List.length_append]
    show p.length + (2 + _) + 2 = _
    omega
theorem ln_key (x : PyData) (xs : List PyData) : (joinL [44, 32] (((x :: xs).map PyData.shown).map tl)).length + 2 = lnS (x :: xs) := by
  have e : ((x :: xs).map PyData.shown).map tl = tl x.shown :: (xs.map fun d => tl d.shown) := by
    rw [List.map_cons, List.map_cons, List.map_map]
    rfl
  rw [e, joinL_len, List.map_cons, List.sum_cons, List.map_map, lnS_cons]
  unfold lnS ln
  rw [len_tl]
  congr 2
theorem ln_tup : lnS ds ≤ ln (.tuple ds) ∧ ln (.tuple ds) ≤ lnS ds + 2 := by
  unfold ln
  rw [len_tl]
  simp only [PyData.shown]
  rw [shownAll_map, tl_tt, List.length_cons, List.length_append]
  cases ds with
  | nil => exact ⟨by decide, by decide⟩
  | cons x xs =>
    have key := ln_key x xs
    generalize (joinL [44, 32] (((x :: xs).map PyData.shown).map tl)).length = j at *
    split
    · rw [show ([44, 41] : List Nat).length = 2 from rfl]
      omega
    · rw [show ([41] : List Nat).length = 1 from rfl]
      omega
theorem ln_mem (h : d ∈ ds) : ln d ≤ ln (.tuple ds) := by
  have h1 := (ln_tup (ds := ds)).1
  obtain ⟨xs, ys, rfl⟩ := List.append_of_mem h
  rw [lnS_app, lnS_cons] at h1
  omega
theorem spare_ln : ∀ s ∈ spares, ln s ≤ 30 := by
  have : (spares.all fun s => decide (ln s ≤ 30)) = true := by decide +kernel
  intro s h
  exact of_decide_eq_true (List.all_eq_true.mp this s h)
theorem ln_int {i : Int} (h0 : -1 ≤ i) (h1 : i ≤ 9999) : ln (.int i) ≤ 4 := by
  by_cases h : i = -1
  · subst h
    decide +kernel
  · obtain ⟨a, rfl⟩ := Int.eq_ofNat_of_zero_le (show 0 ≤ i by omega)
    unfold ln
    rw [len_tl]
    simp only [PyData.shown]
    rw [tl_num]
    exact numL_len (by decide) (by omega)
theorem bend_ln (b : Bend d e) : Pu n c d → ln e ≤ 2 * ln d + 30 := by
  induction b with
  | spare h =>
    intro _
    have := spare_ln _ h
    omega
  | up i =>
    intro h
    cases h with
    | int i h0 h1 =>
      have := ln_int (i := i + 1) (by omega) (by omega)
      omega
  | dn i =>
    intro h
    cases h with
    | int i h0 h1 =>
      have := ln_int (i := i + -1) (by omega) (by omega)
      omega
  | @put xs ys d e b ih =>
    intro h
    have hd := ih (h.mem.1 d (List.mem_append_right _ List.mem_cons_self))
    have h1 := (ln_tup (ds := xs ++ d :: ys)).1
    have h2 := (ln_tup (ds := xs ++ e :: ys)).2
    rw [lnS_app, lnS_cons] at h1 h2
    omega
  | @del xs ys d =>
    intro h
    have h1 := (ln_tup (ds := xs ++ d :: ys)).1
    have h2 := (ln_tup (ds := xs ++ ys)).2
    rw [lnS_app, lnS_cons] at h1
    rw [lnS_app] at h2
    omega
  | @dup xs ys d =>
    intro h
    have h1 := (ln_tup (ds := xs ++ d :: ys)).1
    have h2 := (ln_tup (ds := xs ++ d :: d :: ys)).2
    rw [lnS_app, lnS_cons] at h1
    rw [lnS_app, lnS_cons, lnS_cons] at h2
    omega
  | @rev ds =>
    intro h
    have h1 := (ln_tup (ds := ds)).1
    have h2 := (ln_tup (ds := ds.reverse)).2
    have e : lnS ds.reverse = lnS ds := by
      unfold lnS
      rw [List.map_reverse, List.sum_reverse]
    omega
/-! data that is fit for the checks -/
structure Fit (d : PyData) : Prop where
  dt : Dt 3000 60 d
  dp : d.depth ≤ 40
  ln : ln d ≤ 4000000
  nl : NoL d ∨ d.hasDict = false
theorem Fit.in (h : Fit (.tuple ds)) (m : d ∈ ds) : Fit d where
  dt := h.dt.mem.1 d m
  dp := by
    have := (dpT (k := 39)).mp h.dp d m
    omega
  ln := Nat.le_trans (ln_mem m) h.ln
  nl := by
    rcases h.nl with q | q
    · cases q with
      | tup q => exact .inl (q d m)
    · simp only [PyData.hasDict] at q
      exact .inr (hasDictAll_mem q d m)
theorem Dt.dat (h : Dt 3000 60 d) : Dat d := by
  induction h with
  | non => exact .non
  | bl b => exact .bl b
  | int i _ => exact .int i
  | str z => exact .str z
  | tup h l s ih => exact .tup ih l
  | lst h l ih => exact .lst ih l
  | emp => exact .emp
theorem Dt.plain (h : Dt n c d) : Plain d := by
  induction h with
  | non => exact .non
  | bl b => exact .bl b
  | int i _ => exact .int i
  | str z => exact .str z
  | tup h l s ih => exact .tup ih
  | lst h l ih => exact .lst ih
  | emp => exact .emp
theorem Dt.show (h : Dt n c d) : d.showable = true := by
  induction h with
  | non => simp only [PyData.showable]
  | bl b => simp only [PyData.showable]
  | int i h =>
    simp only [PyData.showable, decide_eq_true_eq]
    by_cases z : i.natAbs = 0
    · rw [z]; decide +kernel
    · exact (Nat.log2_lt z).mpr (Nat.lt_of_le_of_lt h (by decide +kernel))
  | str z => simp only [PyData.showable]
  | tup h l s ih =>
    simp only [PyData.showable]
    exact showAll ih
  | lst h l ih =>
    simp only [PyData.showable]
    exact showAll ih
  | emp => simp only [PyData.showable, PyData.showableKv]
where showAll : ∀ {ds : List PyData}, (∀ d ∈ ds, d.showable = true) → PyData.showableAll ds = true
  | [], _ => by simp only [PyData.showableAll]
  | x :: xs, h => by
    simp only [PyData.showableAll, h x List.mem_cons_self, showAll fun d m => h d (List.mem_cons_of_mem _ m), Bool.and_true]
theorem Fit.shw (h : Fit d) : Shw d := ⟨h.dt.plain, h.dt.show, h.dp, h.ln, h.nl.symm⟩
theorem Fit.dat (h : Fit d) : Dat d := h.dt.dat
theorem Fit.len (h : Fit (.tuple ds)) : ds.length ≤ 3000 := h.dt.mem.2.1
theorem Fit.strs {ss : List Str} (h : Fit (.tuple (ss.map .str))) : ss.length ≤ 60 := by
  have := h.dt.mem.2.2
  have e : (ss.map PyData.str).countP isStr = ss.length := by
    rw [List.countP_map]
    have : (isStr ∘ PyData.str) = fun _ => true := rfl
    rw [this, List.countP_true]
  omega
theorem bend_fit (h : Pu 2999 59 d) (h1 : d.depth ≤ 38) (h2 : ln d ≤ 1900000) (b : Bend d e) : Fit e :=
  ⟨bend_dt (by omega) b h, bend_dp b 38 h1, by have := bend_ln b h; omega, bend_nl b h⟩
theorem pu_fit (h : Pu 2999 59 d) (h1 : d.depth ≤ 38) (h2 : ln d ≤ 1900000) : Fit d := ⟨h.dt (by omega) (by omega), by omega, by omega, .inl (noL_hd h).1⟩
end
end W
/-! V7: the law: what is due -/
namespace W
open PySem PySem.Spec PyProof.Rows L2 DL M

theorem igOk {p : Pt} (o : Ok p) {v : PyData} (f : Fit v) : IgOk (p, v) := ⟨o, f.dat, fun ds e => by
  have e2 : v = .tuple ds := e
  subst e2
  exact f.len, fun ss e => by
  have e2 : v = .tuple (ss.map .str) := e
  subst e2
  exact f.strs⟩
theorem tpOk {p : Pt} (o : Ok p) {t : List Nat} (ht : TabOk p t) {v : PyData} (f : Fit v) : TpOk (p, t, v) := ⟨o, ht, f.dat, fun es e x y m => by
  have e2 : v = .tuple es := e
  subst e2
  exact ((f.in m).in (d := y) (by simp)).shw⟩
structure BdOk (a : Pt × List Nat × PyData) : Prop where
  o : Ok a.1
  t : TabOk a.1 a.2.1
  f : Fit a.2.2
def lkF2 : PyData → PyData
  | .tuple [a, _] => a
  | _ => .none
def inC (ss : List Str) : PyData → Bool
  | .tuple [_, .tuple [.str z, _]] => decide (z ∈ ss)
  | _ => false
theorem lkZ_len (p : Pt) (t : List Nat) (f : Int × Int) (ht : t.length = p.cl.length) : (lacks p t f).length = p.cl.length := by
  unfold lacks
  rw [List.length_map, List.length_zip]
  omega
theorem own_fin {p : Pt} {t : List Nat} {f : Int × Int} {ss : List Str} (ht : t.length = p.cl.length) : (((zipD ((lacks p t f).map .int) (p.cl.map ptyD)).filter (inC ss)).map lkF2) = ((((p.cl.zip t).filter fun q => decide (q.1.1 ∈ ss)).map fun q => needI p.dv q.1.2 q.2 f - q.1.2)).map .int := by
  unfold lacks
  generalize hg : (fun q : (Str × Int) × Nat => needI p.dv q.1.2 q.2 f - q.1.2) = g
  clear hg
  generalize p.cl = cl at *
  induction cl generalizing t with
  | nil => rfl
  | cons c cl ih =>
    cases t with
    | nil => simp at ht
    | cons n t =>
      have e : zipD ((((c :: cl).zip (n :: t)).map g).map PyData.int) ((c :: cl).map ptyD) = .tuple [.int (g (c, n)), ptyD c] :: zipD (((cl.zip t).map g).map PyData.int) (cl.map ptyD) := rfl
      rw [e, List.zip_cons_cons, List.filter_cons, List.filter_cons]
      have e2 : inC ss (.tuple [.int (g (c, n)), ptyD c]) = decide (c.1 ∈ ss) := rfl
      rw [e2]
      have ih2 := ih (t := t) (by simpa using ht)
      by_cases h : c.1 ∈ ss
      · rw [if_pos (by simpa using h), if_pos (by simpa using h), List.map_cons, ih2, List.map_cons, List.map_cons]
        rfl
      · rw [if_neg (by simpa using h), if_neg (by simpa using h), ih2]
theorem zip_lc {p : Pt} {ls : List Int} {d : PyData} (h : d ∈ zipD (ls.map PyData.int) (p.cl.map ptyD)) : ∃ i, ∃ c ∈ p.cl, d = .tuple [.int i, ptyD c] := by
  rw [zipD_map] at h
  obtain ⟨q, hq, rfl⟩ := List.mem_map.mp h
  exact ⟨q.1, q.2, (List.of_mem_zip hq).2, rfl⟩
theorem sc91 : FnScope ["_law_parts_here", "_law_split", "_law_paper", "_law_price", "_law_lacks_here", "_law_own", "_law_lack", "_law_club"] ["_law_parts_here", "_law_split", "_law_paper"] (defScope (topS 91)) := ⟨rfl, rfl, rfl, by decide +kernel, rfl, by decide +kernel, by decide +kernel⟩
abbrev T__law_bar_due (S : Sys) : Prop := KnG S.P S.w S.K S.mg S.base 5 "_law_bar_due" ["_law_parts_here", "_law_split", "_law_paper"] (spF S.K S.C (α := Pt × List Nat × PyData) (fun a => [ptD a.1, tabD a.2.1, a.2.2]) (fun a => BdOk a) (fun a => .bool (barDue a.1 a.2.1 a.2.2)))
theorem w__law_bar_due {S : Sys} (A : At S.K S.mg "_law_bar_due" (topS 91)) (B : Bt S.mg) (g : Gv S.K S.mg) (k__law_is_gang : T__law_is_gang S) (k__law_top : T__law_top S) (k__law_lacks : T__law_lacks S) (k__law_given : T__law_given S) : T__law_bar_due S := by
  refine kg_F A sc91 (fun _ _ => rfl) (b3 fun _ _ _ _ _ _ _ _ _ => rfl) fun f cdv A outer s H E a hr hgd hp => ?_
  obtain ⟨p, t, v⟩ := a
  have o : Ok p := hp.o
  have ht : TabOk p t := hp.t
  have hf0 : Fit v := hp.f
  have hc3 := o.c3
  refine ss_if ?_
  refine et_cut (!(isTupN 2 v && (gang p (pr2 v)).isSome)) ?_ ?_
  ·
    refine et_w ?_
    refine ew_or ?_
    refine et_not ?_
    refine et_v ?_
    refine ef_isTup B ?_
    refine ef_i 2 rfl ?_
    refine ⟨_, rfl, hf0.dat.pl, ?_⟩
    refine ⟨_, rfl, ?_⟩
    refine ⟨fun hk => ?_, fun hk => ?_⟩
    · exact ⟨(by cases v <;> first | rfl | cases hk), rfl⟩
    refine ew_or ?_
    refine et_c ?_
    refine ec_neI ?_
    refine ef_len B ?_
    refine ef_i 2 rfl ?_
    obtain ⟨ds, rfl⟩ := isTup_inv (notT hk)
    refine ⟨_, (.inr rfl), ?_⟩
    refine ⟨_, rfl, ?_⟩
    refine ef_int ?_
    refine ⟨_, _, rfl, rfl, ?_⟩
    refine ⟨_, rfl, ?_⟩
    refine ⟨fun hk => ?_, fun hk => ?_⟩
    · exact ⟨(by rw [show isTupN 2 (.tuple ds) = false from by show decide (ds.length = 2) = false; exact decide_eq_false fun h => by rw [h] at hk; cases hk]; rfl), rfl⟩
    refine ew_one_or ?_
    refine et_not ?_
    refine et_v ?_
    refine ef_cF k__law_is_gang (hr.mono (by omega)) ?_
    refine ea_d ?_
    refine ef_i 0 rfl ?_
    refine ⟨_, rfl, ?_⟩
    refine ea_d ?_
    refine ef_ixT ?_
    refine ef_i 2 rfl ?_
    refine ⟨_, rfl, ?_⟩
    refine ef_int ?_
    obtain ⟨x, y, hxy⟩ := tup2 (d := .tuple ds) (by show (!decide (ds.length = 2)) = false; rw [decide_eq_true (show ds.length = 2 by have h1 := of_decide_eq_true (notT hk); omega)]; rfl)
    cases hxy
    have hx : Fit x := hf0.in (by simp)
    have hy : Fit y := hf0.in (by simp)
    refine ⟨_, _, _, rfl, rfl, (atI_of (i := 1) rfl), ?_⟩
    refine ⟨_, rfl, ?_⟩
    refine ea_nil ?_
    refine ⟨(p, y), rfl, igOk o hy, ?_⟩
    refine ⟨_, rfl, ?_⟩
    exact ⟨rfl, rfl⟩
  refine ⟨fun hk => ?_, fun hk => ?_⟩
  ·
    refine ss_retD ?_
    refine ef_bl ?_
    refine ⟨_, rfl, ?_⟩
    exact (by show PyData.bool false = .bool (barDue p t v); rw [bar_no (notF hk)])
  refine ss_nil ?_
  refine ss_set 3 ?_ rfl sc91.nd
  refine ef_cFg k__law_top (hr.mono (by omega)) hgd ?_
  refine ea_d ?_
  refine ef_i 0 rfl ?_
  refine ⟨_, rfl, ?_⟩
  refine ea_d ?_
  refine ef_i 1 rfl ?_
  refine ⟨_, rfl, ?_⟩
  refine ea_d ?_
  refine ef_ixT ?_
  refine ef_i 2 rfl ?_
  refine ⟨_, rfl, ?_⟩
  refine ef_int ?_
  obtain ⟨x, y, ss, rfl, hg, rfl, hin⟩ := bar_yes (notT hk)
  have hx : Fit x := hf0.in (by simp)
  have hy : Fit (.tuple (ss.map .str)) := hf0.in (by simp)
  refine ⟨_, _, _, rfl, rfl, (atI_of (i := 0) rfl), ?_⟩
  refine ⟨_, rfl, ?_⟩
  refine ea_nil ?_
  refine ⟨(p, t, x), rfl, tpOk o ht hx, ?_⟩
  dsimp only
  generalize hT : M.top p t x = tp
  refine ⟨_, rfl, rfl, ?_⟩
  refine ss_if ?_
  refine et_c ?_
  refine ec_isN ?_
  refine ef_i 3 rfl ?_
  refine ⟨_, rfl, ?_⟩
  refine ⟨_, rfl, ?_⟩
  refine ⟨fun hk => ?_, fun hk => ?_⟩
  ·
    refine ss_retD ?_
    refine ef_bl ?_
    refine ⟨_, rfl, ?_⟩
    exact (by cases tp with | none => (show PyData.bool false = .bool (barDue p t (.tuple [x, .tuple (ss.map .str)])); rw [barDue_t, hg]; dsimp only; rw [hT]) | some f => cases hk)
  refine ss_nil ?_
  obtain ⟨f, rfl⟩ : ∃ f, tp = some f := by cases tp with | none => cases hk | some f => exact ⟨f, rfl⟩
  have hf : FrOk f := top_inv o ht hT
  refine ss_set 4 ?_ rfl sc91.nd
  refine ef_cF k__law_lacks (hr.mono (by omega)) ?_
  refine ea_d ?_
  refine ef_i 0 rfl ?_
  refine ⟨_, rfl, ?_⟩
  refine ea_d ?_
  refine ef_i 1 rfl ?_
  refine ⟨_, rfl, ?_⟩
  refine ea_d ?_
  refine ef_i 3 rfl ?_
  refine ⟨_, rfl, ?_⟩
  refine ea_nil ?_
  refine ⟨(p, t, f), rfl, ⟨o, ht, hf⟩, ?_⟩
  refine ⟨_, rfl, rfl, ?_⟩
  refine ss_lc 5 [("_law_lack", 6), ("_law_club", 7)] (show blkC ["_law_parts_here", "_law_split", "_law_paper", "_law_price", "_law_lacks_here", "_law_own", "_law_lack", "_law_club"] (defScope (topS 91)) _ [("_law_lack", 6), ("_law_club", 7)] = true from by decide +kernel) sc91.nd ?_
  refine el_lcP (ts := ([6] ++ ([7] ++ []))) [("_law_lack", 6), ("_law_club", 7)] lkF2 (inC ss) (show blkC ["_law_parts_here", "_law_split", "_law_paper", "_law_price", "_law_lacks_here", "_law_own", "_law_lack", "_law_club"] (defScope (topS 91)) _ [("_law_lack", 6), ("_law_club", 7)] = true from by decide +kernel) sc91.nd ?_
  refine ei_zip false true B ?_
  refine ef_i 4 rfl ?_
  refine ⟨_, rfl, ?_⟩
  refine ef_ixL ?_
  refine ef_i 0 rfl ?_
  refine ⟨_, rfl, ?_⟩
  refine ef_int ?_
  refine ⟨_, _, _, rfl, rfl, (atI_of (i := 1) rfl), ?_⟩
  refine ⟨_, rfl, ?_⟩
  refine ⟨rfl, (by show (zipD ((lacks p t f).map .int) (p.cl.map ptyD)).length ≤ 100000; rw [zipD_len, List.length_map, List.length_map]; omega), by decide, fun d hd s H0 Cc cl fp => ?_, ?_⟩
  ·
    obtain ⟨i, c, hc, rfl⟩ := zip_lc hd
    unfold ptyD
    refine sg_t ?_
    refine sr_cons ?_
    refine sg_n 6 rfl ?_ sc91.nd
    refine sr_cons ?_
    refine sg_n 7 rfl ?_ sc91.nd
    refine sr_nil ?_
    intro s H0 Cc cl fp
    refine et_c ?_
    refine ec_in ?_
    refine ef_ixT ?_
    refine ef_i 7 rfl ?_
    refine ⟨_, rfl, ?_⟩
    refine ef_int ?_
    refine ⟨_, _, _, rfl, rfl, (atI_of (i := 0) rfl), ?_⟩
    refine ⟨_, rfl, ?_⟩
    refine ef_ixT ?_
    refine ef_i 2 rfl ?_
    refine ⟨_, rfl, ?_⟩
    refine ef_int ?_
    refine ⟨_, _, _, rfl, rfl, (atI_of (i := 1) rfl), ?_⟩
    refine ⟨_, _, rfl, .inr rfl, ?_⟩
    refine ⟨_, rfl, ?_⟩
    refine ⟨rfl, rfl, rfl, fun hk s H0 Cc cl fp => ?_⟩
    refine ef_i 6 rfl ?_
    exact ⟨rfl, rfl⟩
  rw [own_fin ht.len]
  refine ⟨_, rfl, rfl, ?_⟩
  refine ss_retD ?_
  refine ef_c ?_
  refine ec_gt' ?_
  refine ef_sum B ?_
  refine ef_i 5 rfl ?_
  refine ⟨_, rfl, ?_⟩
  refine ⟨_, rfl, ?_⟩
  refine ef_cF k__law_given (hr.mono (by omega)) ?_
  refine ea_d ?_
  refine ef_i 0 rfl ?_
  refine ⟨_, rfl, ?_⟩
  refine ea_d ?_
  refine ef_ixT ?_
  refine ef_i 2 rfl ?_
  refine ⟨_, rfl, ?_⟩
  refine ef_int ?_
  refine ⟨_, _, _, rfl, rfl, (atI_of (i := 1) rfl), ?_⟩
  refine ⟨_, rfl, ?_⟩
  refine ea_nil ?_
  refine ⟨(p, ss), rfl, ⟨o, Nat.le_trans hy.strs (by decide)⟩, ?_⟩
  refine ⟨_, _, rfl, rfl, ?_⟩
  refine ⟨_, rfl, ?_⟩
  exact (by show _ = PyData.bool (barDue p t (.tuple [x, .tuple (ss.map .str)])); rw [barDue_t, hg]; dsimp only; rw [hT]; rfl)
structure BcOk (a : Pt × Bool × List PyData × PyData) : Prop where
  o : Ok a.1
  t : ∀ d ∈ a.2.2.1, Fit d
  l : a.2.2.1.length = 2
  f : Fit a.2.2.2
theorem inB_int {lo hi : Int} {d : PyData} (h : inB lo hi d = true) : ∃ n, d = .int n ∧ lo ≤ n ∧ n ≤ hi := by
  cases d with
  | int n =>
    have h : (decide (lo ≤ n) && decide (n ≤ hi)) = true := h
    rw [Bool.and_eq_true] at h
    exact ⟨n, rfl, of_decide_eq_true h.1, of_decide_eq_true h.2⟩
  | _ => cases h
def okD (p : Pt) (g ch paper : PyData) : Bool := (gang p g).isSome && inB 0 p.dv.length ch && isTup paper
theorem okD_no {p : Pt} {sure : Bool} {g ch paper : PyData} (h : okD p g ch paper = false) : due p sure g ch paper = false := by
  unfold okD at h
  rw [Bool.and_eq_false_iff] at h
  rcases h with h | h
  · exact okC_no (tail := [g, ch]) (sure := sure) (paper := paper) h
  · unfold due
    cases e : gang p g with
    | none => rfl
    | some ss =>
      dsimp only
      cases ch with
      | int n =>
        dsimp only
        cases paper with
        | tuple ds => cases h
        | _ => simp
      | _ => rfl
theorem okD_yes {p : Pt} {g ch paper : PyData} (h : okD p g ch paper = true) : ∃ ss n ds, g = .tuple (ss.map .str) ∧ ch = .int n ∧ paper = .tuple ds ∧ gang p (.tuple (ss.map .str)) = some ss ∧ 0 ≤ n ∧ n ≤ (p.dv.length : Int) := by
  unfold okD at h
  rw [Bool.and_eq_true, Bool.and_eq_true] at h
  obtain ⟨ss, h1, h2, _⟩ := gang_inv h.1.1
  subst h2
  obtain ⟨n, rfl, h3, h4⟩ := inB_int h.1.2
  obtain ⟨ds, rfl⟩ := isTup_inv h.2
  exact ⟨ss, n, ds, rfl, rfl, rfl, h1, h3, h4⟩
theorem due_t {p : Pt} {sure : Bool} {ss : List Str} {n : Int} {ds : List PyData} (hg : gang p (.tuple (ss.map .str)) = some ss) (h0 : 0 ≤ n) (h1 : n ≤ (p.dv.length : Int)) : dueT p sure [.tuple (ss.map .str), .int n] (.tuple ds) = (decide (ds.length = (rowsOf p sure ss n).length) && ((rowsOf p sure ss n).zip ds).all fun q => pairDue p q.1 q.2) := due_yes hg h0 h1
theorem sp_tab {p : Pt} {t : List Nat} (ht : TabOk p t) (o : Ok p) {a : PyData} (h : isSp p a = false) : isTab t a = false := by
  cases h2 : isTab t a with
  | false => rfl
  | true =>
    cases a with
    | tuple vs =>
      have h3 : intsOf vs = some (t.map fun (n : Nat) => (n : Int)) := of_decide_eq_true h2
      have h4 := intsOf_inv h3
      subst h4
      have e1 : (((t.map fun (n : Nat) => (n : Int)).map PyData.int).length) = p.cl.length := by
        rw [List.length_map, List.length_map]
        exact ht.len
      have e2 : ((t.map fun (n : Nat) => (n : Int)).map PyData.int).all w12 = true := by
        rw [List.all_map, List.all_map]
        refine List.all_eq_true.mpr fun n hn => ?_
        have h1 := mem_le_sum hn
        have h2 := ht.sum
        have h3 := o.d3
        show (decide ((0 : Int) ≤ (n : Int)) && decide ((n : Int) ≤ 12)) = true
        rw [decide_eq_true (by omega), decide_eq_true (by omega)]
        rfl
      have e3 : (((t.map fun (n : Nat) => (n : Int)).map PyData.int).map inV).sum = (p.dv.length : Int) := by
        have := inV_sum t
        rw [tab_ints] at this
        rw [this, ht.sum]
      have h5 : (decide (((t.map fun (n : Nat) => (n : Int)).map PyData.int).length = p.cl.length) && (((t.map fun (n : Nat) => (n : Int)).map PyData.int).all w12 && decide ((((t.map fun (n : Nat) => (n : Int)).map PyData.int).map inV).sum = (p.dv.length : Int)))) = false := h
      rw [decide_eq_true e1, e2, decide_eq_true e3] at h5
      cases h5
    | _ => cases h2
theorem sp_ints {p : Pt} {a : PyData} (h : isSp p a = true) : ∃ ns : List Int, a = .tuple (ns.map .int) := by
  cases a with
  | tuple vs =>
    have h : (decide (vs.length = p.cl.length) && (vs.all w12 && decide ((vs.map inV).sum = (p.dv.length : Int)))) = true := h
    rw [Bool.and_eq_true, Bool.and_eq_true] at h
    obtain ⟨ns, h1, _⟩ := w12_ints h.2.1
    exact ⟨ns, by rw [h1]⟩
  | _ => cases h
theorem zip_all_take {α β : Type} {f : α × β → Bool} {xs : List α} {ys : List β} {i : Nat} {x : α} {y : β} (h : (xs.zip ys)[i]? = some (x, y)) (hf : f (x, y) = false) : (xs.zip ys).all f = false := by
  refine List.all_eq_false.mpr ⟨_, List.mem_of_getElem? h, ?_⟩
  simp [hf]
theorem zipD_getI {ds fs : List PyData} {i : Nat} {d : PyData} (h : (zipD ds fs)[i]? = some d) : ∃ a b, ds[i]? = some a ∧ fs[i]? = some b ∧ d = .tuple [a, b] := by
  unfold zipD at h
  rw [List.getElem?_map] at h
  obtain ⟨q, hq, rfl⟩ := Option.map_eq_some_iff.mp h
  rw [List.getElem?_zip_eq_some] at hq
  exact ⟨q.1, q.2, hq.1, hq.2, rfl⟩
theorem zip_getE {α β : Type} {xs : List α} {ys : List β} {i : Nat} {x : α} {y : β} (h1 : xs[i]? = some x) (h2 : ys[i]? = some y) : (xs.zip ys)[i]? = some (x, y) := List.getElem?_zip_eq_some.mpr ⟨h1, h2⟩
theorem all_take_succ {α : Type} {f : α → Bool} {l : List α} {i : Nat} {x : α} (h : l[i]? = some x) (h1 : (l.take i).all f = true) (h2 : f x = true) : (l.take (i + 1)).all f = true := by
  rw [List.take_add_one, h, Option.toList_some, List.all_append, h1]
  simp [h2]

theorem pd_no {p : Pt} {t : List Nat} {d : PyData} (h : (isTupN 2 d && isTab t (plF d)) = false) : pairDue p t d = false := by
  cases h2 : isTupN 2 d with
  | false => exact pair_not h2
  | true =>
    obtain ⟨x, y, rfl⟩ := tup2 (show (!isTupN 2 d) = false by rw [h2]; rfl)
    have h3 : isTab t x = false := h
    show (isTab t x && barDue p t y) = false
    rw [h3]
    rfl
theorem pd_yes {t : List Nat} {d : PyData} (h : (isTupN 2 d && isTab t (plF d)) = true) : ∃ x y, d = .tuple [x, y] ∧ isTab t x = true := by
  rw [Bool.and_eq_true] at h
  obtain ⟨x, y, rfl⟩ := tup2 (show (!isTupN 2 d) = false by rw [h.1]; rfl)
  exact ⟨x, y, rfl, h.2⟩
theorem rows_all {p : Pt} {rows : List (List Nat)} {ds : List PyData} (hl : (!decide (((rows.map tabD).length : Int) = (ds.length : Int))) = false) (hA : ((rows.zip ds).take (zipD (rows.map tabD) ds).length).all (fun q => pairDue p q.1 q.2) = true) : (decide (ds.length = rows.length) && (rows.zip ds).all fun q => pairDue p q.1 q.2) = true := by
  have h1 := of_decide_eq_true (notT hl)
  rw [List.length_map] at h1
  rw [decide_eq_true (by omega)]
  rw [List.take_of_length_le (by rw [zipD_len, List.length_zip, List.length_map]; exact Nat.le_refl _)] at hA
  rw [hA]
  rfl
theorem sc95 : FnScope ["_law_parts_here", "_law_said", "_law_paper", "_law_word", "_law_sheet_here", "_law_gang_here", "_law_chairs", "_law_rows", "_law_split", "_law_each"] ["_law_parts_here", "_law_said", "_law_paper"] (defScope (topS 95)) := ⟨rfl, rfl, rfl, by decide +kernel, rfl, by decide +kernel, by decide +kernel⟩
abbrev T__law_bloc_due (S : Sys) : Prop := KnG S.P S.w S.K S.mg S.base 6 "_law_bloc_due" ["_law_parts_here", "_law_said", "_law_paper"] (spF S.K S.C (α := Pt × Bool × List PyData × PyData) (fun a => [ptD a.1, claimD a.1 a.2.1 a.2.2.1, a.2.2.2]) (fun a => BcOk a) (fun a => .bool (dueT a.1 a.2.1 a.2.2.1 a.2.2.2)))
theorem w__law_bloc_due {S : Sys} (A : At S.K S.mg "_law_bloc_due" (topS 95)) (B : Bt S.mg) (g : Gv S.K S.mg) (k__law_is_gang : T__law_is_gang S) (k__law_whole : T__law_whole S) (k__law_splits : T__law_splits S) (k__law_held : T__law_held S) (k__law_is_split : T__law_is_split S) (k__law_bar_due : T__law_bar_due S) : T__law_bloc_due S := by
  refine kg_F A sc95 (fun _ _ => rfl) (b3 fun _ _ _ _ _ _ _ _ _ => rfl) fun f cdv A outer s H E a hr hgd hp => ?_
  obtain ⟨p, sure, tail, paper⟩ := a
  have o : Ok p := hp.o
  have hl2 : tail.length = 2 := hp.l
  obtain ⟨g0, ch, rfl⟩ := tail2 hl2
  have hg0 : Fit g0 := hp.t _ (by simp)
  have hch : Fit ch := hp.t _ (by simp)
  have hpf : Fit paper := hp.f
  have hc3 := o.c3
  have hd3 := o.d3
  refine ss_asg (ts := ([3] ++ ([4] ++ ([5] ++ ([6] ++ []))))) ?_
  refine ef_i 1 rfl ?_
  refine ⟨_, rfl, ?_⟩
  refine sg_t ?_
  refine sr_cons ?_
  refine sg_n 3 rfl ?_ sc95.nd
  refine sr_cons ?_
  refine sg_n 4 rfl ?_ sc95.nd
  refine sr_cons ?_
  refine sg_n 5 rfl ?_ sc95.nd
  refine sr_cons ?_
  refine sg_n 6 rfl ?_ sc95.nd
  refine sr_nil ?_
  refine ss_if ?_
  refine et_cut (!okD p g0 ch paper) ?_ ?_
  ·
    refine et_w ?_
    refine ew_or ?_
    refine et_not ?_
    refine et_v ?_
    refine ef_cF k__law_is_gang (hr.mono (by omega)) ?_
    refine ea_d ?_
    refine ef_i 0 rfl ?_
    refine ⟨_, rfl, ?_⟩
    refine ea_d ?_
    refine ef_i 5 rfl ?_
    refine ⟨_, rfl, ?_⟩
    refine ea_nil ?_
    refine ⟨(p, g0), rfl, igOk o hg0, ?_⟩
    refine ⟨_, rfl, ?_⟩
    refine ⟨fun hk => ?_, fun hk => ?_⟩
    · exact ⟨(by show true = !((gang p g0).isSome && _ && _); rw [notF hk]; rfl), rfl⟩
    refine ew_or ?_
    refine et_not ?_
    refine et_v ?_
    refine ef_cF k__law_whole (hr.mono (by omega)) ?_
    refine ea_d ?_
    refine ef_i 6 rfl ?_
    refine ⟨_, rfl, ?_⟩
    refine ea_d ?_
    refine ef_int ?_
    refine ⟨_, rfl, ?_⟩
    refine ea_d ?_
    refine ef_len B ?_
    refine ef_ixL ?_
    refine ef_i 0 rfl ?_
    refine ⟨_, rfl, ?_⟩
    refine ef_int ?_
    refine ⟨_, _, _, rfl, rfl, (atI_of (i := 0) rfl), ?_⟩
    refine ⟨_, (by first | exact .inr rfl | exact .inl rfl | exact ⟨_, rfl, rfl⟩), ?_⟩
    refine ⟨_, rfl, ?_⟩
    refine ea_nil ?_
    refine ⟨(ch, 0, (p.dv.length : Int)), (by rw [List.length_map]; rfl), hch.dat.pl, ?_⟩
    refine ⟨_, rfl, ?_⟩
    refine ⟨fun hk => ?_, fun hk => ?_⟩
    · exact ⟨(by show true = !((gang p g0).isSome && inB 0 p.dv.length ch && isTup paper); rw [notF hk, Bool.and_false]; rfl), rfl⟩
    refine ew_one_or ?_
    refine et_not ?_
    refine et_v ?_
    refine ef_isTup B ?_
    refine ef_i 2 rfl ?_
    refine ⟨_, rfl, hpf.dat.pl, ?_⟩
    refine ⟨_, rfl, ?_⟩
    exact ⟨(by show (!isTup paper) = !((gang p g0).isSome && inB 0 p.dv.length ch && isTup paper); rename_i hk2 hk3; rw [notT hk3, notT hk]; rfl), rfl⟩
  refine ⟨fun hk => ?_, fun hk => ?_⟩
  ·
    refine ss_retD ?_
    refine ef_bl ?_
    refine ⟨_, rfl, ?_⟩
    exact (by show PyData.bool false = .bool (due p sure g0 ch paper); rw [okD_no (notF hk)])
  refine ss_nil ?_
  obtain ⟨ss, n, ds, rfl, rfl, rfl, hg, h0, h1⟩ := okD_yes (notT hk)
  refine ss_lc 7 [("_law_split", 8)] (show blkC ["_law_parts_here", "_law_said", "_law_paper", "_law_word", "_law_sheet_here", "_law_gang_here", "_law_chairs", "_law_rows", "_law_split", "_law_each"] (defScope (topS 95)) _ [("_law_split", 8)] = true from by decide +kernel) sc95.nd ?_
  refine el_lcP (ts := [8]) [("_law_split", 8)] (fun d => d) (fun d => decide (decide ((held p ss (tabF d) : Int) < n) = sure)) (show blkC ["_law_parts_here", "_law_said", "_law_paper", "_law_word", "_law_sheet_here", "_law_gang_here", "_law_chairs", "_law_rows", "_law_split", "_law_each"] (defScope (topS 95)) _ [("_law_split", 8)] = true from by decide +kernel) sc95.nd ?_
  refine ei_l ?_
  refine ef_cF k__law_splits (hr.mono (by omega)) ?_
  refine ea_d ?_
  refine ef_i 0 rfl ?_
  refine ⟨_, rfl, ?_⟩
  refine ea_nil ?_
  refine ⟨p, rfl, o, ?_⟩
  refine ⟨_, rfl, ?_⟩
  refine ⟨rfl, (by have h1 := tabs_n p.cl.length o.c3 p.dv.length o.d3; show ((tabs p.cl.length p.dv.length).map tabD).length ≤ 100000; rw [List.length_map]; omega), by decide, fun d hd s H0 Cc cl fp => ?_, ?_⟩
  ·
    obtain ⟨t, ht, rfl⟩ := List.mem_map.mp hd
    refine sg_n 8 rfl ?_ sc95.nd
    intro s H0 Cc cl fp
    refine et_c ?_
    refine ec_eqB ?_
    refine ef_c ?_
    refine ec_lt ?_
    refine ef_cF k__law_held (hr.mono (by omega)) ?_
    refine ea_d ?_
    refine ef_i 0 rfl ?_
    refine ⟨_, rfl, ?_⟩
    refine ea_d ?_
    refine ef_i 5 rfl ?_
    refine ⟨_, rfl, ?_⟩
    refine ea_d ?_
    refine ef_i 8 rfl ?_
    refine ⟨_, rfl, ?_⟩
    refine ea_nil ?_
    refine ⟨(p, ss, t), rfl, ⟨o, Nat.le_trans (tab_len o.c3 o.d3 ht) (by decide)⟩, ?_⟩
    refine ⟨_, rfl, ?_⟩
    refine ef_i 6 rfl ?_
    refine ⟨_, _, rfl, rfl, ?_⟩
    refine ⟨_, rfl, ?_⟩
    refine ef_c ?_
    refine ec_eqS ?_
    refine ef_i 3 rfl ?_
    refine ⟨_, rfl, ?_⟩
    refine ef_str ?_
    refine ⟨_, _, rfl, rfl, ?_⟩
    refine ⟨_, _, rfl, rfl, ?_⟩
    refine ⟨_, rfl, ?_⟩
    refine ⟨(by rw [wd_sure, tabF_tab]), rfl, rfl, fun hk s H0 Cc cl fp => ?_⟩
    refine ef_i 8 rfl ?_
    exact ⟨rfl, rfl⟩
  rw [rows_eq]
  refine ⟨_, rfl, rfl, ?_⟩
  refine ss_if ?_
  refine et_c ?_
  refine ec_neI ?_
  refine ef_len B ?_
  refine ef_i 7 rfl ?_
  refine ⟨_, (by first | exact .inr rfl | exact .inl rfl | exact ⟨_, rfl, rfl⟩), ?_⟩
  refine ⟨_, rfl, ?_⟩
  refine ef_len B ?_
  refine ef_i 2 rfl ?_
  refine ⟨_, (by first | exact .inr rfl | exact .inl rfl | exact ⟨_, rfl, rfl⟩), ?_⟩
  refine ⟨_, _, rfl, rfl, ?_⟩
  refine ⟨_, rfl, ?_⟩
  refine ⟨fun hk => ?_, fun hk => ?_⟩
  ·
    refine ss_retD ?_
    refine ef_bl ?_
    refine ⟨_, rfl, ?_⟩
    exact (by show PyData.bool false = .bool (dueT p sure [.tuple (ss.map .str), .int n] (.tuple ds)); rw [due_t hg h0 h1, decide_eq_false (fun h => by rw [List.length_map, h] at hk; simp at hk)]; rfl)
  refine ss_nil ?_
  have hlen := hk
  refine ss_for (ts := ([8] ++ ([9] ++ []))) ?_
  refine ei_zip false true B ?_
  refine ef_i 7 rfl ?_
  refine ⟨_, rfl, ?_⟩
  refine ef_i 2 rfl ?_
  refine ⟨_, rfl, ?_⟩
  refine ⟨(fun i G' => G' = [.imm (ptD p), .imm (claimD p sure [.tuple (ss.map .str), .int n]), .imm (.tuple ds), .imm (.str (wd sure)), .imm (.str (sheet p)), .imm (.tuple (ss.map .str)), .imm (.int n), .imm (.list ((rowsOf p sure ss n).map tabD)), .un, .un] ∧ (((rowsOf p sure ss n).zip ds).take i).all (fun q => pairDue p q.1 q.2) = true), ⟨rfl, rfl⟩, fun i d G1 hd hP => ?_, fun G1 hP => ?_⟩
  ·
    obtain ⟨rfl, hA⟩ := hP
    obtain ⟨a1, b1, hr1, hb1, rfl⟩ := zipD_getI hd
    obtain ⟨t, ht, rfl⟩ := tab_get hr1
    have hto := row_ok o (List.mem_of_getElem? ht)
    have hbm := List.mem_of_getElem? hb1
    have hbf : Fit b1 := hpf.in hbm
    have hz := zip_getE ht hb1
    have hbad : pairDue p t b1 = false → dueT p sure [.tuple (ss.map .str), .int n] (.tuple ds) = false := fun h => by rw [due_t hg h0 h1, zip_all_take hz h, Bool.and_false]
    refine sg_t ?_
    refine sr_cons ?_
    refine sg_n 8 rfl ?_ sc95.nd
    refine sr_cons ?_
    refine sg_n 9 rfl ?_ sc95.nd
    refine sr_nil ?_
    refine ss_if ?_
    refine et_cut (!(isTupN 2 b1 && isTab t (plF b1))) ?_ ?_
    ·
      refine et_w ?_
      refine ew_or ?_
      refine et_not ?_
      refine et_v ?_
      refine ef_isTup B ?_
      refine ef_i 9 rfl ?_
      refine ⟨_, rfl, hbf.dat.pl, ?_⟩
      refine ⟨_, rfl, ?_⟩
      refine ⟨fun hk => ?_, fun hk => ?_⟩
      · exact ⟨(by cases b1 <;> first | rfl | cases hk), rfl⟩
      refine ew_or ?_
      refine et_c ?_
      refine ec_neI ?_
      refine ef_len B ?_
      refine ef_i 9 rfl ?_
      obtain ⟨es, rfl⟩ := isTup_inv (notT hk)
      refine ⟨_, (.inr rfl), ?_⟩
      refine ⟨_, rfl, ?_⟩
      refine ef_int ?_
      refine ⟨_, _, rfl, rfl, ?_⟩
      refine ⟨_, rfl, ?_⟩
      refine ⟨fun hk => ?_, fun hk => ?_⟩
      · exact ⟨(by rw [show isTupN 2 (.tuple es) = false from by show decide (es.length = 2) = false; exact decide_eq_false fun h => by rw [h] at hk; cases hk]; rfl), rfl⟩
      refine ew_or ?_
      refine et_not ?_
      refine et_v ?_
      refine ef_cF k__law_is_split (hr.mono (by omega)) ?_
      refine ea_d ?_
      refine ef_i 0 rfl ?_
      refine ⟨_, rfl, ?_⟩
      refine ea_d ?_
      refine ef_ixT ?_
      refine ef_i 9 rfl ?_
      refine ⟨_, rfl, ?_⟩
      refine ef_int ?_
      obtain ⟨x, y, hxy⟩ := tup2 (d := .tuple es) (by show (!decide (es.length = 2)) = false; rw [decide_eq_true (show es.length = 2 by have h1 := of_decide_eq_true (notT hk); omega)]; rfl)
      cases hxy
      have hx : Fit x := hbf.in (by simp)
      refine ⟨_, _, _, rfl, rfl, (atI_of (i := 0) rfl), ?_⟩
      refine ⟨_, rfl, ?_⟩
      refine ea_nil ?_
      refine ⟨(p, x), rfl, ⟨o, hx.dat, fun ds e => by have e2 : x = .tuple ds := e; subst e2; exact hx.len⟩, ?_⟩
      refine ⟨_, rfl, ?_⟩
      refine ⟨fun hk => ?_, fun hk => ?_⟩
      · exact ⟨(by show true = !(true && isTab t x); rw [sp_tab hto o (notF hk)]; rfl), rfl⟩
      refine ew_one_or ?_
      refine et_c ?_
      refine ec_neD hr ?_
      refine ef_ixT ?_
      refine ef_i 9 rfl ?_
      refine ⟨_, rfl, ?_⟩
      refine ef_int ?_
      obtain ⟨ns, rfl⟩ := sp_ints (notT hk)
      refine ⟨_, _, _, rfl, rfl, (atI_of (i := 0) rfl), ?_⟩
      refine ⟨trivial, ?_⟩
      refine ef_i 8 rfl ?_
      refine ⟨_, _, rfl, rfl, cmp_ints, (by rw [tabD_ints]; exact cmp_ints), ?_⟩
      refine ⟨_, rfl, ?_⟩
      exact ⟨(by show (!PyData.eqv (.tuple (ns.map .int)) (tabD t)) = !(true && isTab t (.tuple (ns.map .int))); rw [isTab_eqv]; rfl), rfl⟩
    refine ⟨fun hk => ?_, fun hk => ?_⟩
    ·
      refine ss_retD ?_
      refine ef_bl ?_
      refine ⟨_, rfl, ?_⟩
      exact (by show PyData.bool false = .bool (dueT p sure [.tuple (ss.map .str), .int n] (.tuple ds)); rw [hbad (pd_no (notF hk))])
    refine ss_nil ?_
    refine ss_if ?_
    refine et_not ?_
    refine et_v ?_
    refine ef_cFg k__law_bar_due (hr.mono (by omega)) hgd ?_
    refine ea_d ?_
    refine ef_i 0 rfl ?_
    refine ⟨_, rfl, ?_⟩
    refine ea_d ?_
    refine ef_i 8 rfl ?_
    refine ⟨_, rfl, ?_⟩
    refine ea_d ?_
    refine ef_ixT ?_
    refine ef_i 9 rfl ?_
    refine ⟨_, rfl, ?_⟩
    refine ef_int ?_
    obtain ⟨x, y, rfl, hxt⟩ := pd_yes (notT hk)
    have hy : Fit y := hbf.in (by simp)
    refine ⟨_, _, _, rfl, rfl, (atI_of (i := 1) rfl), ?_⟩
    refine ⟨_, rfl, ?_⟩
    refine ea_nil ?_
    refine ⟨(p, t, y), rfl, ⟨o, hto, hy⟩, ?_⟩
    refine ⟨_, rfl, ?_⟩
    refine ⟨fun hk => ?_, fun hk => ?_⟩
    ·
      refine ss_retD ?_
      refine ef_bl ?_
      refine ⟨_, rfl, ?_⟩
      exact (by show PyData.bool false = .bool (dueT p sure [.tuple (ss.map .str), .int n] (.tuple ds)); rw [hbad (by show (isTab t x && barDue p t y) = false; rw [notF hk, Bool.and_false])])
    refine ss_nil ?_
    refine ss_fgt [8, 9] rfl (ss_nil ?_)
    exact ⟨rfl, all_take_succ hz hA (by show (isTab t x && barDue p t y) = true; rw [hxt, notT hk]; rfl)⟩
  obtain ⟨rfl, hA⟩ := hP
  refine ss_retD ?_
  refine ef_bl ?_
  refine ⟨_, rfl, ?_⟩
  exact (by show PyData.bool true = .bool (dueT p sure [.tuple (ss.map .str), .int n] (.tuple ds)); rw [due_t hg h0 h1, rows_all hlen hA])
end W
/-! V8: the law: draws -/
namespace W
open PySem PySem.Spec PyProof.Rows L2 DL M

/-- the urn: turned at most n times -/
def Ur (n : Nat) (cs : List PyData) : Prop := ∃ a b t : Int, cs = [.int a, .int b, .int t] ∧ 0 ≤ t ∧ t ≤ (n : Int)
theorem Ur.mono {n m : Nat} {cs : List PyData} (h : Ur n cs) (k : n ≤ m) : Ur m cs := by
  obtain ⟨a, b, t, e, h0, h1⟩ := h
  exact ⟨a, b, t, e, h0, by omega⟩
theorem fmod_nat {i : Int} {w : Nat} (h : 1 ≤ w) : ∃ k : Nat, i.fmod (w : Int) = (k : Int) ∧ k < w := by
  have h1 := Int.fmod_nonneg_of_pos i (show (0 : Int) < (w : Int) by omega)
  have h2 := Int.fmod_lt_of_pos i (show (0 : Int) < (w : Int) by omega)
  obtain ⟨k, hk⟩ := Int.eq_ofNat_of_zero_le h1
  exact ⟨k, hk, by rw [hk] at h2; omega⟩
theorem sc72 : FnScope ["_law_urn_here", "_law_wide", "_law_figure", "_law_turns"] ["_law_urn_here", "_law_wide"] (defScope (topS 72)) := ⟨rfl, rfl, rfl, by decide +kernel, rfl, by decide +kernel, by decide +kernel⟩
abbrev T__law_pull (S : Sys) : Prop := Kn S.P S.w S.K S.mg S.base 1 "_law_pull" ["_law_urn_here", "_law_wide"] (spUA S.K S.C (α := Nat × Nat) (fun q => [natD q.2]) (fun q cs => Ur q.1 cs ∧ q.1 + 1 ≤ 1000000 ∧ 1 ≤ q.2 ∧ q.2 ≤ 100000) (fun q _ d cs => ∃ k : Nat, d = natD k ∧ k < q.2 ∧ Ur (q.1 + 1) cs))
theorem w__law_pull {S : Sys} (A : At S.K S.mg "_law_pull" (topS 72)) (B : Bt S.mg) (g : Gv S.K S.mg)  : T__law_pull S := by
  refine kn_U A sc72 (fun _ _ _ => rfl) (b2 fun _ _ _ _ _ _ _ _ => rfl) fun f cdv A outer s H E a cs hr hp => ?_
  obtain ⟨n, w⟩ := a
  obtain ⟨⟨x, y, t, rfl, h0, h1⟩, hn, hw1, hw2⟩ := hp
  have hw1 : 1 ≤ w := hw1
  have hw2 : w ≤ 100000 := hw2
  have hn : n + 1 ≤ 1000000 := hn
  have h1 : t ≤ (n : Int) := h1
  refine ss_item 0 ?_
  refine ef_add ?_
  refine ef_ixO 0 ?_
  refine ef_o 0 rfl rfl ?_
  refine ⟨rfl, ?_⟩
  refine ef_int ?_
  refine ⟨_, _, _, _, rfl, rfl, rfl, (atI_of (i := 2) rfl), ?_⟩
  refine ⟨_, rfl, ?_⟩
  refine ef_int ?_
  refine ⟨_, _, rfl, rfl, ?_⟩
  refine ⟨_, rfl, ?_⟩
  refine ef_o 0 rfl rfl ?_
  refine ⟨rfl, ?_⟩
  refine ef_int ?_
  refine ⟨_, _, _, rfl, rfl, rfl, (show (2 : Nat) < 3 by decide), ?_⟩
  refine ss_if ?_
  refine et_c ?_
  refine ec_gt' ?_
  refine ef_ixO 0 ?_
  refine ef_o 0 rfl rfl ?_
  refine ⟨rfl, ?_⟩
  refine ef_int ?_
  refine ⟨_, _, _, _, rfl, rfl, rfl, (atI_of (i := 0) rfl), ?_⟩
  refine ⟨_, rfl, ?_⟩
  refine ef_int ?_
  refine ⟨_, _, rfl, rfl, ?_⟩
  refine ⟨_, rfl, ?_⟩
  refine ⟨fun hk => ?_, fun hk => ?_⟩
  ·
    refine ss_set 2 ?_ rfl sc72.nd
    refine ef_mod ?_
    refine ef_intI B ?_
    refine ef_ixO 0 ?_
    refine ef_o 0 rfl rfl ?_
    refine ⟨rfl, ?_⟩
    refine ef_int ?_
    refine ⟨_, _, _, _, rfl, rfl, rfl, (atI_of (i := 0) rfl), ?_⟩
    refine ⟨_, rfl, ?_⟩
    refine ⟨_, rfl, ?_⟩
    refine ef_i 1 rfl ?_
    refine ⟨_, _, rfl, rfl, (show (w : Int) ≠ 0 by omega), ?_⟩
    refine ⟨_, rfl, rfl, ?_⟩
    refine ss_item 0 ?_
    refine ef_fdiv ?_
    refine ef_ixO 0 ?_
    refine ef_o 0 rfl rfl ?_
    refine ⟨rfl, ?_⟩
    refine ef_int ?_
    refine ⟨_, _, _, _, rfl, rfl, rfl, (atI_of (i := 0) rfl), ?_⟩
    refine ⟨_, rfl, ?_⟩
    refine ef_i 1 rfl ?_
    refine ⟨_, _, rfl, rfl, (show CDivN x (w : Int) from ⟨by omega, by omega⟩), ?_⟩
    refine ⟨_, rfl, ?_⟩
    refine ef_o 0 rfl rfl ?_
    refine ⟨rfl, ?_⟩
    refine ef_int ?_
    refine ⟨_, _, _, rfl, rfl, rfl, (show (0 : Nat) < 3 by decide), ?_⟩
    refine ss_retD ?_
    refine ef_i 2 rfl ?_
    refine ⟨_, rfl, ?_⟩
    exact fun cs2 e => by cases e; obtain ⟨k, e, hk⟩ := fmod_nat (i := x) hw1; exact ⟨k, congrArg PyData.int e, hk, _, _, _, rfl, by omega, by show t + 1 ≤ ((n + 1 : Nat) : Int); omega⟩
  refine ss_nil ?_
  refine ss_set 3 ?_ rfl sc72.nd
  refine ef_ixO 0 ?_
  refine ef_o 0 rfl rfl ?_
  refine ⟨rfl, ?_⟩
  refine ef_int ?_
  refine ⟨_, _, _, _, rfl, rfl, rfl, (atI_of (i := 2) rfl), ?_⟩
  refine ⟨_, rfl, rfl, ?_⟩
  refine ss_item 0 ?_
  refine ef_mod ?_
  refine ef_intI B ?_
  refine ef_add ?_
  refine ef_add ?_
  refine ef_mul ?_
  refine ef_ixO 0 ?_
  refine ef_o 0 rfl rfl ?_
  refine ⟨rfl, ?_⟩
  refine ef_int ?_
  refine ⟨_, _, _, _, rfl, rfl, rfl, (atI_of (i := 1) rfl), ?_⟩
  refine ⟨_, rfl, ?_⟩
  refine ef_int ?_
  refine ⟨_, _, rfl, rfl, (.inr (c64 (x := 54881) (by decide) (by decide))), ?_⟩
  refine ⟨_, rfl, ?_⟩
  refine ef_mul ?_
  refine ef_mul ?_
  refine ef_mul ?_
  refine ef_int ?_
  refine ⟨_, rfl, ?_⟩
  refine ef_i 3 rfl ?_
  refine ⟨_, _, rfl, rfl, (.inl (c64 (x := 6473) (by decide) (by decide))), ?_⟩
  refine ⟨_, rfl, ?_⟩
  refine ef_i 3 rfl ?_
  refine ⟨_, _, rfl, rfl, (.inr (c64 (x := t + 1) (by omega) (by omega))), ?_⟩
  refine ⟨_, rfl, ?_⟩
  refine ef_i 3 rfl ?_
  refine ⟨_, _, rfl, rfl, (.inr (c64 (x := t + 1) (by omega) (by omega))), ?_⟩
  refine ⟨_, _, rfl, rfl, ?_⟩
  refine ⟨_, rfl, ?_⟩
  refine ef_int ?_
  refine ⟨_, _, rfl, rfl, ?_⟩
  refine ⟨_, rfl, ?_⟩
  refine ⟨_, rfl, ?_⟩
  refine ef_int ?_
  refine ⟨_, _, rfl, rfl, (by decide), ?_⟩
  refine ⟨_, rfl, ?_⟩
  refine ef_o 0 rfl rfl ?_
  refine ⟨rfl, ?_⟩
  refine ef_int ?_
  refine ⟨_, _, _, rfl, rfl, rfl, (show (1 : Nat) < 3 by decide), ?_⟩
  refine ss_retD ?_
  refine ef_mod ?_
  refine ef_intI B ?_
  refine ef_fdiv ?_
  refine ef_ixO 0 ?_
  refine ef_o 0 rfl rfl ?_
  refine ⟨rfl, ?_⟩
  refine ef_int ?_
  refine ⟨_, _, _, _, rfl, rfl, rfl, (atI_of (i := 1) rfl), ?_⟩
  refine ⟨_, rfl, ?_⟩
  refine ef_int ?_
  refine ⟨_, _, rfl, rfl, (by exact ⟨by decide, by decide⟩), ?_⟩
  refine ⟨_, rfl, ?_⟩
  refine ⟨_, rfl, ?_⟩
  refine ef_i 1 rfl ?_
  refine ⟨_, _, rfl, rfl, (show (w : Int) ≠ 0 by omega), ?_⟩
  refine ⟨_, rfl, ?_⟩
  exact fun cs2 e => by cases e; obtain ⟨k, e, hk⟩ := fmod_nat (i := _) hw1; exact ⟨k, congrArg PyData.int e, hk, _, _, _, rfl, by omega, by show t + 1 ≤ ((n + 1 : Nat) : Int); omega⟩
theorem sc73 : FnScope ["_law_urn_here", "_law_some"] ["_law_urn_here", "_law_some"] (defScope (topS 73)) := ⟨rfl, rfl, rfl, by decide +kernel, rfl, by decide +kernel, by decide +kernel⟩
abbrev T__law_pick (S : Sys) : Prop := Kn S.P S.w S.K S.mg S.base 2 "_law_pick" ["_law_urn_here", "_law_some"] (spUA S.K S.C (α := Nat × List PyData) (fun q => [.list q.2]) (fun q cs => Ur q.1 cs ∧ q.1 + 1 ≤ 1000000 ∧ 1 ≤ q.2.length ∧ q.2.length ≤ 100000) (fun q _ d cs => d ∈ q.2 ∧ Ur (q.1 + 1) cs))
theorem w__law_pick {S : Sys} (A : At S.K S.mg "_law_pick" (topS 73)) (B : Bt S.mg) (g : Gv S.K S.mg) (k__law_pull : T__law_pull S) : T__law_pick S := by
  refine kn_U A sc73 (fun _ _ _ => rfl) (b2 fun _ _ _ _ _ _ _ _ => rfl) fun f cdv A outer s H E a cs hr hp => ?_
  obtain ⟨n, ds⟩ := a
  obtain ⟨hu, hn, hw1, hw2⟩ := hp
  have hw1 : 1 ≤ ds.length := hw1
  have hw2 : ds.length ≤ 100000 := hw2
  refine ss_retD ?_
  refine ef_ixL ?_
  refine ef_i 1 rfl ?_
  refine ⟨_, rfl, ?_⟩
  refine ef_cU 0 k__law_pull (hr.mono (by omega)) ?_
  refine ea_cons ?_
  refine ef_o 0 rfl rfl ?_
  refine ⟨⟨_, rfl⟩, ?_⟩
  refine ea_d ?_
  refine ef_len B ?_
  refine ef_i 1 rfl ?_
  refine ⟨_, (by first | exact .inr rfl | exact .inl rfl | exact ⟨_, rfl, rfl⟩), ?_⟩
  refine ⟨_, rfl, ?_⟩
  refine ea_nil ?_
  refine ⟨_, _, (n, ds.length), rfl, rfl, rfl, ⟨hu, hn, hw1, hw2⟩, fun d cs hd => ?_⟩
  obtain ⟨k, rfl, hk, hu2⟩ := hd
  obtain ⟨d, hd⟩ : ∃ d, ds[k]? = some d := ⟨ds[k], List.getElem?_eq_getElem hk⟩
  refine ⟨_, _, _, rfl, rfl, (atI_of hd), ?_⟩
  refine ⟨_, rfl, ?_⟩
  exact fun cs2 e => by cases e; exact ⟨List.mem_of_getElem? hd, hu2⟩
theorem sc92 : FnScope ["_law_urn_here", "_law_some"] ["_law_urn_here"] (defScope (topS 92)) := ⟨rfl, rfl, rfl, by decide +kernel, rfl, by decide +kernel, by decide +kernel⟩
abbrev T__law_spare (S : Sys) : Prop := Kn S.P S.w S.K S.mg S.base 3 "_law_spare" ["_law_urn_here"] (spUA S.K S.C (α := Nat) (fun _ => []) (fun n cs => Ur n cs ∧ n + 1 ≤ 1000000) (fun n _ d cs => d ∈ spares ∧ Ur (n + 1) cs))
theorem w__law_spare {S : Sys} (A : At S.K S.mg "_law_spare" (topS 92)) (B : Bt S.mg) (g : Gv S.K S.mg) (k__law_pick : T__law_pick S) : T__law_spare S := by
  refine kn_U A sc92 (fun _ _ _ => rfl) (b1 fun _ _ _ _ _ _ _ => rfl) fun f cdv A outer s H E a cs hr hp => ?_
  obtain ⟨hu, hn⟩ := hp
  refine ss_set 1 ?_ rfl sc92.nd
  refine ef_lst ?_
  refine ea_d ?_
  refine ef_non ?_
  refine ⟨_, rfl, ?_⟩
  refine ea_d ?_
  refine ef_bl ?_
  refine ⟨_, rfl, ?_⟩
  refine ea_d ?_
  refine ef_bl ?_
  refine ⟨_, rfl, ?_⟩
  refine ea_d ?_
  refine ef_int ?_
  refine ⟨_, rfl, ?_⟩
  refine ea_d ?_
  refine ef_int ?_
  refine ⟨_, rfl, ?_⟩
  refine ea_d ?_
  refine ef_neg ?_
  refine ef_int ?_
  refine ⟨_, rfl, ?_⟩
  refine ⟨_, rfl, ?_⟩
  refine ea_d ?_
  refine ef_pow ?_
  refine ef_int ?_
  refine ⟨_, rfl, ?_⟩
  refine ef_int ?_
  refine ⟨_, _, rfl, rfl, (by exact ⟨by decide, by decide, by decide⟩), ?_⟩
  refine ⟨_, rfl, ?_⟩
  refine ea_d ?_
  refine ef_str ?_
  refine ⟨_, rfl, ?_⟩
  refine ea_d ?_
  refine ef_str ?_
  refine ⟨_, rfl, ?_⟩
  refine ea_d ?_
  refine ef_str ?_
  refine ⟨_, rfl, ?_⟩
  refine ea_d ?_
  refine ef_tup ?_
  refine ea_nil ?_
  refine ⟨[], rfl, show 0 ≤ sizeLine by decide, ?_⟩
  refine ⟨_, rfl, ?_⟩
  refine ea_d ?_
  refine ef_lst ?_
  refine ea_nil ?_
  refine ⟨[], rfl, show 0 ≤ sizeLine by decide, ?_⟩
  refine ⟨_, rfl, ?_⟩
  refine ea_d ?_
  refine ef_emp ?_
  refine ⟨_, rfl, ?_⟩
  refine ea_d ?_
  refine ef_tup ?_
  refine ea_d ?_
  refine ef_tup ?_
  refine ea_nil ?_
  refine ⟨[], rfl, show 0 ≤ sizeLine by decide, ?_⟩
  refine ⟨_, rfl, ?_⟩
  refine ea_nil ?_
  refine ⟨[_], rfl, show 1 ≤ sizeLine by decide, ?_⟩
  refine ⟨_, rfl, ?_⟩
  refine ea_d ?_
  refine ef_tup ?_
  refine ea_d ?_
  refine ef_int ?_
  refine ⟨_, rfl, ?_⟩
  refine ea_d ?_
  refine ef_int ?_
  refine ⟨_, rfl, ?_⟩
  refine ea_nil ?_
  refine ⟨[_, _], rfl, show 2 ≤ sizeLine by decide, ?_⟩
  refine ⟨_, rfl, ?_⟩
  refine ea_d ?_
  refine ef_tup ?_
  refine ea_d ?_
  refine ef_int ?_
  refine ⟨_, rfl, ?_⟩
  refine ea_d ?_
  refine ef_int ?_
  refine ⟨_, rfl, ?_⟩
  refine ea_nil ?_
  refine ⟨[_, _], rfl, show 2 ≤ sizeLine by decide, ?_⟩
  refine ⟨_, rfl, ?_⟩
  refine ea_d ?_
  refine ef_lst ?_
  refine ea_d ?_
  refine ef_tup ?_
  refine ea_d ?_
  refine ef_int ?_
  refine ⟨_, rfl, ?_⟩
  refine ea_d ?_
  refine ef_int ?_
  refine ⟨_, rfl, ?_⟩
  refine ea_nil ?_
  refine ⟨[_, _], rfl, show 2 ≤ sizeLine by decide, ?_⟩
  refine ⟨_, rfl, ?_⟩
  refine ea_nil ?_
  refine ⟨[_], rfl, show 1 ≤ sizeLine by decide, ?_⟩
  refine ⟨_, rfl, ?_⟩
  refine ea_d ?_
  refine ef_tup ?_
  refine ea_d ?_
  refine ef_str ?_
  refine ⟨_, rfl, ?_⟩
  refine ea_nil ?_
  refine ⟨[_], rfl, show 1 ≤ sizeLine by decide, ?_⟩
  refine ⟨_, rfl, ?_⟩
  refine ea_nil ?_
  refine ⟨[_, _, _, _, _, _, _, _, _, _, _, _, _, _, _, _, _, _], rfl, show 18 ≤ sizeLine by decide, ?_⟩
  refine ⟨_, rfl, rfl, ?_⟩
  refine ss_retD ?_
  refine ef_cU 0 k__law_pick (hr.mono (by omega)) ?_
  refine ea_cons ?_
  refine ef_o 0 rfl rfl ?_
  refine ⟨⟨_, rfl⟩, ?_⟩
  refine ea_d ?_
  refine ef_i 1 rfl ?_
  refine ⟨_, rfl, ?_⟩
  refine ea_nil ?_
  refine ⟨_, _, (a, spares), rfl, rfl, rfl, ⟨hu, hn, by show 1 ≤ 18; decide, by show 18 ≤ 100000; decide⟩, fun d cs hd => ?_⟩
  refine ⟨_, rfl, ?_⟩
  exact fun cs2 e => by cases e; exact hd
end W
/-! DL23: t != () for any tuple t; a, b, c = d, e, [..]; a list taken apart. -/
namespace DL
open PySem PySem.Spec PyProof.Rows L2
section
variable {X : Cx}
def rNeE (K : PySem.W.Frag) : R2 := fun x y H Q => ∃ (a b : Addr) (xs : List V), x = .ref a ∧ y = .ref b ∧ SqT K H a xs ∧ SqT K H b [] ∧ Q (.bl (!decide (xs = []))) H
theorem op_neE (hu : X.A.units + 64 < cLine) : OpR X (compareOp .NotEq) (rNeE X.K) := by
  intro pins s σ H x y v u Q I rx ry h
  obtain ⟨a, b, xs, rfl, rfl, ha, hb, q⟩ := h
  cases rx
  cases ry
  obtain ⟨its, rv, pt, _⟩ := I.tuple ha
  obtain ⟨its2, rv2, pt2, _⟩ := I.tuple hb
  cases rv2
  refine SeqAt.RcNeAt.tuples (e := fun _ => true) (show s.heap.IsTuple a its.toArray from pt) (show s.heap.IsTuple b ([] : List Value).toArray from pt2) (by omega) (fun j _ h2 => absurd h2 (by simp)) _ _ _ _ ?_
  refine ⟨.bl (!decide (xs = [])), H, I, ?_, q⟩
  show Value.bool _ = Value.bool _
  congr 1
  have hl := rv.length
  cases xs with
  | nil =>
    cases rv
    rfl
  | cons y ys =>
    cases rv
    simp
variable {C : Addr} {G : Ga} {Q : Vl → Ga → Prop} {a b c e : Expr} {T : Es} {x y z : Str} {pos pt : Pos} {rest : List Stmt} {es : List Expr}
theorem ec_neE {n : Nat} (hr : Room n X.A) (h : Ef C X a G fun v1 G1 => ∃ d1, v1 = .d d1 ∧ Ef C X b G1 fun v2 G2 => ∃ ds, d1 = .tuple ds ∧ v2 = .d (.tuple []) ∧ Q (.d (.bool (!decide (ds = [])))) G2) : Ec C X .NotEq a b G Q :=
  ec_op2 (op_neE hr.units) h fun O σ H G2 d1 v2 x y Q' E r1 r2 ⟨ds, e1, e2, q⟩ k => by
    subst e1 e2
    obtain ⟨a, xs, rfl, h1, ra⟩ := Rep.tup_inv r1
    obtain ⟨b, ys, rfl, h2, rb⟩ := Rep.tup_inv r2
    rw [rb.nil_inv] at h2
    refine ⟨a, b, xs, rfl, rfl, h1, h2, ?_⟩
    have e : decide (xs = []) = decide (ds = []) := by
      have hl := ra.1
      cases xs with
      | nil => cases ds with
        | nil => rfl
        | cons => simp at hl
      | cons => cases ds with
        | nil => simp at hl
        | cons => simp
    rw [e]
    exact Co.at k E (.bl _) q
/-- a, b, c = d, e, [..], by way of a tuple -/
theorem ss_asg3O (i j l : Nat) {kt k2 : Nat} {px py pz pt2 : Pos} (h : Ef C X a G fun v1 G1 => ∃ d1, v1 = .d d1 ∧ Ef C X b G1 fun v2 G2 => ∃ d2, v2 = .d d2 ∧ Efr C X c G2 fun ds G3 => okSet G3 i = true ∧ okSet G3 j = true ∧ okSet G3 l = true ∧ SS C X rest (((G3.set i (.imm d1)).set j (.imm d2)).set l (.own ds)) T) (hN' : X.N.Nodup)
    (hij : i ≠ j := by decide) (hil : i ≠ l := by decide) (hjl : j ≠ l := by decide) (hi : X.N[i]? = some x := by rfl) (hj : X.N[j]? = some y := by rfl) (hl : X.N[l]? = some z := by rfl)
    (lx : Loc X.env.scope x := by first | exact Or.inl rfl | exact Or.inr rfl) (ly : Loc X.env.scope y := by first | exact Or.inl rfl | exact Or.inr rfl) (lz : Loc X.env.scope z := by first | exact Or.inl rfl | exact Or.inr rfl)
    (fx : X.fn x = true ∨ X.env.scope.names.lookup x = some .local := by first | exact .inl rfl | exact .inr rfl) (fy : X.fn y = true ∨ X.env.scope.names.lookup y = some .local := by first | exact .inl rfl | exact .inr rfl) (fz : X.fn z = true ∨ X.env.scope.names.lookup z = some .local := by first | exact .inl rfl | exact .inr rfl)
    (hw : swappedStores [.Tuple [.Name x px, .Name y py, .Name z pz] kt pt] (.Tuple [a, b, c] k2 pt2) X.env = pure none := by rfl)
    (hs : swapsWithSole [.Tuple [.Name x px, .Name y py, .Name z pz] kt pt] (.Tuple [a, b, c] k2 pt2) pos.line X.env = pure false := by rfl) (hc : X.calm = true := by rfl)
    (h1 : starEach [a, b, c] X.env = (false, eval a X.env) :: starEach [b, c] X.env := by rfl) (h2 : starEach [b, c] X.env = (false, eval b X.env) :: starEach [c] X.env := by rfl) (h3 : starEach [c] X.env = (false, eval c X.env) :: starEach [] X.env := by rfl)
    (g1 : (assignEach [.Tuple [.Name x px, .Name y py, .Name z pz] kt pt] X.env).map (·.2) = [assign (.Tuple [.Name x px, .Name y py, .Name z pz] kt pt) X.env] := by rfl)
    (s1 : (assignEach [.Name x px, .Name y py, .Name z pz] X.env).map (·.2) = assign (.Name x px) X.env :: (assignEach [.Name y py, .Name z pz] X.env).map (·.2) := by rfl) (s2 : (assignEach [.Name y py, .Name z pz] X.env).map (·.2) = assign (.Name y py) X.env :: (assignEach [.Name z pz] X.env).map (·.2) := by rfl) (s3 : (assignEach [.Name z pz] X.env).map (·.2) = assign (.Name z pz) X.env :: (assignEach [] X.env).map (·.2) := by rfl)
    (hn : (assignEach [.Name x px, .Name y py, .Name z pz] X.env).length = 3 := by rfl) (hst : (assignEach [.Name x px, .Name y py, .Name z pz] X.env).findIdx? (·.1) = none := by rfl) :
    SS C X (.Assign [.Tuple [.Name x px, .Name y py, .Name z pz] kt pt] (.Tuple [a, b, c] k2 pt2) pos :: rest) G T :=
  ss_cons (ps_asg (pe_tup (pa_cons (pe_W a) (pa_cons (pe_W b) (pa_cons (pe_W c) pa_nil h3) h2) h1)) (pg_tup (n := 3) hc (pgs_cons (pg_name hN' hi lx fx) (pgs_cons (pg_name hN' hj ly fy) (pgs_cons (pg_name hN' hl lz fz) pgs_nil s3) s2) s1) hn hst) hs hw g1) fun O σ H E D hN hR hB hJ =>
    h O σ H E _ fun v1 vl1 G1 H1 E1 K1 R1 ⟨d1, e1, hb⟩ => by
    subst e1
    refine hb O σ H1 E1 _ fun v2 vl2 G2 H2 E2 K2 R2 ⟨d2, e2, hcc⟩ => ?_
    subst e2
    refine hcc O σ H2 E2 _ fun p xs ds G3 H3 E3 K3 hp ra ⟨o1, o2, o3, q⟩ => ?_
    have r1 : Rep X.K C O H3 v1 d1 := Rep.keep (K3.keep E2) E2.wo (Rep.keep (K2.keep E1) E1.wo R1)
    have r2 : Rep X.K C O H3 v2 d2 := Rep.keep (K3.keep E2) E2.wo R2
    have o2' : okSet (G3.set i (.imm d1)) j = true := by
      unfold okSet at o2 ⊢
      rw [List.getElem?_set_ne hij]
      exact o2
    have o3' : okSet ((G3.set i (.imm d1)).set j (.imm d2)) l = true := by
      unfold okSet at o3 ⊢
      rw [List.getElem?_set_ne hjl, List.getElem?_set_ne hil]
      exact o3
    have E4 := ((E3.setD (i := i) r1).setD (i := j) r2).newOwn (i := l) hp ra
    have K4 := ((((K1.trans (K2.trans K3 E1) E).trans (Kp.setD (v := v1) o1) E).trans (Kp.setD (i := j) (v := v2) (d := d2) o2') E).trans (Kp.newOwn (i := l) (xs := xs) (ds := ds) hp o3') E)
    show [v1, v2, V.ref p].length ≤ sizeLine ∧ _
    refine ⟨show 3 ≤ sizeLine by decide, fun t ht => ⟨t, [v1, v2, .ref p], rfl, .inl (.inl upd_same), rfl, v1, [v2, .ref p], rfl, v2, [.ref p], rfl, .ref p, [], rfl, rfl, ?_⟩⟩
    exact hN _ _ _ _ (E4.ext (same_new ht)) (K4.trans (Kp.ext (same_new ht)) E) q
/-- a list taken apart -/
theorem sg_l {k : Nat} {ds : List PyData} {ts : List Nat} {Q : Ga → Prop} (h : Sr C X es ds G ts Q) (hn : (assignEach es X.env).length = ds.length := by rfl) (hst : (assignEach es X.env).findIdx? (·.1) = none := by rfl) (hc : X.calm = true := by rfl) : Sg C X (.Tuple es k pos) (.list ds) G ts Q := by
  intro O σ H v E r Q' q
  obtain ⟨t, xs, rfl, ht, _, ra⟩ := Rep.lst_inv r
  exact tG_of (pg_lst (n := ds.length) hc (pgs_W es) hn hst) ⟨t, xs, rfl, .inl (.inl ht), ra.1, h O σ H xs E ra Q' q⟩
theorem efr_cut {QF : List PyData → Ga → Prop} (ds : List PyData) (h : Efr C X e G fun v G1 => v = ds ∧ G1 = G) (q : QF ds G) : Efr C X e G QF := fun O σ H E Q' k => h O σ H E Q' fun p xs es G1 H1 E1 K1 hp ra ⟨e1, e2⟩ => k p xs es G1 H1 E1 K1 hp ra (by rw [e1, e2]; exact q)
end
end DL
/-! V9: the law: bent things -/
namespace W
open PySem PySem.Spec PyProof.Rows L2 DL M

def neT : PyData → Bool
  | .tuple (_ :: _) => true
  | _ => false
theorem neT_inv {d : PyData} (h : neT d = true) : ∃ ds, d = .tuple ds ∧ 1 ≤ ds.length := by
  cases d with
  | tuple ds => cases ds with
    | nil => cases h
    | cons x xs => exact ⟨x :: xs, rfl, by simp⟩
  | _ => cases h
theorem Pu.pl {n c : Nat} {d : PyData} (h : Pu n c d) : isPl d = true := by cases h <;> rfl
section
variable {ds : List PyData} {i : Nat} {x e : PyData}
theorem cut_from1 (xs : List PyData) (k : Nat) : cutD xs (some ((k : Int) + 1)) none = xs.drop (k + 1) := cut_from xs (k + 1)
theorem bend_at (hx : ds[i]? = some x) (hb : Bend x e) : Bend (.tuple ds) (.tuple (cutD ds none (some (i : Int)) ++ [e] ++ cutD ds (some ((i : Int) + 1)) none)) := by
  rw [cut_to, cut_from1, List.append_assoc]
  have h1 := cut_at hx
  have h2 := Bend.put (xs := ds.take i) (ys := ds.drop (i + 1)) hb
  rw [← h1] at h2
  exact h2
theorem bend_del (hx : ds[i]? = some x) : Bend (.tuple ds) (.tuple (cutD ds none (some (i : Int)) ++ cutD ds (some ((i : Int) + 1)) none)) := by
  rw [cut_to, cut_from1]
  have h1 := cut_at hx
  have h2 := Bend.del (xs := ds.take i) (ys := ds.drop (i + 1)) (d := x)
  rw [← h1] at h2
  exact h2
theorem bend_dup (hx : ds[i]? = some x) : Bend (.tuple ds) (.tuple (cutD ds none (some (i : Int)) ++ [x] ++ cutD ds (some (i : Int)) none)) := by
  rw [cut_to, cut_from, List.append_assoc]
  have h1 := cut_at hx
  have h2 := Bend.dup (xs := ds.take i) (ys := ds.drop (i + 1)) (d := x)
  rw [← h1] at h2
  have h3 : ds.drop i = x :: ds.drop (i + 1) := by
    obtain ⟨hk, e⟩ := List.getElem?_eq_some_iff.mp hx
    rw [List.drop_eq_getElem_cons hk, e]
  rw [h3]
  exact h2
theorem cut_l1 : (cutD ds none (some (i : Int))).length ≤ ds.length := by
  rw [cut_to, List.length_take]
  omega
theorem cut_l2 : (cutD ds (some ((i : Int) + 1)) none).length ≤ ds.length := by
  rw [cut_from1, List.length_drop]
  omega
theorem cut_l3 : (cutD ds (some (i : Int)) none).length ≤ ds.length := by
  rw [cut_from, List.length_drop]
  omega
theorem dp_pos (h : (PyData.tuple ds).depth ≤ 0) : False := by
  simp only [PyData.depth] at h
  omega
end
theorem sc93 : FnScope ["_law_urn_here", "_law_thing", "_law_way", "_law_at"] ["_law_urn_here", "_law_thing"] (defScope (topS 93)) := ⟨rfl, rfl, rfl, by decide +kernel, rfl, by decide +kernel, by decide +kernel⟩
abbrev T__law_bent (S : Sys) (k : Nat) : Prop := Kn S.P S.w S.K S.mg S.base (k + 4) "_law_bent" ["_law_urn_here", "_law_thing"] (spUA S.K S.C (α := Nat × PyData) (fun q => [q.2]) (fun q cs => Ur q.1 cs ∧ q.1 + 2 * (k + 1) ≤ 1000000 ∧ Pu 2999 59 q.2 ∧ q.2.depth ≤ k) (fun q _ d cs => Bend q.2 d ∧ Ur (q.1 + 2 * (k + 1)) cs))
theorem s__law_bent {S : Sys} (A : At S.K S.mg "_law_bent" (topS 93)) (B : Bt S.mg) (g : Gv S.K S.mg) (k__law_pull : T__law_pull S) (k__law_pick : T__law_pick S) (k__law_spare : T__law_spare S) (k : Nat) (rec : ∀ j, j + 1 = k → T__law_bent S j) : T__law_bent S k := by
  refine kn_U A sc93 (fun _ _ _ => rfl) (b2 fun _ _ _ _ _ _ _ _ => rfl) fun f cdv A outer s H E a cs hr hp => ?_
  obtain ⟨n, th⟩ := a
  obtain ⟨hu, hn, hpu, hdp⟩ := hp
  have hn : n + 2 * (k + 1) ≤ 1000000 := hn
  have hpu : Pu 2999 59 th := hpu
  have hdp : th.depth ≤ k := hdp
  refine ss_set 2 ?_ rfl sc93.nd
  refine ef_cU 0 k__law_pull (hr.mono (by omega)) ?_
  refine ea_cons ?_
  refine ef_o 0 rfl rfl ?_
  refine ⟨⟨_, rfl⟩, ?_⟩
  refine ea_d ?_
  refine ef_int ?_
  refine ⟨_, rfl, ?_⟩
  refine ea_nil ?_
  refine ⟨_, _, (n, 8), rfl, rfl, rfl, ⟨hu, by show n + 1 ≤ 1000000; omega, show 1 ≤ 8 by decide, show 8 ≤ 100000 by decide⟩, fun d cs hd => ?_⟩
  obtain ⟨w, rfl, hw, hu1⟩ := hd
  refine ⟨_, rfl, rfl, ?_⟩
  refine ss_if ?_
  refine et_cut (neT th && decide ((w : Int) < 7)) ?_ ?_
  ·
    refine et_w ?_
    refine ew_and ?_
    refine et_v ?_
    refine ef_isTup B ?_
    refine ef_i 1 rfl ?_
    refine ⟨_, rfl, hpu.pl, ?_⟩
    refine ⟨_, rfl, ?_⟩
    refine ⟨fun hk => ?_, fun hk => ?_⟩
    · exact ⟨(by cases th <;> first | rfl | cases hk), rfl⟩
    refine ew_and ?_
    refine et_c ?_
    obtain ⟨ds, rfl⟩ := isTup_inv hk
    refine ec_neE hr ?_
    refine ef_i 1 rfl ?_
    refine ⟨_, rfl, ?_⟩
    refine ef_tup ?_
    refine ea_nil ?_
    refine ⟨[], rfl, show 0 ≤ sizeLine by decide, ?_⟩
    refine ⟨_, rfl, rfl, ?_⟩
    refine ⟨_, rfl, ?_⟩
    refine ⟨fun hk => ?_, fun hk => ?_⟩
    · exact ⟨(by cases ds <;> first | rfl | simp at hk), rfl⟩
    refine ew_one_and ?_
    refine et_c ?_
    refine ec_lt ?_
    refine ef_i 2 rfl ?_
    refine ⟨_, rfl, ?_⟩
    refine ef_int ?_
    refine ⟨_, _, rfl, rfl, ?_⟩
    refine ⟨_, rfl, ?_⟩
    exact ⟨(by show decide ((w : Int) < 7) = (neT (.tuple ds) && decide ((w : Int) < 7)); cases ds <;> first | rfl | simp at hk), rfl⟩
  refine ⟨fun hk => ?_, fun hk => ?_⟩
  ·
    rw [Bool.and_eq_true] at hk
    obtain ⟨ds, rfl, hl1⟩ := neT_inv hk.1
    have hmem := hpu.mem
    have hl2 := hmem.2.1
    refine ss_set 3 ?_ rfl sc93.nd
    refine ef_cU 0 k__law_pull (hr.mono (by omega)) ?_
    refine ea_cons ?_
    refine ef_o 0 rfl rfl ?_
    refine ⟨⟨_, rfl⟩, ?_⟩
    refine ea_d ?_
    refine ef_len B ?_
    refine ef_i 1 rfl ?_
    refine ⟨_, (by first | exact .inr rfl | exact .inl rfl | exact ⟨_, rfl, rfl⟩), ?_⟩
    refine ⟨_, rfl, ?_⟩
    refine ea_nil ?_
    refine ⟨_, _, (n + 1, ds.length), rfl, rfl, rfl, ⟨hu1, by show n + 1 + 1 ≤ 1000000; omega, hl1, by show ds.length ≤ 100000; omega⟩, fun d cs hd => ?_⟩
    obtain ⟨i, rfl, hi, hu2⟩ := hd
    obtain ⟨x, hx⟩ : ∃ x, ds[i]? = some x := ⟨ds[i], List.getElem?_eq_getElem hi⟩
    have hxm := List.mem_of_getElem? hx
    have cl1 := cut_l1 (ds := ds) (i := i)
    have cl2 := cut_l2 (ds := ds) (i := i)
    have cl3 := cut_l3 (ds := ds) (i := i)
    refine ⟨_, rfl, rfl, ?_⟩
    refine ss_if ?_
    refine et_c ?_
    refine ec_lt ?_
    refine ef_i 2 rfl ?_
    refine ⟨_, rfl, ?_⟩
    refine ef_int ?_
    refine ⟨_, _, rfl, rfl, ?_⟩
    refine ⟨_, rfl, ?_⟩
    refine ⟨fun hk => ?_, fun hk => ?_⟩
    ·
      refine ss_retD ?_
      refine ef_addT ?_
      refine ef_addT ?_
      refine ef_slT ?_
      refine ef_i 1 rfl ?_
      refine ⟨_, rfl, ?_⟩
      refine eo_none ?_
      refine eo_some ?_
      refine ef_i 3 rfl ?_
      refine ⟨_, rfl, ?_⟩
      refine ⟨_, rfl, ?_⟩
      refine ⟨_, rfl, ?_⟩
      refine ef_tup ?_
      refine ea_d ?_
      obtain ⟨j, rfl⟩ : ∃ j, k = j + 1 := ⟨k - 1, by cases k with | zero => exact (dp_pos hdp).elim | succ k => rfl⟩
      have k__law_bent := rec j rfl
      refine ef_cU 0 k__law_bent (hr.mono (by omega)) ?_
      refine ea_cons ?_
      refine ef_o 0 rfl rfl ?_
      refine ⟨⟨_, rfl⟩, ?_⟩
      refine ea_d ?_
      refine ef_ixT ?_
      refine ef_i 1 rfl ?_
      refine ⟨_, rfl, ?_⟩
      refine ef_i 3 rfl ?_
      refine ⟨_, _, _, rfl, rfl, (atI_of hx), ?_⟩
      refine ⟨_, rfl, ?_⟩
      refine ea_nil ?_
      refine ⟨_, _, (n + 2, x), rfl, rfl, rfl, ⟨hu2, by show n + 2 + 2 * (j + 1) ≤ 1000000; omega, hmem.1 x hxm, dpT.mp hdp x hxm⟩, fun d cs hd => ?_⟩
      obtain ⟨hb, hu3⟩ := hd
      refine ⟨_, rfl, ?_⟩
      refine ea_nil ?_
      refine ⟨[_], rfl, show 1 ≤ sizeLine by decide, ?_⟩
      refine ⟨_, _, rfl, rfl, (by show (cutD ds none (some (i : Int))).length + 1 ≤ sizeLine; rw [sizeLine_eq]; omega), ?_⟩
      refine ⟨_, rfl, ?_⟩
      refine ef_slT ?_
      refine ef_i 1 rfl ?_
      refine ⟨_, rfl, ?_⟩
      refine eo_some ?_
      refine ef_add ?_
      refine ef_i 3 rfl ?_
      refine ⟨_, rfl, ?_⟩
      refine ef_int ?_
      refine ⟨_, _, rfl, rfl, ?_⟩
      refine ⟨_, rfl, ?_⟩
      refine eo_none ?_
      refine ⟨_, rfl, ?_⟩
      refine ⟨_, _, rfl, rfl, (by rw [List.length_append]; show (cutD ds none (some (i : Int))).length + 1 + (cutD ds (some ((i : Int) + 1)) none).length ≤ sizeLine; rw [sizeLine_eq]; omega), ?_⟩
      refine ⟨_, rfl, ?_⟩
      exact fun cs2 e => by cases e; exact ⟨bend_at hx hb, hu3.mono (by show n + 2 + 2 * (j + 1) ≤ n + 2 * (j + 1 + 1); omega)⟩
    refine ss_nil ?_
    refine ss_if ?_
    refine et_c ?_
    refine ec_eqI ?_
    refine ef_i 2 rfl ?_
    refine ⟨_, rfl, ?_⟩
    refine ef_int ?_
    refine ⟨_, _, rfl, rfl, ?_⟩
    refine ⟨_, rfl, ?_⟩
    refine ⟨fun hk => ?_, fun hk => ?_⟩
    ·
      refine ss_retD ?_
      refine ef_addT ?_
      refine ef_slT ?_
      refine ef_i 1 rfl ?_
      refine ⟨_, rfl, ?_⟩
      refine eo_none ?_
      refine eo_some ?_
      refine ef_i 3 rfl ?_
      refine ⟨_, rfl, ?_⟩
      refine ⟨_, rfl, ?_⟩
      refine ⟨_, rfl, ?_⟩
      refine ef_slT ?_
      refine ef_i 1 rfl ?_
      refine ⟨_, rfl, ?_⟩
      refine eo_some ?_
      refine ef_add ?_
      refine ef_i 3 rfl ?_
      refine ⟨_, rfl, ?_⟩
      refine ef_int ?_
      refine ⟨_, _, rfl, rfl, ?_⟩
      refine ⟨_, rfl, ?_⟩
      refine eo_none ?_
      refine ⟨_, rfl, ?_⟩
      refine ⟨_, _, rfl, rfl, (by  rw [sizeLine_eq]; omega), ?_⟩
      refine ⟨_, rfl, ?_⟩
      exact fun cs2 e => by cases e; exact ⟨bend_del hx, hu2.mono (by show n + 1 + 1 ≤ n + 2 * (k + 1); omega)⟩
    refine ss_nil ?_
    refine ss_retD ?_
    refine ef_cut (if (w : Int) = 5 then .tuple (cutD ds none (some (i : Int)) ++ [x] ++ cutD ds (some (i : Int)) none) else .tuple ds.reverse) ?_ ?_
    ·
      refine ef_if ?_
      refine et_c ?_
      refine ec_eqI ?_
      refine ef_i 2 rfl ?_
      refine ⟨_, rfl, ?_⟩
      refine ef_int ?_
      refine ⟨_, _, rfl, rfl, ?_⟩
      refine ⟨_, rfl, ?_⟩
      refine ⟨fun hk => ?_, fun hk => ?_⟩
      ·
        refine ef_addT ?_
        refine ef_addT ?_
        refine ef_slT ?_
        refine ef_i 1 rfl ?_
        refine ⟨_, rfl, ?_⟩
        refine eo_none ?_
        refine eo_some ?_
        refine ef_i 3 rfl ?_
        refine ⟨_, rfl, ?_⟩
        refine ⟨_, rfl, ?_⟩
        refine ⟨_, rfl, ?_⟩
        refine ef_tup ?_
        refine ea_d ?_
        refine ef_ixT ?_
        refine ef_i 1 rfl ?_
        refine ⟨_, rfl, ?_⟩
        refine ef_i 3 rfl ?_
        refine ⟨_, _, _, rfl, rfl, (atI_of hx), ?_⟩
        refine ⟨_, rfl, ?_⟩
        refine ea_nil ?_
        refine ⟨[_], rfl, show 1 ≤ sizeLine by decide, ?_⟩
        refine ⟨_, _, rfl, rfl, (by show (cutD ds none (some (i : Int))).length + 1 ≤ sizeLine; rw [sizeLine_eq]; omega), ?_⟩
        refine ⟨_, rfl, ?_⟩
        refine ef_slT ?_
        refine ef_i 1 rfl ?_
        refine ⟨_, rfl, ?_⟩
        refine eo_some ?_
        refine ef_i 3 rfl ?_
        refine ⟨_, rfl, ?_⟩
        refine eo_none ?_
        refine ⟨_, rfl, ?_⟩
        refine ⟨_, _, rfl, rfl, (by rw [List.length_append]; show (cutD ds none (some (i : Int))).length + 1 + (cutD ds (some (i : Int)) none).length ≤ sizeLine; rw [sizeLine_eq]; omega), ?_⟩
        exact ⟨(by rw [if_pos (of_decide_eq_true hk)]), rfl⟩
      ·
        refine ef_rev ?_
        refine ef_i 1 rfl ?_
        refine ⟨_, rfl, ?_⟩
        exact ⟨(by rw [if_neg (of_decide_eq_false hk)]), rfl⟩
    refine ⟨_, rfl, ?_⟩
    exact fun cs2 e => by cases e; refine ⟨?_, hu2.mono (by show n + 1 + 1 ≤ n + 2 * (k + 1); omega)⟩; split; exact bend_dup hx; exact .rev
  refine ss_nil ?_
  refine ss_if ?_
  refine et_cut (isWh th && decide ((w : Int) < 7)) ?_ ?_
  ·
    refine et_w ?_
    refine ew_and ?_
    refine et_v ?_
    refine ef_isInt B ?_
    refine ef_i 1 rfl ?_
    refine ⟨_, rfl, hpu.pl, ?_⟩
    refine ⟨_, rfl, ?_⟩
    refine ⟨fun hk => ?_, fun hk => ?_⟩
    · exact ⟨(by cases th <;> first | rfl | cases hk), rfl⟩
    refine ew_and ?_
    refine et_not ?_
    refine et_v ?_
    refine ef_isBool B ?_
    refine ef_i 1 rfl ?_
    refine ⟨_, rfl, hpu.pl, ?_⟩
    refine ⟨_, rfl, ?_⟩
    refine ⟨fun hk => ?_, fun hk => ?_⟩
    · exact ⟨(by cases th <;> first | rfl | cases hk), rfl⟩
    refine ew_one_and ?_
    refine et_c ?_
    refine ec_lt ?_
    refine ef_i 2 rfl ?_
    refine ⟨_, rfl, ?_⟩
    refine ef_int ?_
    refine ⟨_, _, rfl, rfl, ?_⟩
    refine ⟨_, rfl, ?_⟩
    exact ⟨(by rename_i hk1; cases th <;> first | rfl | (cases hk1; done) | (cases hk; done)), rfl⟩
  refine ⟨fun hk => ?_, fun hk => ?_⟩
  ·
    refine ss_retD ?_
    obtain ⟨q, rfl⟩ : ∃ q, th = .int q := by rw [Bool.and_eq_true] at hk; exact isWh_inv hk.1
    refine ef_add ?_
    refine ef_i 1 rfl ?_
    refine ⟨_, rfl, ?_⟩
    refine ef_cU 0 k__law_pick (hr.mono (by omega)) ?_
    refine ea_cons ?_
    refine ef_o 0 rfl rfl ?_
    refine ⟨⟨_, rfl⟩, ?_⟩
    refine ea_d ?_
    refine ef_lst ?_
    refine ea_d ?_
    refine ef_int ?_
    refine ⟨_, rfl, ?_⟩
    refine ea_d ?_
    refine ef_neg ?_
    refine ef_int ?_
    refine ⟨_, rfl, ?_⟩
    refine ⟨_, rfl, ?_⟩
    refine ea_nil ?_
    refine ⟨[_, _], rfl, show 2 ≤ sizeLine by decide, ?_⟩
    refine ⟨_, rfl, ?_⟩
    refine ea_nil ?_
    refine ⟨_, _, (n + 1, [.int 1, .int (-1)]), rfl, rfl, rfl, ⟨hu1, by show n + 1 + 1 ≤ 1000000; omega, by show 1 ≤ 2; decide, by show 2 ≤ 100000; decide⟩, fun d cs hd => ?_⟩
    obtain ⟨hm, hu2⟩ := hd
    have hz : d = .int 1 ∨ d = .int (-1) := by simpa using hm
    obtain ⟨z, rfl, hbz⟩ : ∃ z, d = .int z ∧ Bend (.int q) (.int (q + z)) := by rcases hz with h | h; exact ⟨1, h, .up q⟩; exact ⟨-1, h, .dn q⟩
    refine ⟨_, _, rfl, rfl, ?_⟩
    refine ⟨_, rfl, ?_⟩
    exact fun cs2 e => by cases e; exact ⟨hbz, hu2.mono (by show n + 1 + 1 ≤ n + 2 * (k + 1); omega)⟩
  refine ss_nil ?_
  refine ss_retD ?_
  refine ef_cU 0 k__law_spare (hr.mono (by omega)) ?_
  refine ea_cons ?_
  refine ef_o 0 rfl rfl ?_
  refine ⟨⟨_, rfl⟩, ?_⟩
  refine ea_nil ?_
  refine ⟨_, _, n + 1, rfl, rfl, rfl, ⟨hu1, by show n + 1 + 1 ≤ 1000000; omega⟩, fun d cs hd => ?_⟩
  refine ⟨_, rfl, ?_⟩
  exact fun cs2 e => by cases e; exact ⟨.spare hd.1, hd.2.mono (by show n + 1 + 1 ≤ n + 2 * (k + 1); omega)⟩
theorem w__law_bent {S : Sys} (A : At S.K S.mg "_law_bent" (topS 93)) (B : Bt S.mg) (g : Gv S.K S.mg) (k__law_pull : T__law_pull S) (k__law_pick : T__law_pick S) (k__law_spare : T__law_spare S) : ∀ k, T__law_bent S k
  | 0 => s__law_bent A B g k__law_pull k__law_pick k__law_spare 0 fun j h => nomatch h
  | k + 1 => s__law_bent A B g k__law_pull k__law_pick k__law_spare (k + 1) fun j h => by
    cases h
    exact w__law_bent A B g k__law_pull k__law_pick k__law_spare k
end W
/-! PC: names, as the law makes them. -/
namespace W
open PySem PySem.Spec PyProof.Rows L2 DL M TL
def ch (c : Nat) : Str := ⟨#[c]⟩
theorem tl_ch (c : Nat) : tl (ch c) = [c] := rfl
theorem tl_len (z : Str) : (tl z).length = z.length := (len_tl z).symm
theorem tl_cut_to (z : Str) (k : Nat) : tl (cutS z none (some (k : Int))) = (tl z).take k := by
  show (z.cps.toList.drop (HT.sIx z.length 0 none)).take (HT.sIx z.length z.length (some (k : Int)) - HT.sIx z.length 0 none) = z.cps.toList.take k
  rw [sIx_nat', HT.sIx_none, List.drop_zero, Nat.sub_zero]
  have hl : z.cps.toList.length = z.length := tl_len z
  by_cases h : k ≤ z.length
  · rw [Nat.min_eq_left h]
  · rw [Nat.min_eq_right (by omega), List.take_of_length_le (by omega), List.take_of_length_le (by omega)]
theorem tl_cut_from (z : Str) (k : Nat) : tl (cutS z (some (k : Int)) none) = (tl z).drop k := by
  show (z.cps.toList.drop (HT.sIx z.length 0 (some (k : Int)))).take (HT.sIx z.length z.length none - HT.sIx z.length 0 (some (k : Int))) = z.cps.toList.drop k
  rw [sIx_nat', HT.sIx_none]
  have hl : z.cps.toList.length = z.length := tl_len z
  by_cases h : k ≤ z.length
  · rw [Nat.min_eq_left h, List.take_of_length_le (by rw [List.length_drop]; omega)]
  · rw [Nat.min_eq_right (by omega), List.drop_of_length_le (by omega), List.drop_of_length_le (by omega), List.take_nil]
theorem signsD_map (z : Str) : signsD z = (tl z).map fun c => PyData.str (ch c) := rfl
def lets : List Nat := tl "abcdefghijklmnopqrstuvwxyz"
def figs : List Nat := tl "0123456789"
theorem lets_ok {c : Nat} (h : c ∈ lets) : isL c := by
  have : (lets.all fun c => decide (97 ≤ c ∧ c ≤ 122)) = true := by decide +kernel
  exact show 97 ≤ c ∧ c ≤ 122 from of_decide_eq_true (List.all_eq_true.mp this c h)
theorem figs_ok {c : Nat} (h : c ∈ figs) : isG c := by
  have : (figs.all fun c => decide (48 ≤ c ∧ c ≤ 57)) = true := by decide +kernel
  exact show 48 ≤ c ∧ c ≤ 57 from of_decide_eq_true (List.all_eq_true.mp this c h)
theorem lets_nd : lets.Nodup := by decide +kernel
theorem lf_nd : (lets ++ figs).Nodup := by decide +kernel
theorem lets_len : lets.length = 26 := by decide +kernel
theorem figs_len : figs.length = 10 := by decide +kernel
/-- a beginning of a name -/
structure StOk (z : Str) : Prop where
  all : ∀ c ∈ tl z, isL c ∨ isG c
  fst : ∀ c, (tl z)[0]? = some c → isL c
theorem StOk.nm {z : Str} (h : StOk z) (h1 : 1 ≤ (tl z).length) (h8 : (tl z).length ≤ 8) : NmOk z where
  lo := by rw [tl_len] at h1; exact h1
  hi := by rw [tl_len] at h8; exact h8
  fst := ⟨(tl z)[0], List.getElem?_eq_getElem h1, h.fst _ (List.getElem?_eq_getElem h1)⟩
  all := h.all
theorem StOk.nil : StOk "" := by
  have e : tl ("" : Str) = [] := by decide +kernel
  exact ⟨fun c h => (by rw [e] at h; cases h), fun c h => (by rw [e] at h; cases h)⟩
theorem StOk.add {z : Str} {c : Nat} (h : StOk z) (hc : isL c ∨ isG c) (h0 : (tl z).length = 0 → isL c) : StOk (z ++ ch c) := by
  refine ⟨fun x hx => ?_, fun x hx => ?_⟩
  · rw [tl_append, tl_ch] at hx
    rcases List.mem_append.mp hx with hx | hx
    · exact h.all x hx
    · rw [List.mem_singleton] at hx
      rw [hx]
      exact hc
  · rw [tl_append, tl_ch] at hx
    by_cases q : (tl z).length = 0
    · have e : tl z = [] := List.length_eq_zero_iff.mp q
      rw [e] at hx
      simp at hx
      rw [← hx]
      exact h0 q
    · rw [List.getElem?_append_left (by omega)] at hx
      exact h.fst x hx
theorem StOk.take {z : Str} (h : StOk z) (k : Nat) : StOk (cutS z none (some (k : Int))) := by
  refine ⟨fun x hx => ?_, fun x hx => ?_⟩
  · rw [tl_cut_to] at hx
    exact h.all x (List.mem_of_mem_take hx)
  · rw [tl_cut_to, List.getElem?_take] at hx
    split at hx
    · exact h.fst x hx
    · cases hx
def mkN (z : Str) (k c : Nat) : Str := cutS z none (some (k : Int)) ++ ch c ++ cutS z (some ((k : Int) + 1)) none
theorem tl_mkN (z : Str) (k c : Nat) : tl (mkN z k c) = (tl z).take k ++ [c] ++ (tl z).drop (k + 1) := by
  unfold mkN
  rw [tl_append, tl_append, tl_ch, tl_cut_to]
  have := tl_cut_from z (k + 1)
  rw [show ((k : Int) + 1) = ((k + 1 : Nat) : Int) from rfl, this]
theorem mkN_nm {z : Str} {k c : Nat} (h : StOk z) (h1 : k < (tl z).length) (h8 : (tl z).length ≤ 8) (hc : isL c ∨ isG c) (h0 : k = 0 → isL c) : NmOk (mkN z k c) := by
  have e := tl_mkN z k c
  have hl : (tl (mkN z k c)).length = (tl z).length := by
    rw [e, List.length_append, List.length_append, List.length_take, List.length_drop, List.length_singleton]
    omega
  refine StOk.nm ⟨fun x hx => ?_, fun x hx => ?_⟩ (by omega) (by omega)
  · rw [e] at hx
    rcases List.mem_append.mp hx with hx | hx
    · rcases List.mem_append.mp hx with hx | hx
      · exact h.all x (List.mem_of_mem_take hx)
      · rw [List.mem_singleton] at hx
        rw [hx]
        exact hc
    · exact h.all x (List.mem_of_mem_drop hx)
  · rw [e, List.append_assoc] at hx
    by_cases q : k = 0
    · subst q
      simp at hx
      rw [← hx]
      exact h0 rfl
    · rw [List.getElem?_append_left (by rw [List.length_take]; omega), List.getElem?_take, if_pos (by omega)] at hx
      exact h.fst x hx
theorem mkN_inj {z : Str} {k c d : Nat} (h : mkN z k c = mkN z k d) : c = d := by
  have e := congrArg tl h
  rw [tl_mkN, tl_mkN, List.append_assoc, List.append_assoc] at e
  have e2 := List.append_cancel_left e
  exact (List.cons.inj e2).1
/-! things popped -/
structure Pop {α : Type} (all : List α) (i : Nat) (found left : List α) : Prop where
  perm : (found ++ left).Perm all
  len : found.length = i
section
variable {α β : Type} {all found left : List α} {i k : Nat} {x : α}
theorem Pop.start : Pop all 0 [] all := ⟨List.Perm.refl _, rfl⟩
theorem Pop.step (h : Pop all i found left) (hx : left[k]? = some x) : Pop all (i + 1) (found ++ [x]) (left.eraseIdx k) := by
  obtain ⟨hk, e⟩ := List.getElem?_eq_some_iff.mp hx
  refine ⟨?_, by rw [List.length_append, h.len]; rfl⟩
  have h1 : (x :: left.eraseIdx k).Perm left := by
    have h2 := List.take_append_drop k left
    rw [List.drop_eq_getElem_cons hk, e] at h2
    rw [List.eraseIdx_eq_take_drop_succ]
    exact List.perm_middle.symm.trans (by rw [h2])
  rw [List.append_assoc]
  exact (List.Perm.append_left found h1).trans h.perm
theorem Pop.left_len (h : Pop all i found left) : i + left.length = all.length := by
  have := h.perm.length_eq
  rw [List.length_append, h.len] at this
  exact this
theorem Pop.nd (h : Pop all i found left) (nd : all.Nodup) : found.Nodup := (List.nodup_append.mp (h.perm.nodup_iff.mpr nd)).1
theorem Pop.mem (h : Pop all i found left) {y : α} (m : y ∈ found) : y ∈ all := h.perm.mem_iff.mp (List.mem_append_left _ m)
theorem map_erase (f : α → β) : ∀ (l : List α) (k : Nat), (l.map f).eraseIdx k = (l.eraseIdx k).map f
  | [], _ => rfl
  | _ :: _, 0 => rfl
  | x :: xs, k + 1 => by
    rw [List.map_cons, List.eraseIdx_cons_succ, List.eraseIdx_cons_succ, List.map_cons, map_erase f xs k]
end
def words7 : List Str := ["party", "pile", "divisors", "can", "none", "alike", "x1"]
theorem words7_nd : words7.Nodup := by decide +kernel
def nmB (z : Str) : Bool := decide (1 ≤ (tl z).length) && decide ((tl z).length ≤ 8) && ((tl z).all fun c => decide (97 ≤ c ∧ c ≤ 122) || decide (48 ≤ c ∧ c ≤ 57)) && (match (tl z)[0]? with | some c => decide (97 ≤ c ∧ c ≤ 122) | none => true)
theorem nmB_ok {z : Str} (h : nmB z = true) : NmOk z := by
  unfold nmB at h
  simp only [Bool.and_eq_true, decide_eq_true_eq, List.all_eq_true, Bool.or_eq_true] at h
  obtain ⟨⟨⟨h1, h2⟩, h3⟩, h4⟩ := h
  refine StOk.nm ⟨h3, fun c hc => ?_⟩ h1 h2
  rw [hc] at h4
  exact show 97 ≤ c ∧ c ≤ 122 from of_decide_eq_true h4
theorem words7_nm {z : Str} (h : z ∈ words7) : NmOk z := by
  have : (words7.all nmB) = true := by decide +kernel
  exact nmB_ok (List.all_eq_true.mp this z h)
theorem len_app (x y : Str) : (x ++ y).length = x.length + y.length := by rw [← tl_len, tl_append, List.length_append, tl_len, tl_len]
theorem pop_at {α β : Type} {f : α → β} {l : List α} {k : Nat} {x : α} (h : l[k]? = some x) : (l.map f)[k]? = some (f x) := by
  rw [List.getElem?_map, h]
  rfl
theorem pick_ch {i : Int} {d : PyData} (h : d ∈ if i = 0 then signsD "abcdefghijklmnopqrstuvwxyz" else signsD "abcdefghijklmnopqrstuvwxyz" ++ signsD "0123456789") : ∃ c, d = .str (ch c) ∧ (isL c ∨ isG c) ∧ (i = 0 → isL c) := by
  by_cases q : i = 0
  · rw [if_pos q, signsD_map] at h
    obtain ⟨c, hc, rfl⟩ := List.mem_map.mp h
    exact ⟨c, rfl, .inl (lets_ok hc), fun _ => lets_ok hc⟩
  · rw [if_neg q, signsD_map, signsD_map] at h
    rcases List.mem_append.mp h with h | h
    · obtain ⟨c, hc, rfl⟩ := List.mem_map.mp h
      exact ⟨c, rfl, .inl (lets_ok hc), fun _ => lets_ok hc⟩
    · obtain ⟨c, hc, rfl⟩ := List.mem_map.mp h
      exact ⟨c, rfl, .inr (figs_ok hc), fun e => absurd e q⟩
theorem sub9 {a : Vl} {b m : Nat} (h : m ≤ b) : [a, Vl.d (.int ((b : Int) - (m : Int)))] = a :: [natD (b - m)].map Vl.d := by
  have : ((b : Int) - (m : Int)) = ((b - m : Nat) : Int) := by omega
  rw [this]
  rfl
def bgF (z : Str) (s : Int) : PyData → PyData
  | .int t => .str (cutS z none (some (s + t)))
  | _ => .none
theorem nm_row {z : Str} {s m : Nat} (h : StOk z) (hl : (tl z).length = 8) (h1 : 1 ≤ s) (h8 : s + m ≤ 9) : ∃ ss : List Str, PyData.list ((rngD ((m : Int)).toNat).map (bgF z (s : Int))) = .list (ss.map .str) ∧ ss.length = m ∧ ss.Nodup ∧ ∀ y ∈ ss, NmOk y := by
  have tln : ∀ t : Nat, s + t ≤ 8 → (tl (cutS z none (some ((s : Int) + (t : Int))))).length = s + t := fun t ht => by
    have := tl_cut_to z (s + t)
    rw [show ((s : Int) + (t : Int)) = ((s + t : Nat) : Int) from rfl, this, List.length_take]
    omega
  refine ⟨(List.range m).map fun (t : Nat) => cutS z none (some ((s : Int) + (t : Int))), ?_, by rw [List.length_map, List.length_range], ?_, fun y hy => ?_⟩
  · rw [Int.toNat_natCast, List.map_map]
    unfold rngD
    rw [List.map_map]
    rfl
  · refine List.pairwise_map.mpr (List.Pairwise.imp_of_mem (fun {a b} ha hb hab e => ?_) List.pairwise_lt_range)
    have h2 := congrArg (fun q => (tl q).length) e
    have ha := List.mem_range.mp ha
    have hb := List.mem_range.mp hb
    rw [tln a (by omega), tln b (by omega)] at h2
    omega
  · obtain ⟨t, ht, rfl⟩ := List.mem_map.mp hy
    have ht := List.mem_range.mp ht
    have h2 := tln t (by omega)
    exact StOk.nm (h.take (s + t)) (by omega) (by omega)
def chD (c : Nat) : PyData := .str (ch c)
def allC (sp : Nat) : List Nat := if (sp : Int) = 0 then lets else lets ++ figs
theorem allC_len (sp : Nat) : 26 ≤ (allC sp).length ∧ (allC sp).length ≤ 36 := by
  unfold allC
  split <;> decide +kernel
theorem allC_nd (sp : Nat) : (allC sp).Nodup := by
  unfold allC
  split
  · exact lets_nd
  · exact lf_nd
theorem allC_ok {sp c : Nat} (h : c ∈ allC sp) : (isL c ∨ isG c) ∧ (sp = 0 → isL c) := by
  unfold allC at h
  split at h
  · exact ⟨.inl (lets_ok h), fun _ => lets_ok h⟩
  · rename_i q
    rcases List.mem_append.mp h with h | h
    · exact ⟨.inl (lets_ok h), fun _ => lets_ok h⟩
    · exact ⟨.inr (figs_ok h), fun e => absurd (by omega) q⟩
theorem chosen {z : Str} {sp m : Nat} {found left : List Nat} (h : StOk z) (h1 : sp < (tl z).length) (h8 : (tl z).length ≤ 8) (hp : Pop (allC sp) m found left) : ∃ ss : List Str, PyData.list (found.map fun c => PyData.str (mkN z sp c)) = .list (ss.map .str) ∧ ss.length = m ∧ ss.Nodup ∧ ∀ y ∈ ss, NmOk y := by
  refine ⟨found.map (mkN z sp), by rw [List.map_map]; rfl, by rw [List.length_map, hp.len], List.pairwise_map.mpr ((hp.nd (allC_nd sp)).imp fun q e => q (mkN_inj e)), fun y hy => ?_⟩
  obtain ⟨c, hc, rfl⟩ := List.mem_map.mp hy
  have := allC_ok (hp.mem hc)
  exact mkN_nm h h1 h8 this.1 this.2
end W
/-! V10: the law: names -/
namespace W
open PySem PySem.Spec PyProof.Rows L2 DL M TL

theorem sc74 : FnScope ["_law_urn_here", "_law_much", "_law_way", "_law_stem", "_law_found", "_law_words", "_law_turn", "_law_letters", "_law_figures", "_law_start", "_law_spot", "_law_left"] ["_law_urn_here", "_law_much"] (defScope (topS 74)) := ⟨rfl, rfl, rfl, by decide +kernel, rfl, by decide +kernel, by decide +kernel⟩
abbrev T__law_called (S : Sys) : Prop := Kn S.P S.w S.K S.mg S.base 3 "_law_called" ["_law_urn_here", "_law_much"] (spUA S.K S.C (α := Nat × Nat) (fun q => [natD q.2]) (fun q cs => Ur q.1 cs ∧ q.1 + 14 ≤ 1000000 ∧ 1 ≤ q.2 ∧ q.2 ≤ 3) (fun q _ d cs => (∃ ss : List Str, d = .list (ss.map .str) ∧ ss.length = q.2 ∧ ss.Nodup ∧ ∀ y ∈ ss, NmOk y) ∧ Ur (q.1 + 14) cs))
theorem w__law_called {S : Sys} (A : At S.K S.mg "_law_called" (topS 74)) (B : Bt S.mg) (g : Gv S.K S.mg) (k__law_pull : T__law_pull S) (k__law_pick : T__law_pick S) : T__law_called S := by
  refine kn_U A sc74 (fun _ _ _ => rfl) (b2 fun _ _ _ _ _ _ _ _ => rfl) fun f cdv A outer s H E a cs hr hp => ?_
  obtain ⟨n, m⟩ := a
  obtain ⟨hu, hn, hm1, hm3⟩ := hp
  have hn : n + 14 ≤ 1000000 := hn
  have hm1 : 1 ≤ m := hm1
  have hm3 : m ≤ 3 := hm3
  refine ss_asg3O 2 3 4 ?_ sc74.nd
  refine ef_cU 0 k__law_pull (hr.mono (by omega)) ?_
  refine ea_cons ?_
  refine ef_o 0 rfl rfl ?_
  refine ⟨⟨_, rfl⟩, ?_⟩
  refine ea_d ?_
  refine ef_int ?_
  refine ⟨_, rfl, ?_⟩
  refine ea_nil ?_
  refine ⟨_, _, (n, 4), rfl, rfl, rfl, ⟨hu, (by show n + 1 ≤ 1000000; omega), show 1 ≤ 4 by decide, show 4 ≤ 100000 by decide⟩, fun d cs hd => ?_⟩
  obtain ⟨w, rfl, hw, hu1⟩ := hd
  refine ⟨_, rfl, ?_⟩
  refine ef_str ?_
  refine ⟨_, rfl, ?_⟩
  refine efr_lst ?_
  refine ea_nil ?_
  refine ⟨[], rfl, show 0 ≤ sizeLine by decide, ?_⟩
  refine ⟨rfl, rfl, rfl, ?_⟩
  refine ss_if ?_
  refine et_c ?_
  refine ec_eqI ?_
  refine ef_i 2 rfl ?_
  refine ⟨_, rfl, ?_⟩
  refine ef_int ?_
  refine ⟨_, _, rfl, rfl, ?_⟩
  refine ⟨_, rfl, ?_⟩
  refine ⟨fun hk => ?_, fun hk => ?_⟩
  ·
    refine ss_fr 5 ?_ rfl sc74.nd
    refine efr_lst ?_
    refine ea_d ?_
    refine ef_str ?_
    refine ⟨_, rfl, ?_⟩
    refine ea_d ?_
    refine ef_str ?_
    refine ⟨_, rfl, ?_⟩
    refine ea_d ?_
    refine ef_str ?_
    refine ⟨_, rfl, ?_⟩
    refine ea_d ?_
    refine ef_str ?_
    refine ⟨_, rfl, ?_⟩
    refine ea_d ?_
    refine ef_str ?_
    refine ⟨_, rfl, ?_⟩
    refine ea_d ?_
    refine ef_str ?_
    refine ⟨_, rfl, ?_⟩
    refine ea_d ?_
    refine ef_str ?_
    refine ⟨_, rfl, ?_⟩
    refine ea_nil ?_
    refine ⟨[_, _, _, _, _, _, _], rfl, show 7 ≤ sizeLine by decide, ?_⟩
    refine ⟨rfl, ?_⟩
    refine ss_for (ts := [6]) ?_
    refine ei_r B ?_
    refine ef_i 1 rfl ?_
    refine ⟨_, rfl, (by show (m : Int) ≤ _; omega), (by show _ ≤ (m : Int); omega), ?_⟩
    refine ⟨(fun i G' => ∃ cs found left, G' = [.urn cs, .imm (natD m), .imm (natD w), .imm (.str ""), .own (found.map .str), .own (left.map .str), .un, .un, .un, .un, .un, .un] ∧ Pop words7 i found left ∧ Ur (n + 1 + i) cs), ⟨_, [], words7, rfl, .start, hu1⟩, fun i d G1 hd hP => ?_, fun G1 hP => ?_⟩
    ·
      obtain ⟨cs, found, left, rfl, hpop, hui⟩ := hP
      obtain ⟨hi, rfl⟩ := rngD_get hd
      have hi : i < m := by rw [Int.toNat_natCast] at hi; exact hi
      have hll := hpop.left_len
      have h7 : words7.length = 7 := rfl
      have hfl := hpop.len
      refine sg_n 6 rfl ?_ sc74.nd
      refine ss_expr ?_
      refine ef_append 4 rfl rfl ?_
      refine ef_pop 5 rfl rfl ?_
      refine ef_cU 0 k__law_pull (hr.mono (by omega)) ?_
      refine ea_cons ?_
      refine ef_o 0 rfl rfl ?_
      refine ⟨⟨_, rfl⟩, ?_⟩
      refine ea_d ?_
      refine ef_len B ?_
      refine ef_o 5 rfl rfl ?_
      refine ⟨_, (by first | exact .inr rfl | exact .inl rfl | exact ⟨_, rfl, rfl⟩), ?_⟩
      refine ⟨_, rfl, ?_⟩
      refine ea_nil ?_
      refine ⟨_, _, (n + 1 + i, (left.map PyData.str).length), rfl, rfl, rfl, ⟨hui, (by show n + 1 + i + 1 ≤ 1000000; omega), by rw [List.length_map]; omega, by rw [List.length_map]; omega⟩, fun d cs hd => ?_⟩
      obtain ⟨k, rfl, hk, hu2⟩ := hd
      have hk : k < left.length := by rw [List.length_map] at hk; exact hk
      obtain ⟨x, hx⟩ : ∃ x, left[k]? = some x := ⟨left[k], List.getElem?_eq_getElem hk⟩
      refine ⟨_, _, rfl, rfl, _, _, rfl, (by omega), (pop_at hx), ?_⟩
      refine ⟨_, _, rfl, rfl, _, rfl, (by rw [List.length_map]; omega), ?_⟩
      refine ss_fgt [6] rfl (ss_nil ?_)
      exact ⟨_, found ++ [x], left.eraseIdx k, by rw [List.map_append, ← map_erase]; rfl, hpop.step hx, hu2⟩
    obtain ⟨cs, found, left, rfl, hpop, hui⟩ := hP
    rw [rngD_len, Int.toNat_natCast] at hpop hui
    refine ss_ret ?_
    refine ef_o 4 rfl rfl ?_
    refine .inr ⟨4, _, rfl, rfl, ?_⟩
    exact fun cs2 e => by cases e; exact ⟨⟨found, rfl, hpop.len, hpop.nd words7_nd, fun y h => words7_nm (hpop.mem h)⟩, hui.mono (by show n + 1 + m ≤ n + 14; omega)⟩
  refine ss_nil ?_
  refine ss_par2 7 8 ?_ sc74.nd
  refine ea_d ?_
  refine ef_listS B ?_
  refine ef_str ?_
  refine ⟨_, rfl, (by decide +kernel), ?_⟩
  refine ⟨_, rfl, ?_⟩
  refine ea_d ?_
  refine ef_listS B ?_
  refine ef_str ?_
  refine ⟨_, rfl, (by decide +kernel), ?_⟩
  refine ⟨_, rfl, ?_⟩
  refine ea_nil ?_
  refine ⟨_, _, rfl, rfl, rfl, ?_⟩
  refine ss_for (ts := [6]) ?_
  refine ei_r B ?_
  refine ef_int ?_
  refine ⟨_, rfl, (by decide), (by decide), ?_⟩
  refine ⟨(fun i G' => ∃ cs stem, G' = [.urn cs, .imm (natD m), .imm (natD w), .imm (.str stem), .own [], .un, .un, .imm (.list (signsD "abcdefghijklmnopqrstuvwxyz")), .imm (.list (signsD "0123456789")), .un, .un, .un] ∧ StOk stem ∧ (tl stem).length = i ∧ Ur (n + 1 + i) cs), ⟨_, "", rfl, StOk.nil, by decide +kernel, hu1⟩, fun i d G1 hd hP => ?_, fun G1 hP => ?_⟩
  ·
    obtain ⟨cs, stem, rfl, hst, hsl, hui⟩ := hP
    obtain ⟨hi, rfl⟩ := rngD_get hd
    have hi : i < 8 := hi
    refine sg_n 6 rfl ?_ sc74.nd
    refine ss_set 3 ?_ rfl sc74.nd
    refine ef_addS ?_
    refine ef_i 3 rfl ?_
    refine ⟨_, rfl, ?_⟩
    refine ef_cU 0 k__law_pick (hr.mono (by omega)) ?_
    refine ea_cons ?_
    refine ef_o 0 rfl rfl ?_
    refine ⟨⟨_, rfl⟩, ?_⟩
    refine ea_d ?_
    refine ef_cut (.list (if (i : Int) = 0 then signsD "abcdefghijklmnopqrstuvwxyz" else signsD "abcdefghijklmnopqrstuvwxyz" ++ signsD "0123456789")) ?_ ?_
    ·
      refine ef_if ?_
      refine et_c ?_
      refine ec_eqI ?_
      refine ef_i 6 rfl ?_
      refine ⟨_, rfl, ?_⟩
      refine ef_int ?_
      refine ⟨_, _, rfl, rfl, ?_⟩
      refine ⟨_, rfl, ?_⟩
      refine ⟨fun hk => ?_, fun hk => ?_⟩
      ·
        refine ef_i 7 rfl ?_
        exact ⟨(by rw [if_pos (of_decide_eq_true hk)]), rfl⟩
      ·
        refine ef_addL ?_
        refine ef_i 7 rfl ?_
        refine ⟨_, rfl, ?_⟩
        refine ef_i 8 rfl ?_
        refine ⟨_, _, rfl, rfl, (by decide +kernel), ?_⟩
        exact ⟨(by rw [if_neg (of_decide_eq_false hk)]), rfl⟩
    refine ⟨_, rfl, ?_⟩
    refine ea_nil ?_
    refine ⟨_, _, (n + 1 + i, (if (i : Int) = 0 then signsD "abcdefghijklmnopqrstuvwxyz" else signsD "abcdefghijklmnopqrstuvwxyz" ++ signsD "0123456789")), rfl, rfl, rfl, ⟨hui, (by show n + 1 + i + 1 ≤ 1000000; omega), by show 1 ≤ List.length (if _ then _ else _); split <;> decide +kernel, by show List.length (if _ then _ else _) ≤ _; split <;> decide +kernel⟩, fun d cs hd => ?_⟩
    obtain ⟨hm, hu2⟩ := hd
    obtain ⟨c, rfl, hc, hc0⟩ := pick_ch hm
    refine ⟨_, _, rfl, rfl, (by have h9 := tl_len stem; show stem.length + 1 ≤ sizeLine; rw [sizeLine_eq]; omega), ?_⟩
    refine ⟨_, rfl, rfl, ?_⟩
    refine ss_fgt [6] rfl (ss_nil ?_)
    exact ⟨_, stem ++ ch c, rfl, hst.add hc (fun h => hc0 (by omega)), by rw [tl_append, tl_ch, List.length_append, hsl]; rfl, hu2⟩
  obtain ⟨cs, stem, rfl, hst, hsl, hui⟩ := hP
  rw [rngD_len] at hsl hui
  have hsl : (tl stem).length = 8 := hsl
  have hui : Ur (n + 9) cs := hui
  refine ss_if ?_
  refine et_c ?_
  refine ec_eqI ?_
  refine ef_i 2 rfl ?_
  refine ⟨_, rfl, ?_⟩
  refine ef_int ?_
  refine ⟨_, _, rfl, rfl, ?_⟩
  refine ⟨_, rfl, ?_⟩
  refine ⟨fun hk => ?_, fun hk => ?_⟩
  ·
    refine ss_set 9 ?_ rfl sc74.nd
    refine ef_add ?_
    refine ef_int ?_
    refine ⟨_, rfl, ?_⟩
    refine ef_cU 0 k__law_pull (hr.mono (by omega)) ?_
    refine ea_cons ?_
    refine ef_o 0 rfl rfl ?_
    refine ⟨⟨_, rfl⟩, ?_⟩
    refine ea_d ?_
    refine ef_sub ?_
    refine ef_int ?_
    refine ⟨_, rfl, ?_⟩
    refine ef_i 1 rfl ?_
    refine ⟨_, _, rfl, rfl, ?_⟩
    refine ⟨_, rfl, ?_⟩
    refine ea_nil ?_
    refine ⟨_, _, (n + 9, 9 - m), (sub9 (b := 9) (m := m) (by omega)), rfl, rfl, ⟨hui, (by show n + 9 + 1 ≤ 1000000; omega), by show 1 ≤ 9 - m; omega, by show 9 - m ≤ 100000; omega⟩, fun d cs hd => ?_⟩
    obtain ⟨r, rfl, hrr, hu2⟩ := hd
    have hrr : r < 9 - m := hrr
    refine ⟨_, _, rfl, rfl, ?_⟩
    refine ⟨_, rfl, rfl, ?_⟩
    refine ss_retD ?_
    refine ef_lcM (ts := [6]) [("_law_turn", 6)] (bgF stem (1 + (r : Int))) (show blkC ["_law_urn_here", "_law_much", "_law_way", "_law_stem", "_law_found", "_law_words", "_law_turn", "_law_letters", "_law_figures", "_law_start", "_law_spot", "_law_left"] (defScope (topS 74)) _ [("_law_turn", 6)] = true from by decide +kernel) sc74.nd ?_
    refine ei_r B ?_
    refine ef_i 1 rfl ?_
    refine ⟨_, rfl, (by show (m : Int) ≤ _; omega), (by show _ ≤ (m : Int); omega), ?_⟩
    refine ⟨rfl, (by rw [rngD_len, Int.toNat_natCast]; omega), by decide, fun d hd s H0 Cc cl fp => ?_, ?_⟩
    ·
      obtain ⟨t, ht, rfl⟩ := rng_mem hd
      refine sg_n 6 rfl ?_ sc74.nd
      refine ⟨rfl, fun s H0 Cc cl fp => ?_⟩
      refine ef_slS ?_
      refine ef_i 3 rfl ?_
      refine ⟨_, rfl, ?_⟩
      refine eo_none ?_
      refine eo_some ?_
      refine ef_add ?_
      refine ef_i 9 rfl ?_
      refine ⟨_, rfl, ?_⟩
      refine ef_i 6 rfl ?_
      refine ⟨_, _, rfl, rfl, ?_⟩
      refine ⟨_, rfl, ?_⟩
      refine ⟨_, rfl, (by have h9 := tl_len stem; rw [sizeLine_eq]; omega), ?_⟩
      exact ⟨rfl, rfl⟩
    refine ⟨_, rfl, ?_⟩
    exact fun cs2 e => by cases e; exact ⟨nm_row (s := 1 + r) hst hsl (by omega) (by omega), hu2.mono (by show n + 9 + 1 ≤ n + 14; omega)⟩
  refine ss_nil ?_
  refine ss_set 10 ?_ rfl sc74.nd
  refine ef_cU 0 k__law_pull (hr.mono (by omega)) ?_
  refine ea_cons ?_
  refine ef_o 0 rfl rfl ?_
  refine ⟨⟨_, rfl⟩, ?_⟩
  refine ea_d ?_
  refine ef_int ?_
  refine ⟨_, rfl, ?_⟩
  refine ea_nil ?_
  refine ⟨_, _, (n + 9, 8), rfl, rfl, rfl, ⟨hui, (by show n + 9 + 1 ≤ 1000000; omega), show 1 ≤ 8 by decide, show 8 ≤ 100000 by decide⟩, fun d cs hd => ?_⟩
  obtain ⟨sp, rfl, hsp, hu2⟩ := hd
  have hsp : sp < 8 := hsp
  refine ⟨_, rfl, rfl, ?_⟩
  refine ss_fr 11 ?_ rfl sc74.nd
  refine efr_cut ((allC sp).map chD) ?_ ?_
  ·
    refine efr_if ?_
    refine et_c ?_
    refine ec_eqI ?_
    refine ef_i 10 rfl ?_
    refine ⟨_, rfl, ?_⟩
    refine ef_int ?_
    refine ⟨_, _, rfl, rfl, ?_⟩
    refine ⟨_, rfl, ?_⟩
    refine ⟨fun hk => ?_, fun hk => ?_⟩
    ·
      refine efr_list B ?_
      refine ef_i 7 rfl ?_
      refine ⟨_, .inl rfl, ?_⟩
      exact ⟨(by unfold allC; rw [if_pos (of_decide_eq_true hk)]; rfl), rfl⟩
    ·
      refine efr_addL ?_
      refine ef_i 7 rfl ?_
      refine ⟨_, rfl, ?_⟩
      refine ef_i 8 rfl ?_
      refine ⟨_, rfl, (by decide +kernel), ?_⟩
      exact ⟨(by unfold allC; rw [if_neg (of_decide_eq_false hk), List.map_append]; rfl), rfl⟩
  refine ⟨rfl, ?_⟩
  refine ss_set 3 ?_ rfl sc74.nd
  refine ef_slS ?_
  refine ef_i 3 rfl ?_
  refine ⟨_, rfl, ?_⟩
  refine eo_none ?_
  refine eo_some ?_
  refine ef_add ?_
  refine ef_add ?_
  refine ef_i 10 rfl ?_
  refine ⟨_, rfl, ?_⟩
  refine ef_int ?_
  refine ⟨_, _, rfl, rfl, ?_⟩
  refine ⟨_, rfl, ?_⟩
  refine ef_cU 0 k__law_pull (hr.mono (by omega)) ?_
  refine ea_cons ?_
  refine ef_o 0 rfl rfl ?_
  refine ⟨⟨_, rfl⟩, ?_⟩
  refine ea_d ?_
  refine ef_sub ?_
  refine ef_int ?_
  refine ⟨_, rfl, ?_⟩
  refine ef_i 10 rfl ?_
  refine ⟨_, _, rfl, rfl, ?_⟩
  refine ⟨_, rfl, ?_⟩
  refine ea_nil ?_
  refine ⟨_, _, (n + 10, 8 - sp), (sub9 (b := 8) (m := sp) (by omega)), rfl, rfl, ⟨hu2, (by show n + 10 + 1 ≤ 1000000; omega), by show 1 ≤ 8 - sp; omega, by show 8 - sp ≤ 100000; omega⟩, fun d cs hd => ?_⟩
  obtain ⟨r, rfl, hrr, hu3⟩ := hd
  have hrr : r < 8 - sp := hrr
  refine ⟨_, _, rfl, rfl, ?_⟩
  refine ⟨_, rfl, ?_⟩
  refine ⟨_, rfl, (by have h9 := tl_len stem; rw [sizeLine_eq]; omega), ?_⟩
  refine ⟨_, rfl, rfl, ?_⟩
  refine ss_for (ts := [6]) ?_
  refine ei_r B ?_
  refine ef_i 1 rfl ?_
  have hst2 := hst.take (sp + 1 + r)
  have hsl2 := tl_cut_to stem (sp + 1 + r)
  rw [show (((sp + 1 + r : Nat)) : Int) = (sp : Int) + 1 + (r : Int) from rfl] at hst2 hsl2
  have hsl3 := congrArg List.length hsl2
  rw [List.length_take, hsl] at hsl3
  clear hsl2
  generalize cutS stem none (some ((sp : Int) + 1 + (r : Int))) = z2 at *
  refine ⟨_, rfl, (by show (m : Int) ≤ _; omega), (by show _ ≤ (m : Int); omega), ?_⟩
  refine ⟨(fun i G' => ∃ cs found left, G' = [.urn cs, .imm (natD m), .imm (natD w), .imm (.str z2), .own (found.map fun c => .str (mkN z2 sp c)), .un, .un, .imm (.list (signsD "abcdefghijklmnopqrstuvwxyz")), .imm (.list (signsD "0123456789")), .un, .imm (natD sp), .own (left.map chD)] ∧ Pop (allC sp) i found left ∧ Ur (n + 11 + i) cs), ⟨_, [], allC sp, rfl, .start, hu3⟩, fun i d G1 hd hP => ?_, fun G1 hP => ?_⟩
  ·
    obtain ⟨cs, found, left, rfl, hpop, hui⟩ := hP
    obtain ⟨hi, rfl⟩ := rngD_get hd
    have hi : i < m := by rw [Int.toNat_natCast] at hi; exact hi
    have hll := hpop.left_len
    have hal := allC_len sp
    have hfl := hpop.len
    have hz2 : z2.length ≤ 8 := by have h9 := tl_len z2; omega
    refine sg_n 6 rfl ?_ sc74.nd
    refine ss_expr ?_
    refine ef_append 4 rfl rfl ?_
    refine ef_addS ?_
    refine ef_addS ?_
    refine ef_slS ?_
    refine ef_i 3 rfl ?_
    refine ⟨_, rfl, ?_⟩
    refine eo_none ?_
    refine eo_some ?_
    refine ef_i 10 rfl ?_
    refine ⟨_, rfl, ?_⟩
    refine ⟨_, rfl, (by rw [sizeLine_eq]; omega), ?_⟩
    refine ⟨_, rfl, ?_⟩
    refine ef_pop 11 rfl rfl ?_
    refine ef_cU 0 k__law_pull (hr.mono (by omega)) ?_
    refine ea_cons ?_
    refine ef_o 0 rfl rfl ?_
    refine ⟨⟨_, rfl⟩, ?_⟩
    refine ea_d ?_
    refine ef_len B ?_
    refine ef_o 11 rfl rfl ?_
    refine ⟨_, (by first | exact .inr rfl | exact .inl rfl | exact ⟨_, rfl, rfl⟩), ?_⟩
    refine ⟨_, rfl, ?_⟩
    refine ea_nil ?_
    refine ⟨_, _, (n + 11 + i, (left.map chD).length), rfl, rfl, rfl, ⟨hui, (by show n + 11 + i + 1 ≤ 1000000; omega), by rw [List.length_map]; omega, by rw [List.length_map]; omega⟩, fun d cs hd => ?_⟩
    obtain ⟨k, rfl, hk, hu4⟩ := hd
    have hk : k < left.length := by rw [List.length_map] at hk; exact hk
    obtain ⟨x, hx⟩ : ∃ x, left[k]? = some x := ⟨left[k], List.getElem?_eq_getElem hk⟩
    refine ⟨_, _, rfl, rfl, _, _, rfl, (by omega), (pop_at hx), ?_⟩
    refine ⟨_, _, rfl, rfl, (by have h9 := cutS_length z2 none (some (sp : Int)); show _ + 1 ≤ sizeLine; rw [sizeLine_eq]; omega), ?_⟩
    refine ⟨_, rfl, ?_⟩
    refine ef_slS ?_
    refine ef_i 3 rfl ?_
    refine ⟨_, rfl, ?_⟩
    refine eo_some ?_
    refine ef_add ?_
    refine ef_i 10 rfl ?_
    refine ⟨_, rfl, ?_⟩
    refine ef_int ?_
    refine ⟨_, _, rfl, rfl, ?_⟩
    refine ⟨_, rfl, ?_⟩
    refine eo_none ?_
    refine ⟨_, rfl, (by rw [sizeLine_eq]; omega), ?_⟩
    refine ⟨_, _, rfl, rfl, (by have h8 := cutS_length z2 none (some (sp : Int)); have h9 := cutS_length z2 (some ((sp : Int) + 1)) none; rw [len_app]; show _ + 1 + _ ≤ sizeLine; rw [sizeLine_eq]; omega), ?_⟩
    refine ⟨_, _, rfl, rfl, _, rfl, (by rw [List.length_map]; omega), ?_⟩
    refine ss_fgt [6] rfl (ss_nil ?_)
    exact ⟨_, found ++ [x], left.eraseIdx k, by rw [List.map_append, ← map_erase]; rfl, hpop.step hx, hu4⟩
  obtain ⟨cs, found, left, rfl, hpop, hui⟩ := hP
  rw [rngD_len, Int.toNat_natCast] at hpop hui
  refine ss_ret ?_
  refine ef_o 4 rfl rfl ?_
  refine .inr ⟨4, _, rfl, rfl, ?_⟩
  exact fun cs2 e => by cases e; exact ⟨chosen hst2 (by omega) (by omega) hpop, hui.mono (by show n + 11 + m ≤ n + 14; omega)⟩
end W
/-! PD: a night's parts, as the law makes them. -/
namespace DL
open PySem PySem.Spec PyProof.Rows L2
section
variable {C : Addr} {X : Cx} {G G' : Ga} {T : Es} {Q : Vl → Ga → Prop} {st : List Stmt} {e : Expr}
theorem ss_drop (i : Nat) {ds : List PyData} (hG : G[i]? = some (.own ds)) (h : SS C X st (G.set i .un) T) : SS C X st G T := fun O σ H E D hN hR hB hJ => by
  obtain ⟨a, h1, E2, K2, _⟩ := E.letGo hG
  exact h _ σ H E2 D (fun O' σ' G' H' E' K' q => hN O' σ' G' H' E' (K2.trans K' E) q) (fun O' σ' v d G' H' E' K' r q => hR O' σ' v d G' H' E' (K2.trans K' E) r q)
    (fun O' σ' G' H' E' K' q => hB O' σ' G' H' E' (K2.trans K' E) q) (fun O' σ' G' H' E' K' q => hJ O' σ' G' H' E' (K2.trans K' E) q)
theorem ef_cutP (P : Vl → Ga → Prop) (h : Ef C X e G P) (q : ∀ v G', P v G' → Q v G') : Ef C X e G Q := h.mono q
end
end DL
namespace W
open PySem PySem.Spec PyProof.Rows L2 DL M TL
/-- divisors so far: the last one apart -/
structure Ld (i : Nat) (pre : List Int) (x : Int) : Prop where
  len : pre.length = i
  pw : pre.Pairwise (· < ·)
  lt : ∀ y ∈ pre, 1 ≤ y ∧ y < x
  x1 : 1 ≤ x
  x9 : x ≤ 3 * ((i : Int) + 1)
theorem Ld.start {k : Nat} (h : k < 3) : Ld 0 [] (1 + (k : Int)) := ⟨rfl, .nil, fun y h => (by cases h), by omega, by omega⟩
theorem Ld.step {i : Nat} {pre : List Int} {x : Int} (h : Ld i pre x) {k : Nat} (hk : k < 3) : Ld (i + 1) (pre ++ [x]) (x + 1 + (k : Int)) := by
  refine ⟨by rw [List.length_append, h.len]; rfl, List.pairwise_append.mpr ⟨h.pw, List.pairwise_singleton _ _, fun a ha b hb => ?_⟩, fun y hy => ?_, by have := h.x1; omega, by have := h.x9; omega⟩
  · rw [List.mem_singleton] at hb
    rw [hb]
    exact (h.lt a ha).2
  · have := h.x1
    rcases List.mem_append.mp hy with hy | hy
    · have := h.lt y hy
      omega
    · rw [List.mem_singleton] at hy
      omega
structure DvOk (dv : List Int) : Prop where
  d1 : 1 ≤ dv.length
  d3 : dv.length ≤ 3
  da : dv.Pairwise (· < ·)
  dr : ∀ x ∈ dv, 1 ≤ x ∧ x ≤ 9
theorem Ld.ok {i : Nat} {pre : List Int} {x : Int} (h : Ld i pre x) (hi : i ≤ 2) : DvOk (pre ++ [x]) := by
  have hx1 := h.x1
  have hx9 := h.x9
  refine ⟨by rw [List.length_append]; simp, by rw [List.length_append, h.len]; show i + 1 ≤ 3; omega, List.pairwise_append.mpr ⟨h.pw, List.pairwise_singleton _ _, fun a ha b hb => ?_⟩, fun y hy => ?_⟩
  · rw [List.mem_singleton] at hb
    rw [hb]
    exact (h.lt a ha).2
  · rcases List.mem_append.mp hy with hy | hy
    · have := h.lt y hy
      omega
    · rw [List.mem_singleton] at hy
      omega
theorem at_last (pre : List Int) (x : Int) : atI ((pre ++ [x]).map PyData.int) (-1) = some (.int x) := by
  unfold atI
  have hl : ((pre ++ [x]).map PyData.int).length = pre.length + 1 := by rw [List.length_map, List.length_append]; rfl
  have h1 : ixN (pre.length + 1) (-1) = some pre.length := by
    unfold ixN
    rw [if_neg (by omega), if_pos (by omega)]
    congr 1
    omega
  rw [hl, h1, List.map_append]
  show (pre.map PyData.int ++ [PyData.int x])[pre.length]? = _
  rw [List.getElem?_append_right (by rw [List.length_map]; exact Nat.le_refl _), List.length_map, Nat.sub_self]
  rfl
theorem str_get {ss : List Str} {i : Nat} {d : PyData} (h : (ss.map PyData.str)[i]? = some d) : ∃ z, ss[i]? = some z ∧ PyData.str z = d := by
  rw [List.getElem?_map] at h
  obtain ⟨z, hz, e⟩ := Option.map_eq_some_iff.mp h
  exact ⟨z, hz, e⟩
def selS (k : Nat) (z : Str) : List Str := if k = 0 then [z] else []
theorem mul_sel {k : Nat} {z : Str} (h : k < 2) : (List.replicate ((1 : Int) - (k : Int)).toNat [PyData.str z]).flatten = (selS k z).map .str := by
  have : k = 0 ∨ k = 1 := by omega
  rcases this with rfl | rfl <;> rfl
theorem selS_len (k : Nat) (z : Str) : (selS k z).length ≤ 1 := by
  unfold selS
  split
  · exact Nat.le_refl 1
  · exact Nat.zero_le _
theorem sub_step {own ss : List Str} {i k : Nat} {z : Str} (h : own.Sublist (ss.take i)) (hz : ss[i]? = some z) : (own ++ selS k z).Sublist (ss.take (i + 1)) := by
  rw [List.take_add_one, hz]
  unfold selS
  split
  · exact h.append (List.Sublist.refl _)
  · rw [List.append_nil]
    exact h.trans (List.sublist_append_left _ _)
theorem sub_filter : ∀ {zs ss : List Str}, zs.Sublist ss → ss.Nodup → zs = ss.filter fun z => decide (z ∈ zs)
  | _, _, .slnil, _ => rfl
  | zs, _ :: ss, .cons a h, nd => by
    obtain ⟨n1, n2⟩ := List.nodup_cons.mp nd
    have ih := sub_filter h n2
    have na : a ∉ zs := fun m => n1 (h.subset m)
    rw [List.filter_cons, if_neg (by simpa using na)]
    exact ih
  | _ :: zs, _ :: ss, .cons_cons a h, nd => by
    obtain ⟨n1, n2⟩ := List.nodup_cons.mp nd
    have ih := sub_filter h n2
    rw [List.filter_cons, if_pos (by simp)]
    congr 1
    have e : (ss.filter fun z => decide (z ∈ a :: zs)) = ss.filter fun z => decide (z ∈ zs) := by
      apply List.filter_congr
      intro z hz
      have ne : z ≠ a := fun q => n1 (by rw [← q]; exact hz)
      simp [ne]
    rw [e]
    exact ih
structure HpOk (ss : List Str) (h : Int × List Str) : Prop where
  s0 : 0 ≤ h.1
  s4 : h.1 ≤ 4
  ne : h.2 ≠ []
  sub : h.2.Sublist ss
theorem pt_ok {dv : List Int} {cl : List (Str × Int)} {hps : List (Int × List Str)} {ss : List Str} (hd : DvOk dv) (hf : cl.map Prod.fst = ss) (h1 : 1 ≤ ss.length) (h3 : ss.length ≤ 3) (nd : ss.Nodup) (nm : ∀ y ∈ ss, NmOk y)
    (hc : ∀ c ∈ cl, 0 ≤ c.2 ∧ c.2 ≤ 12) (h2 : hps.length ≤ 2) (hh : ∀ h ∈ hps, HpOk ss h) : Ok ⟨dv, cl, hps⟩ := by
  have hl : cl.length = ss.length := by rw [← hf, List.length_map]
  have hn : Pt.names ⟨dv, cl, hps⟩ = ss := hf
  exact ⟨hd.d1, hd.d3, hd.da, hd.dr, by rw [hl]; exact h1, by rw [hl]; exact h3, by rw [hn]; exact nd, by rw [hn]; exact nm, hc, h2, fun h m => ⟨(hh h m).s0, (hh h m).s4⟩, fun h m => ⟨(hh h m).ne, by rw [hn]; exact sub_filter (hh h m).sub nd⟩⟩
theorem own_eq (ss : List Str) : PyData.eqv (.list (ss.map .str)) (.list []) = decide (ss = []) := by
  cases ss with
  | nil => decide +kernel
  | cons x xs => simp [PyData.eqv, PyData.eqvAll]
end W
/-! V11: the law: parts -/
namespace W
open PySem PySem.Spec PyProof.Rows L2 DL M

theorem sc75 : FnScope ["_law_urn_here", "_law_clubs_most", "_law_chairs_most", "_law_tally_most", "_law_heaps_most", "_law_heap_most", "_law_ladder", "_law_step", "_law_turn", "_law_called_here", "_law_clubs", "_law_heaps", "_law_own", "_law_word", "_law_heap"] ["_law_urn_here", "_law_clubs_most", "_law_chairs_most", "_law_tally_most", "_law_heaps_most", "_law_heap_most"] (defScope (topS 75)) := ⟨rfl, rfl, rfl, by decide +kernel, rfl, by decide +kernel, by decide +kernel⟩
abbrev T__law_parts (S : Sys) : Prop := Kn S.P S.w S.K S.mg S.base 4 "_law_parts" ["_law_urn_here", "_law_clubs_most", "_law_chairs_most", "_law_tally_most", "_law_heaps_most", "_law_heap_most"] (spUA S.K S.C (α := Nat) (fun _ => [.int 3, .int 3, .int 12, .int 2, .int 4]) (fun n cs => Ur n cs ∧ n + 40 ≤ 1000000) (fun n _ d cs => (∃ p, Ok p ∧ d = ptD p) ∧ Ur (n + 40) cs))
theorem w__law_parts {S : Sys} (A : At S.K S.mg "_law_parts" (topS 75)) (B : Bt S.mg) (g : Gv S.K S.mg) (k__law_pull : T__law_pull S) (k__law_pick : T__law_pick S) (k__law_called : T__law_called S) : T__law_parts S := by
  refine kn_U A sc75 (fun _ _ _ => rfl) (b6 fun _ _ _ _ _ _ _ _ _ _ _ _ => rfl) fun f cdv A outer s H E a cs hr hp => ?_
  obtain ⟨hu, hn⟩ := hp
  generalize a = n at *
  refine ss_parOD 6 7 ?_ sc75.nd
  refine efr_lst ?_
  refine ea_d ?_
  refine ef_add ?_
  refine ef_int ?_
  refine ⟨_, rfl, ?_⟩
  refine ef_cU 0 k__law_pull (hr.mono (by omega)) ?_
  refine ea_cons ?_
  refine ef_o 0 rfl rfl ?_
  refine ⟨⟨_, rfl⟩, ?_⟩
  refine ea_d ?_
  refine ef_int ?_
  refine ⟨_, rfl, ?_⟩
  refine ea_nil ?_
  refine ⟨_, _, (n, 3), rfl, rfl, rfl, ⟨hu, (by show n + 1 ≤ 1000000; omega), by show 1 ≤ 3; omega, by show 3 ≤ 100000; omega⟩, fun d cs hd => ?_⟩
  obtain ⟨k0, rfl, hk0, hu1⟩ := hd
  have hk0 : k0 < 3 := hk0
  refine ⟨_, _, rfl, rfl, ?_⟩
  refine ⟨_, rfl, ?_⟩
  refine ea_nil ?_
  refine ⟨[_], rfl, show 1 ≤ sizeLine by decide, ?_⟩
  refine ef_add ?_
  refine ef_int ?_
  refine ⟨_, rfl, ?_⟩
  refine ef_cU 0 k__law_pull (hr.mono (by omega)) ?_
  refine ea_cons ?_
  refine ef_o 0 rfl rfl ?_
  refine ⟨⟨_, rfl⟩, ?_⟩
  refine ea_d ?_
  refine ef_int ?_
  refine ⟨_, rfl, ?_⟩
  refine ea_nil ?_
  refine ⟨_, _, (n + 1, 3), rfl, rfl, rfl, ⟨hu1, (by show n + 1 + 1 ≤ 1000000; omega), by show 1 ≤ 3; omega, by show 3 ≤ 100000; omega⟩, fun d cs hd => ?_⟩
  obtain ⟨k1, rfl, hk1, hu2⟩ := hd
  have hk1 : k1 < 3 := hk1
  refine ⟨_, _, rfl, rfl, ?_⟩
  refine ⟨_, rfl, rfl, rfl, ?_⟩
  refine ss_for (ts := [8]) ?_
  refine ei_r B ?_
  refine ef_sub ?_
  refine ef_sub ?_
  refine ef_i 2 rfl ?_
  refine ⟨_, rfl, ?_⟩
  refine ef_int ?_
  refine ⟨_, _, rfl, rfl, ?_⟩
  refine ⟨_, rfl, ?_⟩
  refine ef_cU 0 k__law_pull (hr.mono (by omega)) ?_
  refine ea_cons ?_
  refine ef_o 0 rfl rfl ?_
  refine ⟨⟨_, rfl⟩, ?_⟩
  refine ea_d ?_
  refine ef_i 2 rfl ?_
  refine ⟨_, rfl, ?_⟩
  refine ea_nil ?_
  refine ⟨_, _, (n + 2, 3), rfl, rfl, rfl, ⟨hu2, (by show n + 2 + 1 ≤ 1000000; omega), by show 1 ≤ 3; omega, by show 3 ≤ 100000; omega⟩, fun d cs hd => ?_⟩
  obtain ⟨k2, rfl, hk2, hu3⟩ := hd
  have hk2 : k2 < 3 := hk2
  refine ⟨_, _, rfl, rfl, ?_⟩
  refine ⟨_, rfl, (by show (3 : Int) - 1 - (k2 : Int) ≤ _; omega), (by show _ ≤ (3 : Int) - 1 - (k2 : Int); omega), ?_⟩
  refine ⟨(fun i G' => ∃ cs pre x, G' = [.urn cs, .imm (.int 3), .imm (.int 3), .imm (.int 12), .imm (.int 2), .imm (.int 4), .own ((pre ++ [x]).map .int), .imm (.int (1 + (k1 : Int))), .un, .un, .un, .un, .un, .un, .un] ∧ Ld i pre x ∧ Ur (n + 3 + i) cs), ⟨_, [], 1 + (k0 : Int), rfl, Ld.start hk0, hu3⟩, fun i d G1 hd hP => ?_, fun G1 hP => ?_⟩
  ·
    obtain ⟨cs, pre, x, rfl, hld, hui⟩ := hP
    obtain ⟨hi, rfl⟩ := rngD_get hd
    have hi : i < 2 := by have hi : i < ((3 : Int) - 1 - (k2 : Int)).toNat := hi; omega
    refine sg_n 8 rfl ?_ sc75.nd
    refine ss_expr ?_
    refine ef_append 6 rfl rfl ?_
    refine ef_add ?_
    refine ef_add ?_
    refine ef_ixO 6 ?_
    refine ef_o 6 rfl rfl ?_
    refine ⟨rfl, ?_⟩
    refine ef_neg ?_
    refine ef_int ?_
    refine ⟨_, rfl, ?_⟩
    refine ⟨_, _, _, _, rfl, rfl, rfl, (at_last pre x), ?_⟩
    refine ⟨_, rfl, ?_⟩
    refine ef_int ?_
    refine ⟨_, _, rfl, rfl, ?_⟩
    refine ⟨_, rfl, ?_⟩
    refine ef_cU 0 k__law_pull (hr.mono (by omega)) ?_
    refine ea_cons ?_
    refine ef_o 0 rfl rfl ?_
    refine ⟨⟨_, rfl⟩, ?_⟩
    refine ea_d ?_
    refine ef_i 7 rfl ?_
    refine ⟨_, rfl, ?_⟩
    refine ea_nil ?_
    refine ⟨_, _, (n + 3 + i, 1 + k1), rfl, rfl, rfl, ⟨hui, (by show n + 3 + i + 1 ≤ 1000000; omega), by show 1 ≤ 1 + k1; omega, by show 1 + k1 ≤ 100000; omega⟩, fun d cs hd => ?_⟩
    obtain ⟨k3, rfl, hk3, hu4⟩ := hd
    have hk3 : k3 < 1 + k1 := hk3
    refine ⟨_, _, rfl, rfl, ?_⟩
    refine ⟨_, _, rfl, rfl, _, rfl, (by rw [List.length_map, List.length_append, hld.len]; show i + 1 < 100000; omega), ?_⟩
    refine ss_fgt [8] rfl (ss_nil ?_)
    exact ⟨_, pre ++ [x], x + 1 + (k3 : Int), by rw [List.map_append (l₁ := pre ++ [x])]; rfl, hld.step (by omega), hu4⟩
  obtain ⟨cs, pre, x, rfl, hld, hui⟩ := hP
  rw [rngD_len] at hld hui
  have hq2 : ((3 : Int) - 1 - (k2 : Int)).toNat ≤ 2 := by omega
  generalize ((3 : Int) - 1 - (k2 : Int)).toNat = q at *
  have hdv := hld.ok hq2
  have hui : Ur (n + 5) cs := hui.mono (by omega)
  generalize pre ++ [x] = dv at *
  refine ss_set 9 ?_ rfl sc75.nd
  refine ef_cU 0 k__law_called (hr.mono (by omega)) ?_
  refine ea_cons ?_
  refine ef_o 0 rfl rfl ?_
  refine ⟨⟨_, rfl⟩, ?_⟩
  refine ea_d ?_
  refine ef_sub ?_
  refine ef_i 1 rfl ?_
  refine ⟨_, rfl, ?_⟩
  refine ef_cU 0 k__law_pull (hr.mono (by omega)) ?_
  refine ea_cons ?_
  refine ef_o 0 rfl rfl ?_
  refine ⟨⟨_, rfl⟩, ?_⟩
  refine ea_d ?_
  refine ef_i 1 rfl ?_
  refine ⟨_, rfl, ?_⟩
  refine ea_nil ?_
  refine ⟨_, _, (n + 5, 3), rfl, rfl, rfl, ⟨hui, (by show n + 5 + 1 ≤ 1000000; omega), by show 1 ≤ 3; omega, by show 3 ≤ 100000; omega⟩, fun d cs hd => ?_⟩
  obtain ⟨k4, rfl, hk4, hu6⟩ := hd
  have hk4 : k4 < 3 := hk4
  refine ⟨_, _, rfl, rfl, ?_⟩
  refine ⟨_, rfl, ?_⟩
  refine ea_nil ?_
  refine ⟨_, _, (n + 6, 3 - k4), (sub9 (b := 3) (m := k4) (by omega)), rfl, rfl, ⟨hu6, (by show n + 6 + 14 ≤ 1000000; omega), by show 1 ≤ 3 - k4; omega, by show 3 - k4 ≤ 3; omega⟩, fun d cs hd => ?_⟩
  obtain ⟨⟨ss, rfl, hsl, hsn, hsm⟩, hu7⟩ := hd
  have hsl : ss.length = 3 - k4 := hsl
  have hs1 : 1 ≤ ss.length := by omega
  have hs3 : ss.length ≤ 3 := by omega
  refine ⟨_, rfl, rfl, ?_⟩
  refine ss_lc 10 [("_law_word", 13)] (show blkC ["_law_urn_here", "_law_clubs_most", "_law_chairs_most", "_law_tally_most", "_law_heaps_most", "_law_heap_most", "_law_ladder", "_law_step", "_law_turn", "_law_called_here", "_law_clubs", "_law_heaps", "_law_own", "_law_word", "_law_heap"] (defScope (topS 75)) _ [("_law_word", 13)] = true from by decide +kernel) sc75.nd ?_
  refine el_lc (ts := [13]) [("_law_word", 13)] (show blkC ["_law_urn_here", "_law_clubs_most", "_law_chairs_most", "_law_tally_most", "_law_heaps_most", "_law_heap_most", "_law_ladder", "_law_step", "_law_turn", "_law_called_here", "_law_clubs", "_law_heaps", "_law_own", "_law_word", "_law_heap"] (defScope (topS 75)) _ [("_law_word", 13)] = true from by decide +kernel) sc75.nd ?_
  refine ei_l ?_
  refine ef_i 9 rfl ?_
  refine ⟨_, rfl, ?_⟩
  refine ⟨rfl, (by rw [List.length_map]; omega), by decide, (fun i acc G' => ∃ cs cl, acc = cl.map ptyD ∧ cl.map Prod.fst = ss.take i ∧ (∀ c ∈ cl, 0 ≤ c.2 ∧ c.2 ≤ 12) ∧ G' = [.urn cs, .imm (.int 3), .imm (.int 3), .imm (.int 12), .imm (.int 2), .imm (.int 4), .own (dv.map .int), .imm (.int (1 + (k1 : Int))), .un, .imm (.list (ss.map .str)), .un, .un, .un, .un, .un] ∧ Ur (n + 20 + i) cs), ⟨_, [], rfl, rfl, (fun c h => nomatch h), rfl, hu7⟩, fun i d acc G1 hd hP s H0 Cc cl fp => ?_, fun acc G1 hP => ?_⟩
  ·
    obtain ⟨cs, cll, rfl, hcf, hcc, rfl, hui⟩ := hP
    obtain ⟨z, hz, rfl⟩ := str_get hd
    have hi : i < ss.length := (List.getElem?_eq_some_iff.mp hz).1
    refine sg_n 13 rfl ?_ sc75.nd
    refine ⟨fun hk s H0 Cc cl fp => ?_, fun hk => nomatch hk⟩
    refine ef_tup ?_
    refine ea_d ?_
    refine ef_i 13 rfl ?_
    refine ⟨_, rfl, ?_⟩
    refine ea_d ?_
    refine ef_sub ?_
    refine ef_i 3 rfl ?_
    refine ⟨_, rfl, ?_⟩
    refine ef_cU 0 k__law_pull (hr.mono (by omega)) ?_
    refine ea_cons ?_
    refine ef_o 0 rfl rfl ?_
    refine ⟨⟨_, rfl⟩, ?_⟩
    refine ea_d ?_
    refine ef_add ?_
    refine ef_i 3 rfl ?_
    refine ⟨_, rfl, ?_⟩
    refine ef_int ?_
    refine ⟨_, _, rfl, rfl, ?_⟩
    refine ⟨_, rfl, ?_⟩
    refine ea_nil ?_
    refine ⟨_, _, (n + 20 + i, 13), rfl, rfl, rfl, ⟨hui, (by show n + 20 + i + 1 ≤ 1000000; omega), by show 1 ≤ 13; omega, by show 13 ≤ 100000; omega⟩, fun d cs hd => ?_⟩
    obtain ⟨k5, rfl, hk5, hu8⟩ := hd
    have hk5 : k5 < 13 := hk5
    refine ⟨_, _, rfl, rfl, ?_⟩
    refine ⟨_, rfl, ?_⟩
    refine ea_nil ?_
    refine ⟨[_, _], rfl, show 2 ≤ sizeLine by decide, ?_⟩
    exact ⟨_, rfl, ⟨_, cll ++ [(z, 12 - (k5 : Int))], by rw [List.map_append]; rfl, by rw [List.map_append, hcf, List.take_add_one, hz]; rfl, (fun c hc => by rcases List.mem_append.mp hc with hc | hc; exact hcc c hc; rw [List.mem_singleton] at hc; subst hc; exact ⟨by show 0 ≤ 12 - (k5 : Int); omega, by show 12 - (k5 : Int) ≤ 12; omega⟩), rfl, hu8⟩⟩
  obtain ⟨cs, cl, rfl, hcf, hcc, rfl, hui⟩ := hP
  rw [List.length_map] at hcf hui
  rw [List.take_length] at hcf
  have hui : Ur (n + 23) cs := hui.mono (by omega)
  refine ⟨_, rfl, rfl, ?_⟩
  refine ss_own 11 ?_ rfl sc75.nd
  refine ea_nil ?_
  refine ⟨[], rfl, by decide, rfl, ?_⟩
  refine ss_for (ts := [8]) ?_
  refine ei_r B ?_
  refine ef_sub ?_
  refine ef_i 4 rfl ?_
  refine ⟨_, rfl, ?_⟩
  refine ef_cU 0 k__law_pull (hr.mono (by omega)) ?_
  refine ea_cons ?_
  refine ef_o 0 rfl rfl ?_
  refine ⟨⟨_, rfl⟩, ?_⟩
  refine ea_d ?_
  refine ef_add ?_
  refine ef_i 4 rfl ?_
  refine ⟨_, rfl, ?_⟩
  refine ef_int ?_
  refine ⟨_, _, rfl, rfl, ?_⟩
  refine ⟨_, rfl, ?_⟩
  refine ea_nil ?_
  refine ⟨_, _, (n + 23, 3), rfl, rfl, rfl, ⟨hui, (by show n + 23 + 1 ≤ 1000000; omega), by show 1 ≤ 3; omega, by show 3 ≤ 100000; omega⟩, fun d cs hd => ?_⟩
  obtain ⟨k6, rfl, hk6, hu9⟩ := hd
  have hk6 : k6 < 3 := hk6
  refine ⟨_, _, rfl, rfl, ?_⟩
  refine ⟨_, rfl, (by show (2 : Int) - (k6 : Int) ≤ _; omega), (by show _ ≤ (2 : Int) - (k6 : Int); omega), ?_⟩
  refine ⟨(fun i G' => ∃ cs hps, G' = [.urn cs, .imm (.int 3), .imm (.int 3), .imm (.int 12), .imm (.int 2), .imm (.int 4), .own (dv.map .int), .imm (.int (1 + (k1 : Int))), .un, .imm (.list (ss.map .str)), .imm (.list (cl.map ptyD)), .own (hps.map pilD), .un, .un, .un] ∧ hps.length = i ∧ (∀ h ∈ hps, HpOk ss h) ∧ Ur (n + 24 + 5 * i) cs), ⟨_, [], rfl, rfl, (fun h m => nomatch m), hu9⟩, fun i d G1 hd hP => ?_, fun G1 hP => ?_⟩
  ·
    obtain ⟨cs, hps, rfl, hhl, hho, hui⟩ := hP
    obtain ⟨hi, rfl⟩ := rngD_get hd
    have hi : i < 2 := by have hi : i < ((2 : Int) - (k6 : Int)).toNat := hi; omega
    obtain ⟨oi, hoi⟩ : ∃ oi, oi = i := ⟨i, rfl⟩
    subst hoi
    refine sg_n 8 rfl ?_ sc75.nd
    refine ss_own 12 ?_ rfl sc75.nd
    refine ea_nil ?_
    refine ⟨[], rfl, by decide, rfl, ?_⟩
    refine ss_for (ts := [13]) ?_
    refine ei_l ?_
    refine ef_i 9 rfl ?_
    refine ⟨_, rfl, ?_⟩
    refine ⟨(fun i G' => ∃ cs own, G' = [.urn cs, .imm (.int 3), .imm (.int 3), .imm (.int 12), .imm (.int 2), .imm (.int 4), .own (dv.map .int), .imm (.int (1 + (k1 : Int))), .imm (.int (oi : Int)), .imm (.list (ss.map .str)), .imm (.list (cl.map ptyD)), .own (hps.map pilD), .own (own.map .str), .un, .un] ∧ own.Sublist (ss.take i) ∧ Ur (n + 24 + 5 * oi + i) cs), ⟨_, [], rfl, List.nil_sublist _, hui⟩, fun i d G1 hd hP => ?_, fun G1 hP => ?_⟩
    ·
      obtain ⟨cs, own, rfl, hos, huj⟩ := hP
      obtain ⟨z, hz, rfl⟩ := str_get hd
      have hi3 : i < ss.length := (List.getElem?_eq_some_iff.mp hz).1
      have hol := hos.length_le
      rw [List.length_take] at hol
      refine sg_n 13 rfl ?_ sc75.nd
      refine ss_expr ?_
      refine ef_extend 12 rfl rfl ?_
      refine ef_mulL ?_
      refine ef_lst ?_
      refine ea_d ?_
      refine ef_i 13 rfl ?_
      refine ⟨_, rfl, ?_⟩
      refine ea_nil ?_
      refine ⟨[_], rfl, show 1 ≤ sizeLine by decide, ?_⟩
      refine ⟨_, rfl, ?_⟩
      refine ef_sub ?_
      refine ef_int ?_
      refine ⟨_, rfl, ?_⟩
      refine ef_cU 0 k__law_pull (hr.mono (by omega)) ?_
      refine ea_cons ?_
      refine ef_o 0 rfl rfl ?_
      refine ⟨⟨_, rfl⟩, ?_⟩
      refine ea_d ?_
      refine ef_int ?_
      refine ⟨_, rfl, ?_⟩
      refine ea_nil ?_
      refine ⟨_, _, (n + 24 + 5 * oi + i, 2), rfl, rfl, rfl, ⟨huj, (by show n + 24 + 5 * oi + i + 1 ≤ 1000000; omega), by show 1 ≤ 2; omega, by show 2 ≤ 100000; omega⟩, fun d cs hd => ?_⟩
      obtain ⟨k7, rfl, hk7, hu10⟩ := hd
      have hk7 : k7 < 2 := hk7
      refine ⟨_, _, rfl, rfl, ?_⟩
      refine ⟨_, _, rfl, rfl, (by exact ⟨by show (0 : Int) ≤ 1 - (k7 : Int); omega, by show (1 : Int) - (k7 : Int) ≤ 100; omega, show 1 ≤ 100 by decide⟩), ?_⟩
      rw [mul_sel hk7]
      refine ⟨_, _, rfl, rfl, _, rfl, (by have h9 := selS_len k7 z; rw [List.length_map, List.length_map]; omega), ?_⟩
      refine ss_fgt [13] rfl (ss_nil ?_)
      exact ⟨_, own ++ selS k7 z, by rw [List.map_append]; rfl, sub_step hos hz, hu10⟩
    obtain ⟨cs, own, rfl, hos, huj⟩ := hP
    rw [List.length_map] at hos huj
    rw [List.take_length] at hos
    have huj : Ur (n + 27 + 5 * oi) cs := huj.mono (by omega)
    refine ss_set 14 ?_ rfl sc75.nd
    refine ef_sub ?_
    refine ef_i 5 rfl ?_
    refine ⟨_, rfl, ?_⟩
    refine ef_cU 0 k__law_pull (hr.mono (by omega)) ?_
    refine ea_cons ?_
    refine ef_o 0 rfl rfl ?_
    refine ⟨⟨_, rfl⟩, ?_⟩
    refine ea_d ?_
    refine ef_add ?_
    refine ef_i 5 rfl ?_
    refine ⟨_, rfl, ?_⟩
    refine ef_int ?_
    refine ⟨_, _, rfl, rfl, ?_⟩
    refine ⟨_, rfl, ?_⟩
    refine ea_nil ?_
    refine ⟨_, _, (n + 27 + 5 * oi, 5), rfl, rfl, rfl, ⟨huj, (by show n + 27 + 5 * oi + 1 ≤ 1000000; omega), by show 1 ≤ 5; omega, by show 5 ≤ 100000; omega⟩, fun d cs hd => ?_⟩
    obtain ⟨k8, rfl, hk8, hu11⟩ := hd
    have hk8 : k8 < 5 := hk8
    refine ⟨_, _, rfl, rfl, ?_⟩
    refine ⟨_, rfl, rfl, ?_⟩
    refine ss_expr ?_
    refine ef_append 11 rfl rfl ?_
    refine ef_tup ?_
    refine ea_d ?_
    refine ef_i 14 rfl ?_
    refine ⟨_, rfl, ?_⟩
    refine ea_d ?_
    refine ef_tuple B ?_
    refine ef_cutP (fun v G' => ∃ cs2 zs, LsOf G' (zs.map .str) v ∧ G' = [.urn cs2, .imm (.int 3), .imm (.int 3), .imm (.int 12), .imm (.int 2), .imm (.int 4), .own (dv.map .int), .imm (.int (1 + (k1 : Int))), .imm (.int (oi : Int)), .imm (.list (ss.map .str)), .imm (.list (cl.map ptyD)), .own (hps.map pilD), .own (own.map .str), .un, .imm (.int (4 - (k8 : Int)))] ∧ zs ≠ [] ∧ zs.Sublist ss ∧ Ur (n + 29 + 5 * oi) cs2) ?_ fun v G2 hv => ?_
    ·
      refine ef_if ?_
      refine et_c ?_
      refine ec_neO hr 12 rfl rfl rfl (cmp_strsL fun z hz => nm_strOk (hsm z (hos.subset hz))) ?_
      refine ⟨_, rfl, ?_⟩
      refine ⟨fun hk => ?_, fun hk => ?_⟩
      ·
        refine ef_o 12 rfl rfl ?_
        exact ⟨_, own, ⟨_, rfl, rfl⟩, rfl, (fun e => by rw [own_eq, decide_eq_true e] at hk; cases hk), hos, hu11.mono (by omega)⟩
      ·
        refine ef_lst ?_
        refine ea_d ?_
        refine ef_cU 0 k__law_pick (hr.mono (by omega)) ?_
        refine ea_cons ?_
        refine ef_o 0 rfl rfl ?_
        refine ⟨⟨_, rfl⟩, ?_⟩
        refine ea_d ?_
        refine ef_i 9 rfl ?_
        refine ⟨_, rfl, ?_⟩
        refine ea_nil ?_
        refine ⟨_, _, (n + 27 + 5 * oi + 1, ss.map PyData.str), rfl, rfl, rfl, ⟨hu11, (by show n + 27 + 5 * oi + 1 + 1 ≤ 1000000; omega), by show 1 ≤ (ss.map PyData.str).length; rw [List.length_map]; omega, by show (ss.map PyData.str).length ≤ 100000; rw [List.length_map]; omega⟩, fun d cs hd => ?_⟩
        obtain ⟨hm, hu12⟩ := hd
        obtain ⟨z, hz, rfl⟩ := List.mem_map.mp hm
        refine ⟨_, rfl, ?_⟩
        refine ea_nil ?_
        refine ⟨[_], rfl, show 1 ≤ sizeLine by decide, ?_⟩
        exact ⟨_, [z], rfl, rfl, by simp, List.singleton_sublist.mpr hz, hu12.mono (by omega)⟩
    obtain ⟨cs2, zs, hls, rfl, hzn, hzs, hu13⟩ := hv
    refine ⟨_, hls, ?_⟩
    refine ⟨_, rfl, ?_⟩
    refine ea_nil ?_
    refine ⟨[_, _], rfl, show 2 ≤ sizeLine by decide, ?_⟩
    refine ⟨_, _, rfl, rfl, _, rfl, (by rw [List.length_map]; omega), ?_⟩
    refine ss_drop 12 rfl ?_
    refine ss_fgt [8, 13, 14] rfl (ss_nil ?_)
    exact ⟨_, hps ++ [(4 - (k8 : Int), zs)], by rw [List.map_append]; rfl, by rw [List.length_append, hhl]; rfl, (fun h hm => by rcases List.mem_append.mp hm with hm | hm; exact hho h hm; rw [List.mem_singleton] at hm; subst hm; exact ⟨by show 0 ≤ 4 - (k8 : Int); omega, by show 4 - (k8 : Int) ≤ 4; omega, hzn, hzs⟩), hu13.mono (by omega)⟩
  obtain ⟨cs, hps, rfl, hhl, hho, hui⟩ := hP
  rw [rngD_len] at hhl hui
  refine ss_retD ?_
  refine ef_lst ?_
  refine ea_d ?_
  refine ef_tuple B ?_
  refine ef_o 6 rfl rfl ?_
  refine ⟨_, ⟨_, rfl, rfl⟩, ?_⟩
  refine ⟨_, rfl, ?_⟩
  refine ea_d ?_
  refine ef_tuple B ?_
  refine ef_i 10 rfl ?_
  refine ⟨_, rfl, ?_⟩
  refine ⟨_, rfl, ?_⟩
  refine ea_d ?_
  refine ef_tuple B ?_
  refine ef_o 11 rfl rfl ?_
  refine ⟨_, ⟨_, rfl, rfl⟩, ?_⟩
  refine ⟨_, rfl, ?_⟩
  refine ea_nil ?_
  refine ⟨[_, _, _], rfl, show 3 ≤ sizeLine by decide, ?_⟩
  refine ⟨_, rfl, ?_⟩
  exact fun cs2 e => by cases e; exact ⟨⟨⟨dv, cl, hps⟩, pt_ok hdv hcf hs1 hs3 hsn hsm hcc (by omega) hho, rfl⟩, hui.mono (by omega)⟩
end W
/-! PE: the sheet's rows, paths, groups. -/
namespace W
open PySem PySem.Spec PyProof.Rows L2 DL M TL
theorem join_cons (s x : Str) {ws : List Str} (h : ws ≠ []) : x ++ s ++ Txt.join s ws = Txt.join s (x :: ws) := by
  rw [TL.join_eq, TL.join_eq]
  cases ws with
  | nil => exact absurd rfl h
  | cons y r => rfl
theorem rowD_eq {p : Pt} (o : Ok p) : ("divisors " : Str) ++ Txt.join " " (p.dv.map num) = joinS (rowDW p) := by
  have h : p.dv.map num ≠ [] := fun e => by
    have h1 := congrArg List.length e
    rw [List.length_map] at h1
    have := o.d1
    simp at h1
    rw [h1] at this
    simp at this
  show _ = Txt.join " " ("divisors" :: p.dv.map num)
  rw [← join_cons _ _ h, show ("divisors " : Str) = "divisors" ++ " " from by decide +kernel]
theorem rowC_eq (c : Str × Int) : ("party " : Str) ++ c.1 ++ " " ++ num c.2 = joinS (rowCW c) := by
  show _ = Txt.join " " ["party", c.1, num c.2]
  rw [← join_cons _ _ (by simp), ← join_cons _ _ (by simp), show ("party " : Str) = "party" ++ " " from by decide +kernel]
  have e : Txt.join " " [num c.2] = num c.2 := by
    rw [TL.join_eq]
    rfl
  rw [e]
  simp only [Str.append_assoc]
theorem rowH_eq {h : Int × List Str} (ne : h.2 ≠ []) : ("pile " : Str) ++ num h.1 ++ " " ++ Txt.join " " h.2 = joinS (rowHW h) := by
  show _ = Txt.join " " ("pile" :: num h.1 :: h.2)
  rw [← join_cons _ _ (by simp), ← join_cons _ _ ne, show ("pile " : Str) = "pile" ++ " " from by decide +kernel]
  simp only [Str.append_assoc]
def dvF : PyData → PyData
  | .int i => .str (num i)
  | _ => .none
def unS : PyData → Str
  | .str z => z
  | _ => ""
def paF : PyData → PyData
  | .tuple [.str z, .int n] => .str (("party " : Str) ++ z ++ " " ++ num n)
  | _ => .none
def piF : PyData → PyData
  | .tuple [.int n, .tuple ds] => .str (("pile " : Str) ++ num n ++ " " ++ Txt.join " " (ds.map unS))
  | _ => .none
theorem unS_map (ss : List Str) : (ss.map PyData.str).map unS = ss := by
  rw [List.map_map]
  exact List.map_id' _
theorem dvs_eq (dv : List Int) : (dv.map PyData.int).map dvF = (dv.map num).map .str := by
  rw [List.map_map, List.map_map]
  rfl
theorem rows_fin {p : Pt} (o : Ok p) : ([PyData.str (("divisors " : Str) ++ Txt.join " " (p.dv.map num))] ++ (p.cl.map ptyD).map paF) ++ (p.hp.map pilD).map piF = (rowsS p).map .str := by
  rw [rowD_eq o]
  unfold rowsS rowsW
  rw [List.map_cons, List.map_append, List.map_cons, List.map_append, List.map_map, List.map_map, List.map_map, List.map_map, List.map_map, List.map_map]
  show (_ :: _) ++ _ = _ :: (_ ++ _)
  rw [List.cons_append]
  refine congrArg (List.cons _) ?_
  show List.map (paF ∘ ptyD) p.cl ++ _ = _
  refine congr (congrArg HAppend.hAppend ?_) ?_
  · refine List.map_congr_left fun c _ => ?_
    show PyData.str (("party " : Str) ++ c.1 ++ " " ++ num c.2) = .str (joinS (rowCW c))
    rw [rowC_eq]
  · refine List.map_congr_left fun h hh => ?_
    show PyData.str (("pile " : Str) ++ num h.1 ++ " " ++ Txt.join " " ((h.2.map PyData.str).map unS)) = .str (joinS (rowHW h))
    rw [unS_map, rowH_eq (o.hn h hh).1]
theorem sum_le {ys : List Str} {k : Nat} (h : ∀ y ∈ ys, y.length ≤ k) : (ys.map (·.length)).sum ≤ ys.length * k := by
  induction ys with
  | nil => exact Nat.zero_le _
  | cons y ys ih =>
    have h1 := h y List.mem_cons_self
    have h2 := ih fun z m => h z (List.mem_cons_of_mem _ m)
    rw [List.map_cons, List.sum_cons, List.length_cons, Nat.add_mul, Nat.one_mul]
    omega
theorem nmL {z : Str} (h : NmOk z) : z.length ≤ 8 := h.hi
theorem log_ok {i : Int} (h : i.natAbs ≤ 1000000) : i.natAbs.log2 < 1920 := by
  by_cases z : i.natAbs = 0
  · rw [z]; decide +kernel
  · exact (Nat.log2_lt z).mpr (Nat.lt_of_le_of_lt h (by decide +kernel))
theorem hp_names {p : Pt} (o : Ok p) {h : Int × List Str} (hh : h ∈ p.hp) : h.2.length ≤ 3 ∧ ∀ z ∈ h.2, NmOk z := by
  have e := (o.hn h hh).2
  refine ⟨?_, fun z hz => ?_⟩
  · rw [e]
    have h1 := List.length_filter_le (fun z => decide (z ∈ h.2)) p.names
    have h2 := o.c3
    have h3 : p.names.length = p.cl.length := by simp [Pt.names]
    omega
  · rw [e] at hz
    exact o.cv z (List.mem_filter.mp hz).1
theorem nm_len3 {p : Pt} (o : Ok p) : p.names.length ≤ 3 := by
  have h2 := o.c3
  have h3 : p.names.length = p.cl.length := by simp [Pt.names]
  omega
theorem lsp : (" " : Str).length = 1 := by decide +kernel
/-! paths -/
structure TcOk (a : Pt × List Nat) : Prop where
  o : Ok a.1
  t : TabOk a.1 a.2
def StepsOk (p : Pt) (path : List PyData) : Prop := ∀ e ∈ path, ∃ z ∈ p.names, ∃ g, FrOk g ∧ e = .tuple [.str z, frD g]
theorem StepsOk.nil (p : Pt) : StepsOk p [] := fun e h => nomatch h
theorem StepsOk.add {p : Pt} {path : List PyData} (h : StepsOk p path) {z : Str} {g : Int × Int} (hz : z ∈ p.names) (hg : FrOk g) : StepsOk p (path ++ [.tuple [.str z, frD g]]) := fun e m => by
  rcases List.mem_append.mp m with m | m
  · exact h e m
  · rw [List.mem_singleton] at m
    exact ⟨z, hz, g, hg, m⟩
theorem pty_get {p : Pt} {i : Nat} {d : PyData} (h : (p.cl.map ptyD)[i]? = some d) : ∃ c, p.cl[i]? = some c ∧ d = ptyD c ∧ i < p.cl.length ∧ c.1 ∈ p.names := by
  rw [List.getElem?_map] at h
  obtain ⟨c, hc, e⟩ := Option.map_eq_some_iff.mp h
  exact ⟨c, hc, e.symm, (List.getElem?_eq_some_iff.mp hc).1, List.mem_map.mpr ⟨c, List.mem_of_getElem? hc, rfl⟩⟩
/-! groups -/
def tS (ss : List Str) : PyData := .tuple (ss.map .str)
def apS (z : Str) : PyData → PyData
  | .tuple ds => .tuple (ds ++ [.str z])
  | _ => .none
def GrOk (p : Pt) (ss : List Str) : Prop := ss.length ≤ 3 ∧ ∀ z ∈ ss, z ∈ p.names
theorem grp_eq (rows : List (List Str)) (z : Str) : (rows ++ rows.map fun s => s ++ [z]).map tS = rows.map tS ++ (rows.map tS).map (apS z) := by
  rw [List.map_append, List.map_map, List.map_map]
  congr 1
  refine List.map_congr_left fun s _ => ?_
  show PyData.tuple ((s ++ [z]).map .str) = .tuple (s.map .str ++ [.str z])
  rw [List.map_append]
  rfl
theorem tS_get {rows : List (List Str)} {i : Nat} {d : PyData} (h : (rows.map tS)[i]? = some d) : ∃ ss ∈ rows, d = tS ss := by
  rw [List.getElem?_map] at h
  obtain ⟨c, hc, e⟩ := Option.map_eq_some_iff.mp h
  exact ⟨c, List.mem_of_getElem? hc, e.symm⟩
def lkZ (p : Pt) (ls : List Int) : PyData → Int
  | .str z => ls.getD ((p.names.idxOf? z).getD 0) 0
  | _ => 0
theorem ls_at {ls : List Int} {j : Nat} (h : j < ls.length) : (ls.map PyData.int)[j]? = some (.int (ls.getD j 0)) := by
  rw [List.getElem?_map, List.getElem?_eq_getElem h, List.getD_eq_getElem?_getD, List.getElem?_eq_getElem h]
  rfl
theorem pow4 {i : Nat} (h : i < 3) : 2 ^ i ≤ 4 := Nat.pow_le_pow_right (n := 2) (by decide) (show i ≤ 2 by omega)
theorem pow8 {i : Nat} (h : i ≤ 3) : 2 ^ i ≤ 8 := Nat.pow_le_pow_right (n := 2) (by decide) h
end W
/-! V12: the law: sheet, gang, climb, group, bars -/
namespace W
open PySem PySem.Spec PyProof.Rows L2 DL M TL

theorem sc76 : FnScope ["_law_parts_here", "_law_rows", "_law_each", "_law_word", "_law_tally", "_law_heap", "_law_own"] ["_law_parts_here"] (defScope (topS 76)) := ⟨rfl, rfl, rfl, by decide +kernel, rfl, by decide +kernel, by decide +kernel⟩
abbrev T__law_sheet (S : Sys) : Prop := Kn S.P S.w S.K S.mg S.base 1 "_law_sheet" ["_law_parts_here"] (spF S.K S.C (α := Pt) (fun p => [ptD p]) (fun p => Ok p) (fun p => .str (sheet p)))
theorem w__law_sheet {S : Sys} (A : At S.K S.mg "_law_sheet" (topS 76)) (B : Bt S.mg) (g : Gv S.K S.mg)  : T__law_sheet S := by
  refine kn_F A sc76 (fun _ _ => rfl) (b1 fun _ _ _ _ _ _ _ => rfl) fun f cdv A outer s H E a hr hp => ?_
  have o : Ok a := hp
  generalize a = p at *
  have hc3 := o.c3
  have hd3 := o.d3
  have hh2 := o.h2
  have hrD := row_len o (joinS (rowDW p)) (by simp [rowsS, rowsW])
  rw [← rowD_eq o, len_app] at hrD
  have hnl : ∀ y ∈ p.dv.map num, y.length ≤ 8 := fun y hy => by
      obtain ⟨x, hx, rfl⟩ := List.mem_map.mp hy
      have := o.dr x hx
      exact (num_ok (by omega) (by omega)).1.hi
  refine ss_fr 1 ?_ rfl sc76.nd
  refine efr_lst ?_
  refine ea_d ?_
  refine ef_addS ?_
  refine ef_str ?_
  refine ⟨_, rfl, ?_⟩
  refine ef_join ?_
  refine ef_str ?_
  refine ⟨_, rfl, ?_⟩
  refine ef_lcM (ts := [2]) [("_law_each", 2)] dvF (show blkC ["_law_parts_here", "_law_rows", "_law_each", "_law_word", "_law_tally", "_law_heap", "_law_own"] (defScope (topS 76)) _ [("_law_each", 2)] = true from by decide +kernel) sc76.nd ?_
  refine ei_t ?_
  refine ef_ixL ?_
  refine ef_i 0 rfl ?_
  refine ⟨_, rfl, ?_⟩
  refine ef_int ?_
  refine ⟨_, _, _, rfl, rfl, (atI_of (i := 0) rfl), ?_⟩
  refine ⟨_, rfl, ?_⟩
  refine ⟨rfl, (by rw [List.length_map]; omega), by decide, fun d hd s H0 Cc cl fp => ?_, ?_⟩
  ·
    obtain ⟨x, hx, rfl⟩ := List.mem_map.mp hd
    have hxr := o.dr x hx
    refine sg_n 2 rfl ?_ sc76.nd
    refine ⟨rfl, fun s H0 Cc cl fp => ?_⟩
    refine ef_strI B ?_
    refine ef_i 2 rfl ?_
    refine ⟨_, rfl, (log_ok (by omega)), ?_⟩
    exact ⟨rfl, rfl⟩
  rw [dvs_eq]
  refine ⟨_, (.inl rfl), (by have h1 := sum_le hnl; rw [List.length_map] at *; show _ + _ * 1 ≤ _; omega), ?_⟩
  refine ⟨_, _, rfl, rfl, (by have h0 := lsp; rw [sizeLine_eq]; omega), ?_⟩
  refine ⟨_, rfl, ?_⟩
  refine ea_nil ?_
  refine ⟨[_], rfl, show 1 ≤ sizeLine by decide, ?_⟩
  refine ⟨rfl, ?_⟩
  refine ss_expr ?_
  refine ef_extend 1 rfl rfl ?_
  refine ef_lcM (ts := ([3] ++ ([4] ++ []))) [("_law_word", 3), ("_law_tally", 4)] paF (show blkC ["_law_parts_here", "_law_rows", "_law_each", "_law_word", "_law_tally", "_law_heap", "_law_own"] (defScope (topS 76)) _ [("_law_word", 3), ("_law_tally", 4)] = true from by decide +kernel) sc76.nd ?_
  refine ei_t ?_
  refine ef_ixL ?_
  refine ef_i 0 rfl ?_
  refine ⟨_, rfl, ?_⟩
  refine ef_int ?_
  refine ⟨_, _, _, rfl, rfl, (atI_of (i := 1) rfl), ?_⟩
  refine ⟨_, rfl, ?_⟩
  refine ⟨rfl, (by rw [List.length_map]; omega), by decide, fun d hd s H0 Cc cl fp => ?_, ?_⟩
  ·
    obtain ⟨c, hc, rfl⟩ := List.mem_map.mp hd
    have hr9 := row_len o (joinS (rowCW c)) (by simp [rowsS, rowsW]; exact .inr (.inl ⟨c.1, c.2, hc, rfl⟩))
    rw [← rowC_eq, len_app, len_app, len_app] at hr9
    unfold num at hr9
    have hcr := o.ct c hc
    unfold ptyD
    refine sg_t ?_
    refine sr_cons ?_
    refine sg_n 3 rfl ?_ sc76.nd
    refine sr_cons ?_
    refine sg_n 4 rfl ?_ sc76.nd
    refine sr_nil ?_
    refine ⟨rfl, fun s H0 Cc cl fp => ?_⟩
    refine ef_addS ?_
    refine ef_addS ?_
    refine ef_addS ?_
    refine ef_str ?_
    refine ⟨_, rfl, ?_⟩
    refine ef_i 3 rfl ?_
    refine ⟨_, _, rfl, rfl, (by have h0 := lsp; rw [sizeLine_eq]; omega), ?_⟩
    refine ⟨_, rfl, ?_⟩
    refine ef_str ?_
    refine ⟨_, _, rfl, rfl, (by have h0 := lsp; rw [len_app]; rw [sizeLine_eq]; omega), ?_⟩
    refine ⟨_, rfl, ?_⟩
    refine ef_strI B ?_
    refine ef_i 4 rfl ?_
    refine ⟨_, rfl, (log_ok (by omega)), ?_⟩
    refine ⟨_, _, rfl, rfl, (by have h0 := lsp; rw [len_app, len_app]; rw [sizeLine_eq]; omega), ?_⟩
    exact ⟨rfl, rfl⟩
  refine ⟨_, _, rfl, rfl, _, rfl, (by rw [List.length_map, List.length_map]; show 1 + _ ≤ _; omega), ?_⟩
  refine ss_expr ?_
  refine ef_extend 1 rfl rfl ?_
  refine ef_lcM (ts := ([5] ++ ([6] ++ []))) [("_law_heap", 5), ("_law_own", 6)] piF (show blkC ["_law_parts_here", "_law_rows", "_law_each", "_law_word", "_law_tally", "_law_heap", "_law_own"] (defScope (topS 76)) _ [("_law_heap", 5), ("_law_own", 6)] = true from by decide +kernel) sc76.nd ?_
  refine ei_t ?_
  refine ef_ixL ?_
  refine ef_i 0 rfl ?_
  refine ⟨_, rfl, ?_⟩
  refine ef_int ?_
  refine ⟨_, _, _, rfl, rfl, (atI_of (i := 2) rfl), ?_⟩
  refine ⟨_, rfl, ?_⟩
  refine ⟨rfl, (by rw [List.length_map]; omega), by decide, fun d hd s H0 Cc cl fp => ?_, ?_⟩
  ·
    obtain ⟨h, hh, rfl⟩ := List.mem_map.mp hd
    have hr9 := row_len o (joinS (rowHW h)) (by simp [rowsS, rowsW]; exact .inr (.inr ⟨h.1, h.2, hh, rfl⟩))
    rw [← rowH_eq (o.hn h hh).1, len_app, len_app, len_app] at hr9
    unfold num at hr9
    have hhr := o.hs h hh
    obtain ⟨hn3, hnn⟩ := hp_names o hh
    unfold pilD
    refine sg_t ?_
    refine sr_cons ?_
    refine sg_n 5 rfl ?_ sc76.nd
    refine sr_cons ?_
    refine sg_n 6 rfl ?_ sc76.nd
    refine sr_nil ?_
    refine ⟨rfl, fun s H0 Cc cl fp => ?_⟩
    refine ef_addS ?_
    refine ef_addS ?_
    refine ef_addS ?_
    refine ef_str ?_
    refine ⟨_, rfl, ?_⟩
    refine ef_strI B ?_
    refine ef_i 5 rfl ?_
    refine ⟨_, rfl, (log_ok (by omega)), ?_⟩
    refine ⟨_, _, rfl, rfl, (by have h0 := lsp; rw [sizeLine_eq]; omega), ?_⟩
    refine ⟨_, rfl, ?_⟩
    refine ef_str ?_
    refine ⟨_, _, rfl, rfl, (by have h0 := lsp; rw [len_app]; rw [sizeLine_eq]; omega), ?_⟩
    refine ⟨_, rfl, ?_⟩
    refine ef_join ?_
    refine ef_str ?_
    refine ⟨_, rfl, ?_⟩
    refine ef_i 6 rfl ?_
    refine ⟨_, (.inr rfl), (by have h1 := sum_le fun y hy => nmL (hnn y hy); show _ + _ * 1 ≤ _; omega), ?_⟩
    refine ⟨_, _, rfl, rfl, (by have h0 := lsp; rw [len_app, len_app]; rw [sizeLine_eq]; omega), ?_⟩
    exact ⟨(by show _ = Vl.d (.str (("pile " : Str) ++ num h.1 ++ " " ++ Txt.join " " ((h.2.map PyData.str).map unS))); rw [unS_map]; rfl), rfl⟩
  refine ⟨_, _, rfl, rfl, _, rfl, (by rw [List.length_append, List.length_map, List.length_map, List.length_map, List.length_map]; show 1 + _ + _ ≤ _; omega), ?_⟩
  refine ss_retD ?_
  refine ef_join ?_
  refine ef_str ?_
  refine ⟨_, rfl, ?_⟩
  refine ef_o 1 rfl rfl ?_
  refine ⟨_, ⟨_, rfl, congrArg some (rows_fin o)⟩, (by have h1 := sum_le (row_len o); have h2 : (rowsS p).length = p.cl.length + p.hp.length + 1 := (by simp [rowsS, rowsW]); show _ + _ * 1 ≤ _; omega), ?_⟩
  refine ⟨_, rfl, ?_⟩
  exact rfl
theorem sc79 : FnScope ["_law_urn_here", "_law_parts_here", "_law_called_here", "_law_some", "_law_word", "_law_tally"] ["_law_urn_here", "_law_parts_here"] (defScope (topS 79)) := ⟨rfl, rfl, rfl, by decide +kernel, rfl, by decide +kernel, by decide +kernel⟩
abbrev T__law_gang (S : Sys) : Prop := Kn S.P S.w S.K S.mg S.base 3 "_law_gang" ["_law_urn_here", "_law_parts_here"] (spUA S.K S.C (α := Nat × Pt) (fun q => [ptD q.2]) (fun q cs => Ur q.1 cs ∧ q.1 + 4 ≤ 1000000 ∧ Ok q.2) (fun q _ d cs => (∃ ss : List Str, d = .tuple (ss.map .str) ∧ GrOk q.2 ss) ∧ Ur (q.1 + 4) cs))
theorem w__law_gang {S : Sys} (A : At S.K S.mg "_law_gang" (topS 79)) (B : Bt S.mg) (g : Gv S.K S.mg) (k__law_pull : T__law_pull S) (k__law_pick : T__law_pick S) : T__law_gang S := by
  refine kn_U A sc79 (fun _ _ _ => rfl) (b2 fun _ _ _ _ _ _ _ _ => rfl) fun f cdv A outer s H E a cs hr hp => ?_
  obtain ⟨n, p⟩ := a
  obtain ⟨hu, hn, o⟩ := hp
  have hn : n + 4 ≤ 1000000 := hn
  have o : Ok p := o
  have hc1 := o.c1
  have hc3 := o.c3
  have hn3 := nm_len3 o
  have hn1 : 1 ≤ p.names.length := by
      have h3 : p.names.length = p.cl.length := by simp [Pt.names]
      omega
  refine ss_set 2 ?_ rfl sc79.nd
  refine ef_sortedS B ?_
  refine ef_lcM (ts := ([4] ++ ([5] ++ []))) [("_law_word", 4), ("_law_tally", 5)] cnG (show blkC ["_law_urn_here", "_law_parts_here", "_law_called_here", "_law_some", "_law_word", "_law_tally"] (defScope (topS 79)) _ [("_law_word", 4), ("_law_tally", 5)] = true from by decide +kernel) sc79.nd ?_
  refine ei_t ?_
  refine ef_ixL ?_
  refine ef_i 1 rfl ?_
  refine ⟨_, rfl, ?_⟩
  refine ef_int ?_
  refine ⟨_, _, _, rfl, rfl, (atI_of (i := 1) rfl), ?_⟩
  refine ⟨_, rfl, ?_⟩
  refine ⟨rfl, (by rw [List.length_map]; show p.cl.length ≤ _; omega), by decide, fun d hd s H0 Cc cl fp => ?_, ?_⟩
  ·
    obtain ⟨c, hc, rfl⟩ := List.mem_map.mp hd
    unfold ptyD
    refine sg_t ?_
    refine sr_cons ?_
    refine sg_n 4 rfl ?_ sc79.nd
    refine sr_cons ?_
    refine sg_n 5 rfl ?_ sc79.nd
    refine sr_nil ?_
    refine ⟨rfl, fun s H0 Cc cl fp => ?_⟩
    refine ef_i 4 rfl ?_
    exact ⟨rfl, rfl⟩
  rw [cn_names]
  refine ⟨_, rfl, (by show p.names.length < 64; omega), fun ys hp hs => ?_⟩
  have hyl : ys.length = p.names.length := hp.length_eq
  have hyn : ∀ z ∈ ys, z ∈ p.names := fun z hz => hp.mem_iff.mp hz
  refine ⟨_, rfl, rfl, ?_⟩
  refine ss_own 3 ?_ rfl sc79.nd
  refine ea_nil ?_
  refine ⟨[], rfl, by decide, rfl, ?_⟩
  refine ss_for (ts := [4]) ?_
  refine ei_l ?_
  refine ef_i 2 rfl ?_
  refine ⟨_, rfl, ?_⟩
  refine ⟨(fun i G' => ∃ cs own, G' = [.urn cs, .imm (ptD p), .imm (.list (ys.map .str)), .own (own.map .str), .un, .un] ∧ own.Sublist (ys.take i) ∧ Ur (n + i) cs), ⟨_, [], rfl, List.nil_sublist _, hu⟩, fun i d G1 hd hP => ?_, fun G1 hP => ?_⟩
  ·
    obtain ⟨cs, own, rfl, hos, huj⟩ := hP
    obtain ⟨z, hz, rfl⟩ := str_get hd
    have hi3 : i < ys.length := (List.getElem?_eq_some_iff.mp hz).1
    have hol := hos.length_le
    rw [List.length_take] at hol
    refine sg_n 4 rfl ?_ sc79.nd
    refine ss_expr ?_
    refine ef_extend 3 rfl rfl ?_
    refine ef_mulL ?_
    refine ef_lst ?_
    refine ea_d ?_
    refine ef_i 4 rfl ?_
    refine ⟨_, rfl, ?_⟩
    refine ea_nil ?_
    refine ⟨[_], rfl, show 1 ≤ sizeLine by decide, ?_⟩
    refine ⟨_, rfl, ?_⟩
    refine ef_sub ?_
    refine ef_int ?_
    refine ⟨_, rfl, ?_⟩
    refine ef_cU 0 k__law_pull (hr.mono (by omega)) ?_
    refine ea_cons ?_
    refine ef_o 0 rfl rfl ?_
    refine ⟨⟨_, rfl⟩, ?_⟩
    refine ea_d ?_
    refine ef_int ?_
    refine ⟨_, rfl, ?_⟩
    refine ea_nil ?_
    refine ⟨_, _, (n + i, 2), rfl, rfl, rfl, ⟨huj, (by show n + i + 1 ≤ 1000000; omega), by show 1 ≤ 2; omega, by show 2 ≤ 100000; omega⟩, fun d cs hd => ?_⟩
    obtain ⟨k7, rfl, hk7, hu10⟩ := hd
    have hk7 : k7 < 2 := hk7
    refine ⟨_, _, rfl, rfl, ?_⟩
    refine ⟨_, _, rfl, rfl, (by exact ⟨by show (0 : Int) ≤ 1 - (k7 : Int); omega, by show (1 : Int) - (k7 : Int) ≤ 100; omega, show 1 ≤ 100 by decide⟩), ?_⟩
    rw [mul_sel hk7]
    refine ⟨_, _, rfl, rfl, _, rfl, (by have h9 := selS_len k7 z; rw [List.length_map, List.length_map]; omega), ?_⟩
    refine ss_fgt [4] rfl (ss_nil ?_)
    exact ⟨_, own ++ selS k7 z, by rw [List.map_append]; rfl, sub_step hos hz, hu10⟩
  obtain ⟨cs, own, rfl, hos, huj⟩ := hP
  rw [List.length_map] at hos huj
  rw [List.take_length] at hos
  have hol := hos.length_le
  have huj : Ur (n + 3) cs := huj.mono (by omega)
  refine ss_retD ?_
  refine ef_cutP (fun v G' => ∃ cs2, ∃ ss : List Str, v = .d (.tuple (ss.map .str)) ∧ G' = [.urn cs2, .imm (ptD p), .imm (.list (ys.map .str)), .own (own.map .str), .un, .un] ∧ GrOk p ss ∧ Ur (n + 4) cs2) ?_ fun v G2 hv => ?_
  ·
    refine ef_if ?_
    refine et_c ?_
    refine ec_neO hr 3 rfl rfl rfl (cmp_strsL fun z hz => nm_strOk (o.cv z (hyn z (hos.subset hz)))) ?_
    refine ⟨_, rfl, ?_⟩
    refine ⟨fun hk => ?_, fun hk => ?_⟩
    ·
      refine ef_tuple B ?_
      refine ef_o 3 rfl rfl ?_
      refine ⟨_, ⟨_, rfl, rfl⟩, ?_⟩
      exact ⟨_, own, rfl, rfl, ⟨by omega, fun z hz => hyn z (hos.subset hz)⟩, huj.mono (by omega)⟩
    ·
      refine ef_tup ?_
      refine ea_d ?_
      refine ef_cU 0 k__law_pick (hr.mono (by omega)) ?_
      refine ea_cons ?_
      refine ef_o 0 rfl rfl ?_
      refine ⟨⟨_, rfl⟩, ?_⟩
      refine ea_d ?_
      refine ef_i 2 rfl ?_
      refine ⟨_, rfl, ?_⟩
      refine ea_nil ?_
      refine ⟨_, _, (n + 3, ys.map PyData.str), rfl, rfl, rfl, ⟨huj, (by show n + 3 + 1 ≤ 1000000; omega), by show 1 ≤ (ys.map PyData.str).length; rw [List.length_map]; omega, by show (ys.map PyData.str).length ≤ 100000; rw [List.length_map]; omega⟩, fun d cs hd => ?_⟩
      obtain ⟨hm, hu12⟩ := hd
      obtain ⟨z, hz, rfl⟩ := List.mem_map.mp hm
      refine ⟨_, rfl, ?_⟩
      refine ea_nil ?_
      refine ⟨[_], rfl, show 1 ≤ sizeLine by decide, ?_⟩
      exact ⟨_, [z], rfl, rfl, ⟨show 1 ≤ 3 by decide, fun y hy => by rw [List.mem_singleton] at hy; rw [hy]; exact hyn z hz⟩, hu12⟩
  obtain ⟨cs2, ss, rfl, rfl, hgr, hu13⟩ := hv
  refine ⟨_, rfl, ?_⟩
  exact fun cs3 e => by cases e; exact ⟨⟨ss, rfl, hgr⟩, hu13⟩
theorem sc86 : FnScope ["_law_parts_here", "_law_split", "_law_price", "_law_found", "_law_turn", "_law_before", "_law_at", "_law_club", "_law_later"] ["_law_parts_here", "_law_split"] (defScope (topS 86)) := ⟨rfl, rfl, rfl, by decide +kernel, rfl, by decide +kernel, by decide +kernel⟩
abbrev T__law_climb (S : Sys) : Prop := Kn S.P S.w S.K S.mg S.base 4 "_law_climb" ["_law_parts_here", "_law_split"] (spA S.K S.C (α := Pt × List Nat) (fun a => [ptD a.1, tabD a.2]) (fun a => TcOk a) (fun a d => ∃ path f, d = .list [.tuple path, frD f] ∧ FrOk f ∧ StepsOk a.1 path ∧ path.length ≤ 2700))
theorem w__law_climb {S : Sys} (A : At S.K S.mg "_law_climb" (topS 86)) (B : Bt S.mg) (g : Gv S.K S.mg) (k__law_forced : T__law_forced S) : T__law_climb S := by
  refine kn_A A sc86 (fun _ _ => rfl) (b2 fun _ _ _ _ _ _ _ _ => rfl) fun f cdv A outer s H E a hr hp => ?_
  obtain ⟨p, t⟩ := a
  have o : Ok p := hp.o
  have ht : TabOk p t := hp.t
  have hc3 := o.c3
  refine ss_parDO 2 3 ?_ sc86.nd
  refine ef_tup ?_
  refine ea_d ?_
  refine ef_int ?_
  refine ⟨_, rfl, ?_⟩
  refine ea_d ?_
  refine ef_int ?_
  refine ⟨_, rfl, ?_⟩
  refine ea_nil ?_
  refine ⟨[_, _], rfl, show 2 ≤ sizeLine by decide, ?_⟩
  refine ⟨_, rfl, ?_⟩
  refine efr_lst ?_
  refine ea_nil ?_
  refine ⟨[], rfl, show 0 ≤ sizeLine by decide, ?_⟩
  refine ⟨rfl, rfl, ?_⟩
  refine ss_for (ts := [4]) ?_
  refine ei_r B ?_
  refine ef_int ?_
  refine ⟨_, rfl, (by decide), (by decide), ?_⟩
  refine ⟨(fun i G' => ∃ f path, G' = [.imm (ptD p), .imm (tabD t), .imm (frD f), .own path, .un, .un, .un, .un, .un] ∧ FrOk f ∧ StepsOk p path ∧ path.length ≤ 3 * i), ⟨(0, 1), [], rfl, ⟨by decide, by decide, by decide, by decide⟩, .nil p, Nat.le_refl _⟩, fun i d G1 hd hP => ?_, fun G1 hP => ?_⟩
  ·
    obtain ⟨f, path, rfl, hf, hs, hl⟩ := hP
    obtain ⟨hi, rfl⟩ := rngD_get hd
    have hi : i < 900 := hi
    obtain ⟨oi, hoi⟩ : ∃ oi, oi = i := ⟨i, rfl⟩
    subst hoi
    refine sg_n 4 rfl ?_ sc86.nd
    refine ss_set 5 ?_ rfl sc86.nd
    refine ef_i 2 rfl ?_
    refine ⟨_, rfl, rfl, ?_⟩
    refine ss_for (ts := ([6] ++ ([7] ++ []))) ?_
    refine ei_enum B ?_
    refine ef_ixL ?_
    refine ef_i 0 rfl ?_
    refine ⟨_, rfl, ?_⟩
    refine ef_int ?_
    refine ⟨_, _, _, rfl, rfl, (atI_of (i := 1) rfl), ?_⟩
    refine ⟨_, rfl, ?_⟩
    refine ⟨(fun i G' => ∃ g path, G' = [.imm (ptD p), .imm (tabD t), .imm (frD g), .own path, .imm (.int (oi : Int)), .imm (frD f), .un, .un, .un] ∧ FrOk g ∧ StepsOk p path ∧ path.length ≤ 3 * oi + i), ⟨f, path, rfl, hf, hs, hl⟩, fun i d G1 hd hP => ?_, fun G1 hP => ?_⟩
    ·
      obtain ⟨g, path, rfl, hg, hs, hl⟩ := hP
      obtain ⟨e, he, rfl⟩ := enumD_inv hd
      obtain ⟨c, hc, rfl, hic, hcn⟩ := pty_get he
      obtain ⟨htab, htl⟩ := tab_at ht hic
      have hcm := List.mem_of_getElem? hc
      refine sg_t ?_
      refine sr_cons ?_
      refine sg_n 6 rfl ?_ sc86.nd
      refine sr_cons ?_
      refine sg_n 7 rfl ?_ sc86.nd
      refine sr_nil ?_
      refine ss_set 8 ?_ rfl sc86.nd
      refine ef_cF k__law_forced (hr.mono (by omega)) ?_
      refine ea_d ?_
      refine ef_i 0 rfl ?_
      refine ⟨_, rfl, ?_⟩
      refine ea_d ?_
      refine ef_i 1 rfl ?_
      refine ⟨_, rfl, ?_⟩
      refine ea_d ?_
      refine ef_i 6 rfl ?_
      refine ⟨_, rfl, ?_⟩
      refine ea_d ?_
      refine ef_i 2 rfl ?_
      refine ⟨_, rfl, ?_⟩
      refine ea_nil ?_
      refine ⟨(p, t, i, g), rfl, ⟨o, ht, hic, hg⟩, ?_⟩
      dsimp only
      rw [tl_at hc]
      generalize hsI : M.stepI p.dv c.2 (t.getD i 0) g = sI
      refine ⟨_, rfl, rfl, ?_⟩
      refine ss_ifM (fun G' => ∃ g path l8, G' = [.imm (ptD p), .imm (tabD t), .imm (frD g), .own path, .imm (.int (oi : Int)), .imm (frD f), .imm (.int (i : Int)), .imm (ptyD c), .imm l8] ∧ FrOk g ∧ StepsOk p path ∧ path.length ≤ 3 * oi + (i + 1)) ?_ fun G1 hM => ?_
      ·
        refine et_c ?_
        refine ec_notN ?_
        refine ef_i 8 rfl ?_
        refine ⟨_, rfl, ?_⟩
        refine ⟨_, rfl, ?_⟩
        refine ⟨fun hk => ?_, fun hk => ?_⟩
        ·
          obtain ⟨g2, rfl⟩ : ∃ g2, sI = some g2 := by cases sI with | none => cases hk | some g => exact ⟨g, rfl⟩
          obtain ⟨hgo, _⟩ := step_inv o (o.ct c hcm).1 (o.ct c hcm).2 htl hg hsI
          refine ss_set 2 ?_ rfl sc86.nd
          refine ef_i 8 rfl ?_
          refine ⟨_, rfl, rfl, ?_⟩
          refine ss_expr ?_
          refine ef_append 3 rfl rfl ?_
          refine ef_tup ?_
          refine ea_d ?_
          refine ef_ixT ?_
          refine ef_i 7 rfl ?_
          refine ⟨_, rfl, ?_⟩
          refine ef_int ?_
          refine ⟨_, _, _, rfl, rfl, (atI_of (i := 0) rfl), ?_⟩
          refine ⟨_, rfl, ?_⟩
          refine ea_d ?_
          refine ef_i 2 rfl ?_
          refine ⟨_, rfl, ?_⟩
          refine ea_nil ?_
          refine ⟨[_, _], rfl, show 2 ≤ sizeLine by decide, ?_⟩
          refine ⟨_, _, rfl, rfl, _, rfl, (by omega), ?_⟩
          refine ss_nil ?_
          exact ⟨g2, path ++ [.tuple [.str c.1, frD g2]], _, rfl, hgo, hs.add hcn hgo, by rw [List.length_append]; show path.length + 1 ≤ _; omega⟩
        ·
          refine ss_nil ?_
          exact ⟨g, path, _, rfl, hg, hs, by omega⟩
      obtain ⟨g2, path2, l8, rfl, hg2, hs2, hl2⟩ := hM
      refine ss_fgt [6, 7, 8] rfl (ss_nil ?_)
      exact ⟨g2, path2, rfl, hg2, hs2, hl2⟩
    obtain ⟨g, path, rfl, hg, hs, hl⟩ := hP
    rw [enumD_len, List.length_map] at hl
    refine ss_if ?_
    refine et_c ?_
    refine ec_eqD hr ?_
    refine ef_i 2 rfl ?_
    refine ⟨trivial, ?_⟩
    refine ef_i 5 rfl ?_
    refine ⟨_, _, rfl, rfl, (cmp_ints (xs := [g.1, g.2])), (cmp_ints (xs := [f.1, f.2])), ?_⟩
    refine ⟨_, rfl, ?_⟩
    refine ⟨fun hk => ?_, fun hk => ?_⟩
    ·
      refine ss_retD ?_
      refine ef_lst ?_
      refine ea_d ?_
      refine ef_tuple B ?_
      refine ef_o 3 rfl rfl ?_
      refine ⟨_, ⟨_, rfl, rfl⟩, ?_⟩
      refine ⟨_, rfl, ?_⟩
      refine ea_d ?_
      refine ef_i 2 rfl ?_
      refine ⟨_, rfl, ?_⟩
      refine ea_nil ?_
      refine ⟨[_, _], rfl, show 2 ≤ sizeLine by decide, ?_⟩
      refine ⟨_, rfl, ?_⟩
      exact ⟨path, g, rfl, hg, hs, by omega⟩
    refine ss_nil ?_
    refine ss_fgt [4, 5, 6, 7, 8] rfl (ss_nil ?_)
    exact ⟨g, path, rfl, hg, hs, by omega⟩
  obtain ⟨f, path, rfl, hf, hs, hl⟩ := hP
  rw [rngD_len] at hl
  refine ss_retD ?_
  refine ef_lst ?_
  refine ea_d ?_
  refine ef_tuple B ?_
  refine ef_o 3 rfl rfl ?_
  refine ⟨_, ⟨_, rfl, rfl⟩, ?_⟩
  refine ⟨_, rfl, ?_⟩
  refine ea_d ?_
  refine ef_i 2 rfl ?_
  refine ⟨_, rfl, ?_⟩
  refine ea_nil ?_
  refine ⟨[_, _], rfl, show 2 ≤ sizeLine by decide, ?_⟩
  refine ⟨_, rfl, ?_⟩
  exact ⟨path, f, rfl, hf, hs, by have h9 : Int.toNat 900 = 900 := rfl; omega⟩
theorem sc89 : FnScope ["_law_parts_here", "_law_lacks_here", "_law_groups", "_law_word", "_law_tally", "_law_called_here", "_law_row"] ["_law_parts_here", "_law_lacks_here"] (defScope (topS 89)) := ⟨rfl, rfl, rfl, by decide +kernel, rfl, by decide +kernel, by decide +kernel⟩
abbrev T__law_group (S : Sys) : Prop := Kn S.P S.w S.K S.mg S.base 2 "_law_group" ["_law_parts_here", "_law_lacks_here"] (spA S.K S.C (α := Pt × List Int) (fun a => [ptD a.1, .list (a.2.map .int)]) (fun a => Ok a.1 ∧ a.2.length = a.1.cl.length) (fun a d => ∃ ss : List Str, d = .tuple (ss.map .str) ∧ GrOk a.1 ss))
theorem w__law_group {S : Sys} (A : At S.K S.mg "_law_group" (topS 89)) (B : Bt S.mg) (g : Gv S.K S.mg) (k__law_given : T__law_given S) : T__law_group S := by
  refine kn_A A sc89 (fun _ _ => rfl) (b2 fun _ _ _ _ _ _ _ _ => rfl) fun f cdv A outer s H E a hr hp => ?_
  obtain ⟨p, ls⟩ := a
  obtain ⟨o, hll⟩ := hp
  have o : Ok p := o
  have hll : ls.length = p.cl.length := hll
  have hc3 := o.c3
  refine ss_set 2 ?_ rfl sc89.nd
  refine ef_lst ?_
  refine ea_d ?_
  refine ef_tup ?_
  refine ea_nil ?_
  refine ⟨[], rfl, show 0 ≤ sizeLine by decide, ?_⟩
  refine ⟨_, rfl, ?_⟩
  refine ea_nil ?_
  refine ⟨[_], rfl, show 1 ≤ sizeLine by decide, ?_⟩
  refine ⟨_, rfl, rfl, ?_⟩
  refine ss_for (ts := ([3] ++ ([4] ++ []))) ?_
  refine ei_t ?_
  refine ef_ixL ?_
  refine ef_i 0 rfl ?_
  refine ⟨_, rfl, ?_⟩
  refine ef_int ?_
  refine ⟨_, _, _, rfl, rfl, (atI_of (i := 1) rfl), ?_⟩
  refine ⟨_, rfl, ?_⟩
  refine ⟨(fun i G' => ∃ rows : List (List Str), G' = [.imm (ptD p), .imm (.list (ls.map .int)), .imm (.list (rows.map tS)), .un, .un, .un, .un] ∧ rows.length = 2 ^ i ∧ ∀ ss ∈ rows, ss.length ≤ i ∧ ∀ z ∈ ss, z ∈ p.names), ⟨[[]], rfl, rfl, fun ss m => by rw [List.mem_singleton] at m; subst m; exact ⟨Nat.le_refl _, fun z h => nomatch h⟩⟩, fun i d G1 hd hP => ?_, fun G1 hP => ?_⟩
  ·
    obtain ⟨rows, rfl, hrl, hro⟩ := hP
    obtain ⟨c, hc, rfl, hic, hcn⟩ := pty_get hd
    have hic : i < p.cl.length := hic
    have hp4 := pow4 (show i < 3 by omega)
    unfold ptyD
    refine sg_t ?_
    refine sr_cons ?_
    refine sg_n 3 rfl ?_ sc89.nd
    refine sr_cons ?_
    refine sg_n 4 rfl ?_ sc89.nd
    refine sr_nil ?_
    refine ss_set 2 ?_ rfl sc89.nd
    refine ef_addL ?_
    refine ef_i 2 rfl ?_
    refine ⟨_, rfl, ?_⟩
    refine ef_lcM (ts := [6]) [("_law_row", 6)] (apS c.1) (show blkC ["_law_parts_here", "_law_lacks_here", "_law_groups", "_law_word", "_law_tally", "_law_called_here", "_law_row"] (defScope (topS 89)) _ [("_law_row", 6)] = true from by decide +kernel) sc89.nd ?_
    refine ei_l ?_
    refine ef_i 2 rfl ?_
    refine ⟨_, rfl, ?_⟩
    refine ⟨rfl, (by rw [List.length_map]; omega), by decide, fun d hd s H0 Cc cl fp => ?_, ?_⟩
    ·
      obtain ⟨ss, hss, rfl⟩ := List.mem_map.mp hd
      have hsl := (hro ss hss).1
      unfold tS
      refine sg_n 6 rfl ?_ sc89.nd
      refine ⟨rfl, fun s H0 Cc cl fp => ?_⟩
      refine ef_addT ?_
      refine ef_i 6 rfl ?_
      refine ⟨_, rfl, ?_⟩
      refine ef_tup ?_
      refine ea_d ?_
      refine ef_i 3 rfl ?_
      refine ⟨_, rfl, ?_⟩
      refine ea_nil ?_
      refine ⟨[_], rfl, show 1 ≤ sizeLine by decide, ?_⟩
      refine ⟨_, _, rfl, rfl, (by rw [List.length_map]; show _ + 1 ≤ _; rw [sizeLine_eq]; omega), ?_⟩
      exact ⟨rfl, rfl⟩
    refine ⟨_, _, rfl, rfl, (by rw [List.length_map, List.length_map, List.length_map, sizeLine_eq]; omega), ?_⟩
    refine ⟨_, rfl, rfl, ?_⟩
    refine ss_fgt [3, 4] rfl (ss_nil ?_)
    exact ⟨rows ++ rows.map (fun s => s ++ [c.1]), by rw [grp_eq]; rfl, by rw [List.length_append, List.length_map, hrl, Nat.pow_succ]; omega, fun ss m => by
      rcases List.mem_append.mp m with m | m
      · exact ⟨by have := (hro ss m).1; omega, (hro ss m).2⟩
      · obtain ⟨s0, hs0, rfl⟩ := List.mem_map.mp m
        refine ⟨by rw [List.length_append]; have := (hro s0 hs0).1; show s0.length + 1 ≤ i + 1; omega, fun z hz => ?_⟩
        rcases List.mem_append.mp hz with hz | hz
        · exact (hro s0 hs0).2 z hz
        · rw [List.mem_singleton] at hz
          rw [hz]
          exact hcn⟩
  obtain ⟨rows, rfl, hrl, hro⟩ := hP
  rw [List.length_map] at hrl hro
  have hp8 := pow8 hc3
  have hrl : rows.length = 2 ^ p.cl.length := hrl
  have hro : ∀ ss ∈ rows, ss.length ≤ p.cl.length ∧ ∀ z ∈ ss, z ∈ p.names := hro
  refine ss_set 5 ?_ rfl sc89.nd
  refine ef_lcM (ts := ([3] ++ ([4] ++ []))) [("_law_word", 3), ("_law_tally", 4)] cnG (show blkC ["_law_parts_here", "_law_lacks_here", "_law_groups", "_law_word", "_law_tally", "_law_called_here", "_law_row"] (defScope (topS 89)) _ [("_law_word", 3), ("_law_tally", 4)] = true from by decide +kernel) sc89.nd ?_
  refine ei_t ?_
  refine ef_ixL ?_
  refine ef_i 0 rfl ?_
  refine ⟨_, rfl, ?_⟩
  refine ef_int ?_
  refine ⟨_, _, _, rfl, rfl, (atI_of (i := 1) rfl), ?_⟩
  refine ⟨_, rfl, ?_⟩
  refine ⟨rfl, (by rw [List.length_map]; show p.cl.length ≤ _; omega), by decide, fun d hd s H0 Cc cl fp => ?_, ?_⟩
  ·
    obtain ⟨c, hc, rfl⟩ := List.mem_map.mp hd
    unfold ptyD
    refine sg_t ?_
    refine sr_cons ?_
    refine sg_n 3 rfl ?_ sc89.nd
    refine sr_cons ?_
    refine sg_n 4 rfl ?_ sc89.nd
    refine sr_nil ?_
    refine ⟨rfl, fun s H0 Cc cl fp => ?_⟩
    refine ef_i 3 rfl ?_
    exact ⟨rfl, rfl⟩
  rw [cn_names]
  refine ⟨_, rfl, rfl, ?_⟩
  refine ss_for (ts := [6]) ?_
  refine ei_l ?_
  refine ef_i 2 rfl ?_
  refine ⟨_, rfl, ?_⟩
  refine ⟨(fun _ G' => G' = [.imm (ptD p), .imm (.list (ls.map .int)), .imm (.list (rows.map tS)), .un, .un, .imm (.list (p.names.map .str)), .un]), rfl, fun i d G1 hd hP => ?_, fun G1 hP => ?_⟩
  ·
    subst hP
    obtain ⟨ss, hsm, rfl⟩ := tS_get hd
    have hs3 : ss.length ≤ 3 := by have := (hro ss hsm).1; omega
    have hsn := (hro ss hsm).2
    unfold tS
    refine sg_n 6 rfl ?_ sc89.nd
    refine ss_if ?_
    refine et_c ?_
    refine ec_gt' ?_
    refine ef_sumF B ?_
    refine ef_lcM (ts := [3]) [("_law_word", 3)] (fun d => .int (lkZ p ls d)) (show blkC ["_law_parts_here", "_law_lacks_here", "_law_groups", "_law_word", "_law_tally", "_law_called_here", "_law_row"] (defScope (topS 89)) _ [("_law_word", 3)] = true from by decide +kernel) sc89.nd ?_
    refine ei_t ?_
    refine ef_i 6 rfl ?_
    refine ⟨_, rfl, ?_⟩
    refine ⟨rfl, (by rw [List.length_map]; omega), by decide, fun d hd s H0 Cc cl fp => ?_, ?_⟩
    ·
      obtain ⟨z, hz, rfl⟩ := List.mem_map.mp hd
      obtain ⟨j, hj, hix, hjl⟩ := idx_some (hsn z hz)
      have hjl2 : j < ls.length := by rw [hll]; simpa [Pt.names] using hjl
      refine sg_n 3 rfl ?_ sc89.nd
      refine ⟨rfl, fun s H0 Cc cl fp => ?_⟩
      refine ef_ixL ?_
      refine ef_i 1 rfl ?_
      refine ⟨_, rfl, ?_⟩
      refine ef_index ?_
      refine ef_i 5 rfl ?_
      refine ⟨_, rfl, ?_⟩
      refine ef_i 3 rfl ?_
      refine ⟨_, _, rfl, hix, ?_⟩
      refine ⟨_, _, _, rfl, rfl, (atI_of (ls_at hjl2)), ?_⟩
      exact ⟨(by show Vl.d (.int (ls.getD j 0)) = Vl.d (.int (ls.getD ((p.names.idxOf? z).getD 0) 0)); rw [hj]; rfl), rfl⟩
    refine ⟨_, _, rfl, ?_⟩
    refine ⟨_, rfl, ?_⟩
    refine ef_cF k__law_given (hr.mono (by omega)) ?_
    refine ea_d ?_
    refine ef_i 0 rfl ?_
    refine ⟨_, rfl, ?_⟩
    refine ea_d ?_
    refine ef_i 6 rfl ?_
    refine ⟨_, rfl, ?_⟩
    refine ea_nil ?_
    refine ⟨(p, ss), rfl, ⟨o, by show ss.length ≤ 3000; omega⟩, ?_⟩
    refine ⟨_, _, rfl, rfl, ?_⟩
    refine ⟨_, rfl, ?_⟩
    refine ⟨fun hk => ?_, fun hk => ?_⟩
    ·
      refine ss_retD ?_
      refine ef_tuple B ?_
      refine ef_sortedTp B ?_
      refine ef_i 6 rfl ?_
      refine ⟨_, rfl, (by omega), fun ys hp hs => ?_⟩
      refine ⟨_, rfl, ?_⟩
      refine ⟨_, rfl, ?_⟩
      exact ⟨ys, rfl, by rw [hp.length_eq]; exact hs3, fun z hz => hsn z (hp.mem_iff.mp hz)⟩
    refine ss_nil ?_
    refine ss_fgt [6] rfl (ss_nil ?_)
    exact rfl
  subst hP
  refine ss_retD ?_
  refine ef_tup ?_
  refine ea_nil ?_
  refine ⟨[], rfl, show 0 ≤ sizeLine by decide, ?_⟩
  refine ⟨_, rfl, ?_⟩
  exact ⟨[], rfl, Nat.zero_le _, fun z h => nomatch h⟩
theorem sc96 : FnScope ["_law_parts_here", "_law_split", "_law_path", "_law_price", "_law_row", "_law_word", "_law_tally"] ["_law_parts_here", "_law_split"] (defScope (topS 96)) := ⟨rfl, rfl, rfl, by decide +kernel, rfl, by decide +kernel, by decide +kernel⟩
abbrev T__law_bars (S : Sys) : Prop := Kn S.P S.w S.K S.mg S.base 5 "_law_bars" ["_law_parts_here", "_law_split"] (spA S.K S.C (α := Pt × List Nat) (fun a => [ptD a.1, tabD a.2]) (fun a => TcOk a) (fun a d => ∃ path, ∃ ss : List Str, d = .tuple [.tuple path, .tuple (ss.map .str)] ∧ StepsOk a.1 path ∧ path.length ≤ 2700 ∧ GrOk a.1 ss))
theorem w__law_bars {S : Sys} (A : At S.K S.mg "_law_bars" (topS 96)) (B : Bt S.mg) (g : Gv S.K S.mg) (k__law_climb : T__law_climb S) (k__law_group : T__law_group S) (k__law_lacks : T__law_lacks S) : T__law_bars S := by
  refine kn_A A sc96 (fun _ _ => rfl) (b2 fun _ _ _ _ _ _ _ _ => rfl) fun f cdv A outer s H E a hr hp => ?_
  obtain ⟨p, t⟩ := a
  have o : Ok p := hp.o
  have ht : TabOk p t := hp.t
  have hc3 := o.c3
  have hn3 := nm_len3 o
  refine ss_asg (ts := ([2] ++ ([3] ++ []))) ?_
  refine ef_cA k__law_climb (hr.mono (by omega)) ?_
  refine ea_d ?_
  refine ef_i 0 rfl ?_
  refine ⟨_, rfl, ?_⟩
  refine ea_d ?_
  refine ef_i 1 rfl ?_
  refine ⟨_, rfl, ?_⟩
  refine ea_nil ?_
  refine ⟨(p, t), rfl, ⟨o, ht⟩, fun d hd => ?_⟩
  obtain ⟨path, f, rfl, hf, hs, hl⟩ := hd
  refine ⟨_, rfl, ?_⟩
  refine sg_l ?_
  refine sr_cons ?_
  refine sg_n 2 rfl ?_ sc96.nd
  refine sr_cons ?_
  refine sg_n 3 rfl ?_ sc96.nd
  refine sr_nil ?_
  refine ss_set 4 ?_ rfl sc96.nd
  refine ef_cA k__law_group (hr.mono (by omega)) ?_
  refine ea_d ?_
  refine ef_i 0 rfl ?_
  refine ⟨_, rfl, ?_⟩
  refine ea_d ?_
  refine ef_cF k__law_lacks (hr.mono (by omega)) ?_
  refine ea_d ?_
  refine ef_i 0 rfl ?_
  refine ⟨_, rfl, ?_⟩
  refine ea_d ?_
  refine ef_i 1 rfl ?_
  refine ⟨_, rfl, ?_⟩
  refine ea_d ?_
  refine ef_i 3 rfl ?_
  refine ⟨_, rfl, ?_⟩
  refine ea_nil ?_
  refine ⟨(p, t, f), rfl, ⟨o, ht, hf⟩, ?_⟩
  refine ⟨_, rfl, ?_⟩
  refine ea_nil ?_
  refine ⟨(p, lacks p t f), rfl, ⟨o, lkZ_len p t f ht.len⟩, fun d hd => ?_⟩
  obtain ⟨gs, rfl, hgs⟩ := hd
  refine ⟨_, rfl, rfl, ?_⟩
  refine ss_retD ?_
  refine ef_tup ?_
  refine ea_d ?_
  refine ef_i 2 rfl ?_
  refine ⟨_, rfl, ?_⟩
  refine ea_d ?_
  refine ef_cutP (fun v G' => ∃ ss : List Str, v = .d (.tuple (ss.map .str)) ∧ G' = [.imm (ptD p), .imm (tabD t), .imm (.tuple path), .imm (frD f), .imm (.tuple (gs.map .str)), .un, .un] ∧ GrOk p ss) ?_ fun v G2 hv => ?_
  ·
    refine ef_if ?_
    refine et_c ?_
    refine ec_neE hr ?_
    refine ef_i 4 rfl ?_
    refine ⟨_, rfl, ?_⟩
    refine ef_tup ?_
    refine ea_nil ?_
    refine ⟨[], rfl, show 0 ≤ sizeLine by decide, ?_⟩
    refine ⟨_, rfl, rfl, ?_⟩
    refine ⟨_, rfl, ?_⟩
    refine ⟨fun hk => ?_, fun hk => ?_⟩
    ·
      refine ef_i 4 rfl ?_
      exact ⟨gs, rfl, rfl, hgs⟩
    ·
      refine ef_tuple B ?_
      refine ef_sortedS B ?_
      refine ef_lcM (ts := ([5] ++ ([6] ++ []))) [("_law_word", 5), ("_law_tally", 6)] cnG (show blkC ["_law_parts_here", "_law_split", "_law_path", "_law_price", "_law_row", "_law_word", "_law_tally"] (defScope (topS 96)) _ [("_law_word", 5), ("_law_tally", 6)] = true from by decide +kernel) sc96.nd ?_
      refine ei_t ?_
      refine ef_ixL ?_
      refine ef_i 0 rfl ?_
      refine ⟨_, rfl, ?_⟩
      refine ef_int ?_
      refine ⟨_, _, _, rfl, rfl, (atI_of (i := 1) rfl), ?_⟩
      refine ⟨_, rfl, ?_⟩
      refine ⟨rfl, (by rw [List.length_map]; show p.cl.length ≤ _; omega), by decide, fun d hd s H0 Cc cl fp => ?_, ?_⟩
      ·
        obtain ⟨c, hc, rfl⟩ := List.mem_map.mp hd
        unfold ptyD
        refine sg_t ?_
        refine sr_cons ?_
        refine sg_n 5 rfl ?_ sc96.nd
        refine sr_cons ?_
        refine sg_n 6 rfl ?_ sc96.nd
        refine sr_nil ?_
        refine ⟨rfl, fun s H0 Cc cl fp => ?_⟩
        refine ef_i 5 rfl ?_
        exact ⟨rfl, rfl⟩
      rw [cn_names]
      refine ⟨_, rfl, (by show p.names.length < 64; omega), fun ys hp hs => ?_⟩
      refine ⟨_, rfl, ?_⟩
      exact ⟨ys, rfl, rfl, by rw [hp.length_eq]; exact hn3, fun z hz => hp.mem_iff.mp hz⟩
  obtain ⟨ss, rfl, rfl, hgr⟩ := hv
  refine ⟨_, rfl, ?_⟩
  refine ea_nil ?_
  refine ⟨[_, _], rfl, show 2 ≤ sizeLine by decide, ?_⟩
  refine ⟨_, rfl, ?_⟩
  exact ⟨path, ss, rfl, hs, hl, hgr⟩
end W
/-! PF: papers as the law makes them are fit. -/
namespace W
open PySem PySem.Spec PyProof.Rows L2 DL M TL
open PySem.Builtin.Str (reprChar)
/-- right, so deep, so long -/
structure Pq (k m : Nat) (d : PyData) : Prop where
  pu : Pu 2999 59 d
  dp : d.depth ≤ k
  ln : ln d ≤ m
section
variable {k m n j : Nat} {d : PyData} {ds : List PyData}
theorem ln_row (h : ∀ d ∈ ds, ln d ≤ k) (hl : ds.length ≤ m) : ln (.tuple ds) ≤ m * (k + 2) + 2 := by
  have h1 := (ln_tup (ds := ds)).2
  have h2 : lnS ds ≤ ds.length * (k + 2) := by
    clear h1 hl
    induction ds with
    | nil => exact Nat.zero_le _
    | cons x xs ih =>
      have h3 := h x List.mem_cons_self
      have h4 := ih fun d m => h d (List.mem_cons_of_mem _ m)
      rw [lnS_cons, List.length_cons, Nat.add_mul, Nat.one_mul]
      omega
  have h3 := Nat.mul_le_mul_right (k + 2) hl
  omega
theorem Pq.tup (h : ∀ d ∈ ds, Pq k m d) (hl : ds.length ≤ n) (hn : n ≤ 2999) (hs : ds.length ≤ 59 ∨ ∀ d ∈ ds, isStr d = false) (hj : n * (m + 2) + 2 ≤ j) : Pq (k + 1) j (.tuple ds) where
  pu := .tup (fun d hd => (h d hd).pu) (by omega) (by
    rcases hs with hs | hs
    · exact Nat.le_trans List.countP_le_length hs
    · rw [List.countP_eq_zero.mpr fun d hd => by rw [hs d hd]; decide]
      exact Nat.zero_le _)
  dp := dpT.mpr fun d hd => (h d hd).dp
  ln := Nat.le_trans (ln_row (fun d hd => (h d hd).ln) hl) hj
theorem Pq.two {a b : PyData} (ha : Pq k m a) (hb : Pq k n b) (hj : m + n + 6 ≤ j) : Pq (k + 1) j (.tuple [a, b]) where
  pu := .tup (fun d hd => by
    simp only [List.mem_cons, List.not_mem_nil, or_false] at hd
    rcases hd with rfl | rfl
    · exact ha.pu
    · exact hb.pu) (show 2 ≤ 2999 by decide) (Nat.le_trans List.countP_le_length (show 2 ≤ 59 by decide))
  dp := dpT.mpr fun d hd => by
    simp only [List.mem_cons, List.not_mem_nil, or_false] at hd
    rcases hd with rfl | rfl
    · exact ha.dp
    · exact hb.dp
  ln := by
    have h1 := (ln_tup (ds := [a, b])).2
    have h2 := ha.ln
    have h3 := hb.ln
    rw [lnS_cons, lnS_cons] at h1
    have h4 : lnS [] = 0 := rfl
    omega
theorem Pq.mono (h : Pq k m d) (h1 : k ≤ n) (h2 : m ≤ j) : Pq n j d := ⟨h.pu, Nat.le_trans h.dp h1, Nat.le_trans h.ln h2⟩
theorem Pq.int {i : Int} (h0 : 0 ≤ i) (h1 : i ≤ 2000) : Pq 0 4 (.int i) := ⟨.int i h0 h1, by simp only [PyData.depth]; omega, ln_int (by omega) (by omega)⟩
theorem Pq.bent {e : PyData} (h : Pq k m d) (hk : k ≤ 38) (hm : m ≤ 1900000) (b : Bend d e) : Fit e := bend_fit h.pu (Nat.le_trans h.dp hk) (Nat.le_trans h.ln hm) b
theorem Pq.fit (h : Pq k m d) (hk : k ≤ 38) (hm : m ≤ 1900000) : Fit d := pu_fit h.pu (Nat.le_trans h.dp hk) (Nat.le_trans h.ln hm)
end
theorem fold_ones {q : Nat} : ∀ {l : List Nat} {n : Nat}, (∀ c ∈ l, (reprChar q c).length = 1) → l.foldl (fun n c => n + (reprChar q c).length) n = n + l.length
  | [], n, _ => rfl
  | c :: l, n, h => by
    rw [List.foldl_cons, h c List.mem_cons_self, fold_ones fun x m => h x (List.mem_cons_of_mem _ m), List.length_cons]
    omega
theorem repr_one {c : Nat} (h : isL c ∨ isG c) {q : Nat} (hq : q = 34 ∨ q = 39) : (reprChar q c).length = 1 := by
  have all : ((List.range 123).all fun c => !(decide (97 ≤ c) || (decide (48 ≤ c) && decide (c ≤ 57))) || (decide ((reprChar 34 c).length = 1) && decide ((reprChar 39 c).length = 1))) = true := by decide +kernel
  unfold isL isG at h
  have h2 := List.all_eq_true.mp all c (List.mem_range.mpr (by omega))
  have h3 : (decide (97 ≤ c) || (decide (48 ≤ c) && decide (c ≤ 57))) = true := by
    rcases h with h | h
    · rw [decide_eq_true h.1]
      rfl
    · rw [decide_eq_true h.1, decide_eq_true h.2]
      simp
  rw [h3, Bool.not_true, Bool.false_or, Bool.and_eq_true] at h2
  rcases hq with rfl | rfl
  · exact of_decide_eq_true h2.1
  · exact of_decide_eq_true h2.2
theorem Pq.name {z : Str} (h : NmOk z) : Pq 0 10 (.str z) := by
  refine ⟨.str z, by simp only [PyData.depth]; omega, ?_⟩
  show (PyData.str z).shown.length ≤ 10
  simp only [PyData.shown]
  rw [← reprLen_eq, ← Array.foldl_toList, fold_ones fun c hc => repr_one (h.all c hc) (quote_or z)]
  have := h.hi
  rw [Array.length_toList]
  omega
theorem Pq.gang {p : Pt} (o : Ok p) {ss : List Str} (h : GrOk p ss) : Pq 1 38 (.tuple (ss.map .str)) := by
  refine Pq.tup (n := 3) (m := 10) (k := 0) (fun d hd => ?_) (by rw [List.length_map]; exact h.1) (by decide) (.inl (by rw [List.length_map]; have := h.1; omega)) (by decide)
  obtain ⟨z, hz, rfl⟩ := List.mem_map.mp hd
  exact Pq.name (o.cv z (h.2 z hz))
theorem Pq.fr {g : Int × Int} (h : FrOk g) : Pq 1 14 (frD g) := by
  have h1 := h.p0
  have h2 := h.q1
  have h3 := h.q9
  have h4 := h.hi
  exact Pq.two (.int h1 (by omega)) (.int (by omega) (by omega)) (by decide)
theorem Pq.path {p : Pt} (o : Ok p) {path : List PyData} (h : StepsOk p path) (hl : path.length ≤ 2700) : Pq 3 86402 (.tuple path) := by
  have one : ∀ e ∈ path, Pq 2 30 e ∧ isStr e = false := fun e he => by
    obtain ⟨z, hz, g, hg, rfl⟩ := h e he
    exact ⟨Pq.two ((Pq.name (o.cv z hz)).mono (by omega) (Nat.le_refl 10)) (.fr hg) (by decide), rfl⟩
  exact Pq.tup (n := 2700) (m := 30) (k := 2) (fun d hd => (one d hd).1) hl (by decide) (.inr fun d hd => (one d hd).2) (by decide)
theorem Pq.tab {p : Pt} (o : Ok p) {t : List Nat} (h : TabOk p t) : Pq 1 20 (tabD t) := by
  have h1 := h.len
  have h2 := h.sum
  have h3 := o.c3
  have h4 := o.d3
  refine Pq.tup (n := 3) (m := 4) (k := 0) (fun d hd => ?_) (by rw [List.length_map]; omega) (by decide) (.inl (by rw [List.length_map]; omega)) (by decide)
  obtain ⟨x, hx, rfl⟩ := List.mem_map.mp hd
  have h5 := mem_le_sum hx
  exact .int (by omega) (by omega)
/-- a pair of a paper -/
def PairOk (p : Pt) (e : PyData) : Prop := ∃ t, TabOk p t ∧ ∃ path, ∃ ss : List Str, e = .tuple [tabD t, .tuple [.tuple path, .tuple (ss.map .str)]] ∧ StepsOk p path ∧ path.length ≤ 2700 ∧ GrOk p ss
theorem Pq.pair {p : Pt} (o : Ok p) {e : PyData} (h : PairOk p e) : Pq 5 86472 e ∧ isStr e = false := by
  obtain ⟨t, ht, path, ss, rfl, hs, hl, hg⟩ := h
  have hb : Pq 4 86446 (.tuple [.tuple path, .tuple (ss.map .str)]) := Pq.two (.path o hs hl) ((Pq.gang o hg).mono (by omega) (Nat.le_refl 38)) (by decide)
  exact ⟨Pq.two ((Pq.tab o ht).mono (by omega) (Nat.le_refl 20)) hb (by decide), rfl⟩
theorem Pq.paper {p : Pt} (o : Ok p) {es : List PyData} (h : ∀ e ∈ es, PairOk p e) (hl : es.length ≤ 10) : Pq 6 864742 (.tuple es) :=
  Pq.tup (n := 10) (m := 86472) (k := 5) (fun d hd => (Pq.pair o (h d hd)).1) hl (by decide) (.inl (by omega)) (by decide)
theorem tabs_10 : ∀ m, m ≤ 3 → ∀ s, s ≤ 3 → (tabs m s).length ≤ 10 := by decide
theorem rows_10 {p : Pt} (o : Ok p) {sure : Bool} {ss : List Str} {n : Int} : (rowsOf p sure ss n).length ≤ 10 :=
  Nat.le_trans (List.length_filter_le _ _) (tabs_10 _ o.c3 _ o.d3)
theorem wd_get {i : Nat} {d : PyData} (h : [PyData.str "sure", PyData.str "never"][i]? = some d) : i < 2 ∧ ∃ s : Bool, d = .str (wd s) := by
  match i, h with
  | 0, h => exact ⟨by decide, true, (Option.some.inj h).symm⟩
  | 1, h => exact ⟨by decide, false, (Option.some.inj h).symm⟩
  | i + 2, h => simp at h
end W
/-! V13: the law: right -/
namespace W
open PySem PySem.Spec PyProof.Rows L2 DL M

theorem sc97 : FnScope ["_law_urn_here", "_law_turn", "_law_parts_here", "_law_sheet_here", "_law_gang_here", "_law_chairs", "_law_word", "_law_rows", "_law_said", "_law_paper", "_law_step", "_law_near", "_law_way", "_law_there", "_law_fresh", "_law_row"] ["_law_urn_here"] (defScope (topS 97)) := ⟨rfl, rfl, rfl, by decide +kernel, rfl, by decide +kernel, by decide +kernel⟩
abbrev T__law_right (S : Sys) : Prop := KnG S.P S.w S.K S.mg S.base 13 "_law_right" ["_law_urn_here"] (spUA S.K S.C (α := Nat) (fun _ => []) (fun n cs => Ur n cs ∧ n + 2000 ≤ 1000000) (fun n _ d _ => d = .bool true))
theorem w__law_right {S : Sys} (A : At S.K S.mg "_law_right" (topS 97)) (B : Bt S.mg) (g : Gv S.K S.mg) (k__law_pull : T__law_pull S) (k__law_parts : T__law_parts S) (k__law_sheet : T__law_sheet S) (k__law_gang : T__law_gang S) (k__law_splits : T__law_splits S) (k__law_held : T__law_held S) (k__law_bars : T__law_bars S) (k__law_bloc_due : T__law_bloc_due S) (k__law_judged : T__law_judged S) (k__law_bent : ∀ k, T__law_bent S k) : T__law_right S := by
  refine kg_U A sc97 (fun _ _ _ => rfl) (b1 fun _ _ _ _ _ _ _ => rfl) fun f cdv A outer s H E a cs hr hgd hp => ?_
  obtain ⟨hu, hn⟩ := hp
  generalize a = n at *
  refine ss_for (ts := [1]) ?_
  refine ei_r B ?_
  refine ef_int ?_
  refine ⟨_, rfl, (by decide), (by decide), ?_⟩
  refine ⟨(fun i G' => ∃ cs, G' = [.urn cs, .un, .un, .un, .un, .un, .un, .un, .un, .un, .un, .un, .un, .un, .un, .un] ∧ Ur (n + 600 * i) cs), ⟨_, rfl, hu⟩, fun i d G1 hd hP => ?_, fun G1 hP => ?_⟩
  ·
    obtain ⟨cs, rfl, hui⟩ := hP
    obtain ⟨hi, rfl⟩ := rngD_get hd
    have hi : i < 2 := hi
    obtain ⟨oi, hoi⟩ : ∃ oi, oi = i := ⟨i, rfl⟩
    subst hoi
    obtain ⟨b, hb⟩ : ∃ b, b = n + 600 * oi := ⟨_, rfl⟩
    rw [← hb] at hui
    refine sg_n 1 rfl ?_ sc97.nd
    refine ss_set 2 ?_ rfl sc97.nd
    refine ef_cU 0 k__law_parts (hr.mono (by omega)) ?_
    refine ea_cons ?_
    refine ef_o 0 rfl rfl ?_
    refine ⟨⟨_, rfl⟩, ?_⟩
    refine ea_d ?_
    refine ef_int ?_
    refine ⟨_, rfl, ?_⟩
    refine ea_d ?_
    refine ef_int ?_
    refine ⟨_, rfl, ?_⟩
    refine ea_d ?_
    refine ef_int ?_
    refine ⟨_, rfl, ?_⟩
    refine ea_d ?_
    refine ef_int ?_
    refine ⟨_, rfl, ?_⟩
    refine ea_d ?_
    refine ef_int ?_
    refine ⟨_, rfl, ?_⟩
    refine ea_nil ?_
    refine ⟨_, _, b, rfl, rfl, rfl, ⟨hui, (by show b + 40 ≤ 1000000; omega)⟩, fun d cs hd => ?_⟩
    obtain ⟨⟨p, o, rfl⟩, hu1⟩ := hd
    have hd3 := o.d3
    refine ⟨_, rfl, rfl, ?_⟩
    refine ss_asg (ts := ([3] ++ ([4] ++ ([5] ++ [])))) ?_
    refine ef_tup ?_
    refine ea_d ?_
    refine ef_cF k__law_sheet (hr.mono (by omega)) ?_
    refine ea_d ?_
    refine ef_i 2 rfl ?_
    refine ⟨_, rfl, ?_⟩
    refine ea_nil ?_
    refine ⟨p, rfl, o, ?_⟩
    refine ⟨_, rfl, ?_⟩
    refine ea_d ?_
    refine ef_cU 0 k__law_gang (hr.mono (by omega)) ?_
    refine ea_cons ?_
    refine ef_o 0 rfl rfl ?_
    refine ⟨⟨_, rfl⟩, ?_⟩
    refine ea_d ?_
    refine ef_i 2 rfl ?_
    refine ⟨_, rfl, ?_⟩
    refine ea_nil ?_
    refine ⟨_, _, (b + 40, p), rfl, rfl, rfl, ⟨hu1, (by show b + 40 + 4 ≤ 1000000; omega), o⟩, fun d cs hd => ?_⟩
    obtain ⟨⟨gg, rfl, hgg⟩, hu2⟩ := hd
    have hgg : GrOk p gg := hgg
    refine ⟨_, rfl, ?_⟩
    refine ea_d ?_
    refine ef_cU 0 k__law_pull (hr.mono (by omega)) ?_
    refine ea_cons ?_
    refine ef_o 0 rfl rfl ?_
    refine ⟨⟨_, rfl⟩, ?_⟩
    refine ea_d ?_
    refine ef_add ?_
    refine ef_len B ?_
    refine ef_ixL ?_
    refine ef_i 2 rfl ?_
    refine ⟨_, rfl, ?_⟩
    refine ef_int ?_
    refine ⟨_, _, _, rfl, rfl, (atI_of (i := 0) rfl), ?_⟩
    refine ⟨_, (by first | exact .inr rfl | exact .inl rfl | exact ⟨_, rfl, rfl⟩), ?_⟩
    refine ⟨_, rfl, ?_⟩
    refine ef_int ?_
    refine ⟨_, _, rfl, rfl, ?_⟩
    refine ⟨_, rfl, ?_⟩
    refine ea_nil ?_
    refine ⟨_, _, (b + 40 + 4, (p.dv.map PyData.int).length + 1), rfl, rfl, rfl, ⟨hu2, (by show b + 40 + 4 + 1 ≤ 1000000; omega), by show 1 ≤ _ + 1; omega, by show (p.dv.map PyData.int).length + 1 ≤ 100000; rw [List.length_map]; omega⟩, fun d cs hd => ?_⟩
    obtain ⟨ch, rfl, hch, hu3⟩ := hd
    have hch : ch < (p.dv.map PyData.int).length + 1 := hch
    rw [List.length_map] at hch
    have gq := Pq.gang o hgg
    have cq : Pq 0 4 (natD ch) := .int (by omega) (by omega)
    have gF := gq.fit (by decide) (by decide)
    have cF := cq.fit (by decide) (by decide)
    refine ⟨_, rfl, ?_⟩
    refine ea_nil ?_
    refine ⟨[_, _, _], rfl, show 3 ≤ sizeLine by decide, ?_⟩
    refine ⟨_, rfl, ?_⟩
    refine sg_t ?_
    refine sr_cons ?_
    refine sg_n 3 rfl ?_ sc97.nd
    refine sr_cons ?_
    refine sg_n 4 rfl ?_ sc97.nd
    refine sr_cons ?_
    refine sg_n 5 rfl ?_ sc97.nd
    refine sr_nil ?_
    refine ss_for (ts := [6]) ?_
    refine ei_l ?_
    refine ef_lst ?_
    refine ea_d ?_
    refine ef_str ?_
    refine ⟨_, rfl, ?_⟩
    refine ea_d ?_
    refine ef_str ?_
    refine ⟨_, rfl, ?_⟩
    refine ea_nil ?_
    refine ⟨[_, _], rfl, show 2 ≤ sizeLine by decide, ?_⟩
    refine ⟨_, rfl, ?_⟩
    refine ⟨(fun i G' => ∃ cs, G' = [.urn cs, .imm (.int (oi : Int)), .imm (ptD p), .imm (.str (sheet p)), .imm (.tuple (gg.map .str)), .imm (natD ch), .un, .un, .un, .un, .un, .un, .un, .un, .un, .un] ∧ Ur (b + 45 + 256 * i) cs), ⟨_, rfl, hu3.mono (by omega)⟩, fun i d G1 hd hP => ?_, fun G1 hP => ?_⟩
    ·
      obtain ⟨cs, rfl, hui⟩ := hP
      obtain ⟨hi, sure, rfl⟩ := wd_get hd
      obtain ⟨oj, hoj⟩ : ∃ oj, oj = i := ⟨i, rfl⟩
      subst hoj
      obtain ⟨c, hc⟩ : ∃ c, c = b + 45 + 256 * oj := ⟨_, rfl⟩
      rw [← hc] at hui
      refine sg_n 6 rfl ?_ sc97.nd
      refine ss_lc 7 [("_law_row", 15)] (show blkC ["_law_urn_here", "_law_turn", "_law_parts_here", "_law_sheet_here", "_law_gang_here", "_law_chairs", "_law_word", "_law_rows", "_law_said", "_law_paper", "_law_step", "_law_near", "_law_way", "_law_there", "_law_fresh", "_law_row"] (defScope (topS 97)) _ [("_law_row", 15)] = true from by decide +kernel) sc97.nd ?_
      refine el_lcP (ts := [15]) [("_law_row", 15)] (fun d => d) (fun d => decide (decide ((held p gg (tabF d) : Int) < (ch : Int)) = sure)) (show blkC ["_law_urn_here", "_law_turn", "_law_parts_here", "_law_sheet_here", "_law_gang_here", "_law_chairs", "_law_word", "_law_rows", "_law_said", "_law_paper", "_law_step", "_law_near", "_law_way", "_law_there", "_law_fresh", "_law_row"] (defScope (topS 97)) _ [("_law_row", 15)] = true from by decide +kernel) sc97.nd ?_
      refine ei_l ?_
      refine ef_cF k__law_splits (hr.mono (by omega)) ?_
      refine ea_d ?_
      refine ef_i 2 rfl ?_
      refine ⟨_, rfl, ?_⟩
      refine ea_nil ?_
      refine ⟨p, rfl, o, ?_⟩
      refine ⟨_, rfl, ?_⟩
      refine ⟨rfl, (by have h1 := tabs_n p.cl.length o.c3 p.dv.length o.d3; show ((tabs p.cl.length p.dv.length).map tabD).length ≤ 100000; rw [List.length_map]; omega), by decide, fun d hd s H0 Cc cl fp => ?_, ?_⟩
      ·
        obtain ⟨t, ht, rfl⟩ := List.mem_map.mp hd
        refine sg_n 15 rfl ?_ sc97.nd
        intro s H0 Cc cl fp
        refine et_c ?_
        refine ec_eqB ?_
        refine ef_c ?_
        refine ec_lt ?_
        refine ef_cF k__law_held (hr.mono (by omega)) ?_
        refine ea_d ?_
        refine ef_i 2 rfl ?_
        refine ⟨_, rfl, ?_⟩
        refine ea_d ?_
        refine ef_i 4 rfl ?_
        refine ⟨_, rfl, ?_⟩
        refine ea_d ?_
        refine ef_i 15 rfl ?_
        refine ⟨_, rfl, ?_⟩
        refine ea_nil ?_
        refine ⟨(p, gg, t), rfl, ⟨o, Nat.le_trans (tab_len o.c3 o.d3 ht) (by decide)⟩, ?_⟩
        refine ⟨_, rfl, ?_⟩
        refine ef_i 5 rfl ?_
        refine ⟨_, _, rfl, rfl, ?_⟩
        refine ⟨_, rfl, ?_⟩
        refine ef_c ?_
        refine ec_eqS ?_
        refine ef_i 6 rfl ?_
        refine ⟨_, rfl, ?_⟩
        refine ef_str ?_
        refine ⟨_, _, rfl, rfl, ?_⟩
        refine ⟨_, _, rfl, rfl, ?_⟩
        refine ⟨_, rfl, ?_⟩
        refine ⟨(by rw [wd_sure, tabF_tab]), rfl, rfl, fun hk s H0 Cc cl fp => ?_⟩
        refine ef_i 15 rfl ?_
        exact ⟨rfl, rfl⟩
      rw [rows_eq]
      refine ⟨_, rfl, rfl, ?_⟩
      refine ss_par2 8 9 ?_ sc97.nd
      refine ea_d ?_
      refine ef_tup ?_
      refine ea_d ?_
      refine ef_i 6 rfl ?_
      refine ⟨_, rfl, ?_⟩
      refine ea_d ?_
      refine ef_i 3 rfl ?_
      refine ⟨_, rfl, ?_⟩
      refine ea_d ?_
      refine ef_i 4 rfl ?_
      refine ⟨_, rfl, ?_⟩
      refine ea_d ?_
      refine ef_i 5 rfl ?_
      refine ⟨_, rfl, ?_⟩
      refine ea_nil ?_
      refine ⟨[_, _, _, _], rfl, show 4 ≤ sizeLine by decide, ?_⟩
      refine ⟨_, rfl, ?_⟩
      refine ea_d ?_
      refine ef_tuple B ?_
      refine ef_lc (ts := [15]) [("_law_row", 15)] (show blkC ["_law_urn_here", "_law_turn", "_law_parts_here", "_law_sheet_here", "_law_gang_here", "_law_chairs", "_law_word", "_law_rows", "_law_said", "_law_paper", "_law_step", "_law_near", "_law_way", "_law_there", "_law_fresh", "_law_row"] (defScope (topS 97)) _ [("_law_row", 15)] = true from by decide +kernel) sc97.nd ?_
      refine ei_l ?_
      refine ef_i 7 rfl ?_
      refine ⟨_, rfl, ?_⟩
      refine ⟨rfl, (by rw [List.length_map]; exact Nat.le_trans (rows_10 o) (by decide)), by decide, (fun i acc G' => G' = [.urn cs, .imm (.int (oi : Int)), .imm (ptD p), .imm (.str (sheet p)), .imm (.tuple (gg.map .str)), .imm (natD ch), .imm (.str (wd sure)), .imm (.list ((rowsOf p sure gg (ch : Int)).map tabD)), .un, .un, .un, .un, .un, .un, .un, .un] ∧ acc.length = i ∧ ∀ e ∈ acc, PairOk p e), ⟨rfl, rfl, fun e h => nomatch h⟩, fun i d acc G1 hd hP s H0 Cc cl fp => ?_, fun acc G1 hP => ?_⟩
      ·
        obtain ⟨rfl, hal, hae⟩ := hP
        obtain ⟨t, ht, rfl⟩ := tab_get hd
        have hto := row_ok o (List.mem_of_getElem? ht)
        refine sg_n 15 rfl ?_ sc97.nd
        refine ⟨fun hk s H0 Cc cl fp => ?_, fun hk => nomatch hk⟩
        refine ef_tup ?_
        refine ea_d ?_
        refine ef_i 15 rfl ?_
        refine ⟨_, rfl, ?_⟩
        refine ea_d ?_
        refine ef_cA k__law_bars (hr.mono (by omega)) ?_
        refine ea_d ?_
        refine ef_i 2 rfl ?_
        refine ⟨_, rfl, ?_⟩
        refine ea_d ?_
        refine ef_i 15 rfl ?_
        refine ⟨_, rfl, ?_⟩
        refine ea_nil ?_
        refine ⟨(p, t), rfl, ⟨o, hto⟩, fun d hd => ?_⟩
        obtain ⟨path, ss, rfl, hs, hl, hg⟩ := hd
        refine ⟨_, rfl, ?_⟩
        refine ea_nil ?_
        refine ⟨[_, _], rfl, show 2 ≤ sizeLine by decide, ?_⟩
        exact ⟨_, rfl, ⟨rfl, by rw [List.length_append, hal]; rfl, fun e he => by rcases List.mem_append.mp he with he | he; exact hae e he; rw [List.mem_singleton] at he; exact ⟨t, hto, path, ss, he, hs, hl, hg⟩⟩⟩
      obtain ⟨rfl, hal, hae⟩ := hP
      rw [List.length_map] at hal
      have pq := Pq.paper o hae (by rw [hal]; exact rows_10 o)
      have pF := pq.fit (by decide) (by decide)
      have tF : ∀ d ∈ [PyData.tuple (gg.map .str), natD ch], Fit d := fun d hd => by simp only [List.mem_cons, List.not_mem_nil, or_false] at hd; rcases hd with rfl | rfl; exact gF; exact cF
      have tD := fun d hd => (tF d hd).dat
      refine ⟨_, rfl, ?_⟩
      refine ⟨_, rfl, ?_⟩
      refine ea_nil ?_
      refine ⟨_, _, rfl, rfl, rfl, ?_⟩
      refine ss_if ?_
      refine et_not ?_
      refine et_v ?_
      refine ef_cFg k__law_judged (hr.mono (by omega)) hgd ?_
      refine ea_d ?_
      refine ef_i 8 rfl ?_
      refine ⟨_, rfl, ?_⟩
      refine ea_d ?_
      refine ef_i 9 rfl ?_
      refine ⟨_, rfl, ?_⟩
      refine ea_d ?_
      refine ef_cFg k__law_bloc_due (hr.mono (by omega)) hgd ?_
      refine ea_d ?_
      refine ef_i 2 rfl ?_
      refine ⟨_, rfl, ?_⟩
      refine ea_d ?_
      refine ef_i 8 rfl ?_
      refine ⟨_, rfl, ?_⟩
      refine ea_d ?_
      refine ef_i 9 rfl ?_
      refine ⟨_, rfl, ?_⟩
      refine ea_nil ?_
      refine ⟨(p, sure, [.tuple (gg.map .str), natD ch], .tuple acc), rfl, ⟨o, tF, rfl, pF⟩, ?_⟩
      refine ⟨_, rfl, ?_⟩
      refine ea_nil ?_
      refine ⟨((p, sure, [.tuple (gg.map .str), natD ch], .tuple acc), dueT p sure [.tuple (gg.map .str), natD ch] (.tuple acc)), rfl, ⟨o, tD, pF.dat, by show 1 ≤ 2; decide, by show 2 ≤ 9; decide⟩, ?_⟩
      refine ⟨_, rfl, ?_⟩
      refine ⟨fun hk => ?_, fun hk => ?_⟩
      ·
        refine ss_retD ?_
        refine ef_bl ?_
        refine ⟨_, rfl, ?_⟩
        exact absurd hk (by rw [beq_self_eq_true]; decide)
      refine ss_nil ?_
      refine ss_for (ts := [10]) ?_
      refine ei_r B ?_
      refine ef_int ?_
      refine ⟨_, rfl, (by decide), (by decide), ?_⟩
      refine ⟨(fun i G' => ∃ cs, G' = [.urn cs, .imm (.int (oi : Int)), .imm (ptD p), .imm (.str (sheet p)), .imm (.tuple (gg.map .str)), .imm (natD ch), .imm (.str (wd sure)), .imm (.list ((rowsOf p sure gg (ch : Int)).map tabD)), .imm (claimD p sure [.tuple (gg.map .str), natD ch]), .imm (.tuple acc), .un, .un, .un, .un, .un, .un] ∧ Ur (c + 32 * i) cs), ⟨_, rfl, hui⟩, fun i d G1 hd hP => ?_, fun G1 hP => ?_⟩
      ·
        obtain ⟨cs, rfl, hui⟩ := hP
        obtain ⟨hi, rfl⟩ := rngD_get hd
        have hi : i < 8 := hi
        refine sg_n 10 rfl ?_ sc97.nd
        refine ss_par2 11 12 ?_ sc97.nd
        refine ea_d ?_
        refine ef_cU 0 (k__law_bent 6) (hr.mono (by omega)) ?_
        refine ea_cons ?_
        refine ef_o 0 rfl rfl ?_
        refine ⟨⟨_, rfl⟩, ?_⟩
        refine ea_d ?_
        refine ef_i 9 rfl ?_
        refine ⟨_, rfl, ?_⟩
        refine ea_nil ?_
        refine ⟨_, _, (c + 32 * i, .tuple acc), rfl, rfl, rfl, ⟨hui, (by show c + 32 * i + 2 * (6 + 1) ≤ 1000000; omega), pq.pu, pq.dp⟩, fun d cs hd => ?_⟩
        obtain ⟨nr, hnr⟩ : ∃ x, x = d := ⟨d, rfl⟩
        subst hnr
        obtain ⟨hb1, hu5⟩ := hd
        refine ⟨_, rfl, ?_⟩
        refine ea_d ?_
        refine ef_cU 0 k__law_pull (hr.mono (by omega)) ?_
        refine ea_cons ?_
        refine ef_o 0 rfl rfl ?_
        refine ⟨⟨_, rfl⟩, ?_⟩
        refine ea_d ?_
        refine ef_int ?_
        refine ⟨_, rfl, ?_⟩
        refine ea_nil ?_
        refine ⟨_, _, (c + 32 * i + 2 * (6 + 1), 5), rfl, rfl, rfl, ⟨hu5, (by show c + 32 * i + 2 * (6 + 1) + 1 ≤ 1000000; omega), show 1 ≤ 5 by decide, show 5 ≤ 100000 by decide⟩, fun d cs hd => ?_⟩
        obtain ⟨w, rfl, hw, hu6⟩ := hd
        refine ⟨_, rfl, ?_⟩
        refine ea_nil ?_
        refine ⟨_, _, rfl, rfl, rfl, ?_⟩
        refine ss_set 13 ?_ rfl sc97.nd
        refine ef_i 8 rfl ?_
        refine ⟨_, rfl, rfl, ?_⟩
        refine ss_ifM (fun G' => ∃ cs gx cx, G' = [.urn cs, .imm (.int (oi : Int)), .imm (ptD p), .imm (.str (sheet p)), .imm (.tuple (gg.map .str)), .imm (natD ch), .imm (.str (wd sure)), .imm (.list ((rowsOf p sure gg (ch : Int)).map tabD)), .imm (claimD p sure [.tuple (gg.map .str), natD ch]), .imm (.tuple acc), .imm (.int (i : Int)), .imm nr, .imm (natD w), .imm (claimD p sure [gx, cx]), .un, .un] ∧ Fit gx ∧ Fit cx ∧ Ur (c + 32 * i + 20) cs) ?_ fun G1 hM => ?_
        ·
          refine et_c ?_
          refine ec_eqI ?_
          refine ef_i 12 rfl ?_
          refine ⟨_, rfl, ?_⟩
          refine ef_int ?_
          refine ⟨_, _, rfl, rfl, ?_⟩
          refine ⟨_, rfl, ?_⟩
          refine ⟨fun hk => ?_, fun hk => ?_⟩
          ·
            refine ss_set 14 ?_ rfl sc97.nd
            refine ef_cU 0 k__law_gang (hr.mono (by omega)) ?_
            refine ea_cons ?_
            refine ef_o 0 rfl rfl ?_
            refine ⟨⟨_, rfl⟩, ?_⟩
            refine ea_d ?_
            refine ef_i 2 rfl ?_
            refine ⟨_, rfl, ?_⟩
            refine ea_nil ?_
            refine ⟨_, _, (c + 32 * i + 2 * (6 + 1) + 1, p), rfl, rfl, rfl, ⟨hu6, (by show c + 32 * i + 2 * (6 + 1) + 1 + 4 ≤ 1000000; omega), o⟩, fun d cs hd => ?_⟩
            obtain ⟨⟨g2, rfl, hg2⟩, hu7⟩ := hd
            have hg2 : GrOk p g2 := hg2
            refine ⟨_, rfl, rfl, ?_⟩
            refine ss_set 13 ?_ rfl sc97.nd
            refine ef_addT ?_
            refine ef_slT ?_
            refine ef_i 8 rfl ?_
            refine ⟨_, rfl, ?_⟩
            refine eo_none ?_
            refine eo_some ?_
            refine ef_int ?_
            refine ⟨_, rfl, ?_⟩
            refine ⟨_, rfl, ?_⟩
            refine ⟨_, rfl, ?_⟩
            refine ef_tup ?_
            refine ea_d ?_
            refine ef_i 14 rfl ?_
            refine ⟨_, rfl, ?_⟩
            refine ea_d ?_
            refine ef_cU 0 k__law_pull (hr.mono (by omega)) ?_
            refine ea_cons ?_
            refine ef_o 0 rfl rfl ?_
            refine ⟨⟨_, rfl⟩, ?_⟩
            refine ea_d ?_
            refine ef_add ?_
            refine ef_len B ?_
            refine ef_ixL ?_
            refine ef_i 2 rfl ?_
            refine ⟨_, rfl, ?_⟩
            refine ef_int ?_
            refine ⟨_, _, _, rfl, rfl, (atI_of (i := 0) rfl), ?_⟩
            refine ⟨_, (by first | exact .inr rfl | exact .inl rfl | exact ⟨_, rfl, rfl⟩), ?_⟩
            refine ⟨_, rfl, ?_⟩
            refine ef_int ?_
            refine ⟨_, _, rfl, rfl, ?_⟩
            refine ⟨_, rfl, ?_⟩
            refine ea_nil ?_
            refine ⟨_, _, (c + 32 * i + 2 * (6 + 1) + 1 + 4, (p.dv.map PyData.int).length + 1), rfl, rfl, rfl, ⟨hu7, (by show c + 32 * i + 2 * (6 + 1) + 1 + 4 + 1 ≤ 1000000; omega), by show 1 ≤ _ + 1; omega, by show (p.dv.map PyData.int).length + 1 ≤ 100000; rw [List.length_map]; omega⟩, fun d cs hd => ?_⟩
            obtain ⟨c2, rfl, hc2, hu8⟩ := hd
            have hc2 : c2 < (p.dv.map PyData.int).length + 1 := hc2
            rw [List.length_map] at hc2
            refine ⟨_, rfl, ?_⟩
            refine ea_nil ?_
            refine ⟨[_, _], rfl, show 2 ≤ sizeLine by decide, ?_⟩
            refine ⟨_, _, rfl, rfl, (by show 2 + 2 ≤ sizeLine; decide), ?_⟩
            refine ⟨_, rfl, rfl, ?_⟩
            refine ss_fgt [14] rfl (ss_nil ?_)
            exact ⟨_, .tuple (g2.map .str), natD c2, rfl, (Pq.gang o hg2).fit (by decide) (by decide), (Pq.int (i := (c2 : Int)) (by omega) (by omega)).fit (by decide) (by decide), hu8.mono (by omega)⟩
          ·
            refine ss_nil ?_
            exact ⟨_, _, _, rfl, gF, cF, hu6.mono (by omega)⟩
        obtain ⟨cs, gx, cx, rfl, hgx, hcx, hu9⟩ := hM
        refine ss_ifM (fun G' => ∃ cs gx cx, G' = [.urn cs, .imm (.int (oi : Int)), .imm (ptD p), .imm (.str (sheet p)), .imm (.tuple (gg.map .str)), .imm (natD ch), .imm (.str (wd sure)), .imm (.list ((rowsOf p sure gg (ch : Int)).map tabD)), .imm (claimD p sure [.tuple (gg.map .str), natD ch]), .imm (.tuple acc), .imm (.int (i : Int)), .imm nr, .imm (natD w), .imm (claimD p sure [gx, cx]), .un, .un] ∧ Fit gx ∧ Fit cx ∧ Ur (c + 32 * i + 26) cs) ?_ fun G1 hM => ?_
        ·
          refine et_c ?_
          refine ec_eqI ?_
          refine ef_i 12 rfl ?_
          refine ⟨_, rfl, ?_⟩
          refine ef_int ?_
          refine ⟨_, _, rfl, rfl, ?_⟩
          refine ⟨_, rfl, ?_⟩
          refine ⟨fun hk => ?_, fun hk => ?_⟩
          ·
            refine ss_set 13 ?_ rfl sc97.nd
            refine ef_addT ?_
            refine ef_slT ?_
            refine ef_i 8 rfl ?_
            refine ⟨_, rfl, ?_⟩
            refine eo_none ?_
            refine eo_some ?_
            refine ef_int ?_
            refine ⟨_, rfl, ?_⟩
            refine ⟨_, rfl, ?_⟩
            refine ⟨_, rfl, ?_⟩
            refine ef_tup ?_
            refine ea_d ?_
            refine ef_cU 0 (k__law_bent 1) (hr.mono (by omega)) ?_
            refine ea_cons ?_
            refine ef_o 0 rfl rfl ?_
            refine ⟨⟨_, rfl⟩, ?_⟩
            refine ea_d ?_
            refine ef_i 4 rfl ?_
            refine ⟨_, rfl, ?_⟩
            refine ea_nil ?_
            refine ⟨_, _, (c + 32 * i + 20, .tuple (gg.map .str)), rfl, rfl, rfl, ⟨hu9, (by show c + 32 * i + 20 + 2 * (1 + 1) ≤ 1000000; omega), gq.pu, gq.dp⟩, fun d cs hd => ?_⟩
            obtain ⟨g3, hg3⟩ : ∃ x, x = d := ⟨d, rfl⟩
            subst hg3
            obtain ⟨hb2, hu10⟩ := hd
            refine ⟨_, rfl, ?_⟩
            refine ea_d ?_
            refine ef_cU 0 (k__law_bent 0) (hr.mono (by omega)) ?_
            refine ea_cons ?_
            refine ef_o 0 rfl rfl ?_
            refine ⟨⟨_, rfl⟩, ?_⟩
            refine ea_d ?_
            refine ef_i 5 rfl ?_
            refine ⟨_, rfl, ?_⟩
            refine ea_nil ?_
            refine ⟨_, _, (c + 32 * i + 20 + 2 * (1 + 1), natD ch), rfl, rfl, rfl, ⟨hu10, (by show c + 32 * i + 20 + 2 * (1 + 1) + 2 * (0 + 1) ≤ 1000000; omega), cq.pu, cq.dp⟩, fun d cs hd => ?_⟩
            obtain ⟨c3, hc3⟩ : ∃ x, x = d := ⟨d, rfl⟩
            subst hc3
            obtain ⟨hb3, hu11⟩ := hd
            refine ⟨_, rfl, ?_⟩
            refine ea_nil ?_
            refine ⟨[_, _], rfl, show 2 ≤ sizeLine by decide, ?_⟩
            refine ⟨_, _, rfl, rfl, (by show 2 + 2 ≤ sizeLine; decide), ?_⟩
            refine ⟨_, rfl, rfl, ?_⟩
            refine ss_nil ?_
            exact ⟨_, g3, c3, rfl, gq.bent (by decide) (by decide) hb2, cq.bent (by decide) (by decide) hb3, hu11.mono (by omega)⟩
          ·
            refine ss_nil ?_
            exact ⟨_, gx, cx, rfl, hgx, hcx, hu9.mono (by omega)⟩
        obtain ⟨cs, gy, cy, rfl, hgy, hcy, hu12⟩ := hM
        have nF : Fit (if (w : Int) < 2 then .tuple acc else nr) := by split; exact pF; exact pq.bent (by decide) (by decide) hb1
        have yF : ∀ d ∈ [gy, cy], Fit d := fun d hd => by simp only [List.mem_cons, List.not_mem_nil, or_false] at hd; rcases hd with rfl | rfl; exact hgy; exact hcy
        have yD := fun d hd => (yF d hd).dat
        refine ss_set 11 ?_ rfl sc97.nd
        refine ef_cut (if (w : Int) < 2 then .tuple acc else nr) ?_ ?_
        ·
          refine ef_if ?_
          refine et_c ?_
          refine ec_lt ?_
          refine ef_i 12 rfl ?_
          refine ⟨_, rfl, ?_⟩
          refine ef_int ?_
          refine ⟨_, _, rfl, rfl, ?_⟩
          refine ⟨_, rfl, ?_⟩
          refine ⟨fun hk => ?_, fun hk => ?_⟩
          ·
            refine ef_i 9 rfl ?_
            exact ⟨(by rw [if_pos (of_decide_eq_true hk)]), rfl⟩
          ·
            refine ef_i 11 rfl ?_
            exact ⟨(by rw [if_neg (of_decide_eq_false hk)]), rfl⟩
        refine ⟨_, rfl, rfl, ?_⟩
        refine ss_if ?_
        refine et_not ?_
        refine et_v ?_
        refine ef_cFg k__law_judged (hr.mono (by omega)) hgd ?_
        refine ea_d ?_
        refine ef_i 13 rfl ?_
        refine ⟨_, rfl, ?_⟩
        refine ea_d ?_
        refine ef_i 11 rfl ?_
        refine ⟨_, rfl, ?_⟩
        refine ea_d ?_
        refine ef_cFg k__law_bloc_due (hr.mono (by omega)) hgd ?_
        refine ea_d ?_
        refine ef_i 2 rfl ?_
        refine ⟨_, rfl, ?_⟩
        refine ea_d ?_
        refine ef_i 13 rfl ?_
        refine ⟨_, rfl, ?_⟩
        refine ea_d ?_
        refine ef_i 11 rfl ?_
        refine ⟨_, rfl, ?_⟩
        refine ea_nil ?_
        refine ⟨(p, sure, [gy, cy], (if (w : Int) < 2 then .tuple acc else nr)), rfl, ⟨o, yF, rfl, nF⟩, ?_⟩
        refine ⟨_, rfl, ?_⟩
        refine ea_nil ?_
        refine ⟨((p, sure, [gy, cy], (if (w : Int) < 2 then .tuple acc else nr)), dueT p sure [gy, cy] (if (w : Int) < 2 then .tuple acc else nr)), rfl, ⟨o, yD, nF.dat, by show 1 ≤ 2; decide, by show 2 ≤ 9; decide⟩, ?_⟩
        refine ⟨_, rfl, ?_⟩
        refine ⟨fun hk => ?_, fun hk => ?_⟩
        ·
          refine ss_retD ?_
          refine ef_bl ?_
          refine ⟨_, rfl, ?_⟩
          exact absurd hk (by rw [beq_self_eq_true]; decide)
        refine ss_nil ?_
        refine ss_fgt [10, 11, 12, 13, 14] rfl (ss_nil ?_)
        exact ⟨_, rfl, hu12.mono (by omega)⟩
      obtain ⟨cs, rfl, hui⟩ := hP
      rw [rngD_len] at hui
      have hui : Ur (c + 256) cs := hui
      refine ss_if ?_
      refine et_cut false ?_ ?_
      ·
        refine et_w ?_
        refine ew_or ?_
        refine et_not ?_
        refine et_v ?_
        refine ef_cFg k__law_judged (hr.mono (by omega)) hgd ?_
        refine ea_d ?_
        refine ef_tup ?_
        refine ea_d ?_
        refine ef_i 6 rfl ?_
        refine ⟨_, rfl, ?_⟩
        refine ea_d ?_
        refine ef_i 3 rfl ?_
        refine ⟨_, rfl, ?_⟩
        refine ea_d ?_
        refine ef_i 4 rfl ?_
        refine ⟨_, rfl, ?_⟩
        refine ea_nil ?_
        refine ⟨[_, _, _], rfl, show 3 ≤ sizeLine by decide, ?_⟩
        refine ⟨_, rfl, ?_⟩
        refine ea_d ?_
        refine ef_i 9 rfl ?_
        refine ⟨_, rfl, ?_⟩
        refine ea_d ?_
        refine ef_bl ?_
        refine ⟨_, rfl, ?_⟩
        refine ea_nil ?_
        refine ⟨((p, sure, [.tuple (gg.map .str)], .tuple acc), false), rfl, ⟨o, fun d hd => tD d (by rw [List.mem_singleton] at hd; rw [hd]; exact List.mem_cons_self), pF.dat, by show 1 ≤ 1; decide, by show 1 ≤ 9; decide⟩, ?_⟩
        refine ⟨_, rfl, ?_⟩
        refine ⟨fun hk => ?_, fun hk => ?_⟩
        · exact ⟨absurd hk (by exact Bool.false_ne_true), rfl⟩
        refine ew_one_or ?_
        refine et_not ?_
        refine et_v ?_
        refine ef_cFg k__law_judged (hr.mono (by omega)) hgd ?_
        refine ea_d ?_
        refine ef_addT ?_
        refine ef_i 8 rfl ?_
        refine ⟨_, rfl, ?_⟩
        refine ef_tup ?_
        refine ea_d ?_
        refine ef_int ?_
        refine ⟨_, rfl, ?_⟩
        refine ea_nil ?_
        refine ⟨[_], rfl, show 1 ≤ sizeLine by decide, ?_⟩
        refine ⟨_, _, rfl, rfl, (by show 4 + 1 ≤ sizeLine; decide), ?_⟩
        refine ⟨_, rfl, ?_⟩
        refine ea_d ?_
        refine ef_i 9 rfl ?_
        refine ⟨_, rfl, ?_⟩
        refine ea_d ?_
        refine ef_bl ?_
        refine ⟨_, rfl, ?_⟩
        refine ea_nil ?_
        refine ⟨((p, sure, [.tuple (gg.map .str), natD ch, .int 0], .tuple acc), false), rfl, ⟨o, fun d hd => by simp only [List.mem_cons, List.not_mem_nil, or_false] at hd; rcases hd with rfl | rfl | rfl; exact gF.dat; exact cF.dat; exact .int 0, pF.dat, by show 1 ≤ 3; decide, by show 3 ≤ 9; decide⟩, ?_⟩
        refine ⟨_, rfl, ?_⟩
        exact ⟨rfl, rfl⟩
      refine ⟨fun hk => ?_, fun hk => ?_⟩
      ·
        refine ss_retD ?_
        refine ef_bl ?_
        refine ⟨_, rfl, ?_⟩
        exact absurd hk (by exact Bool.false_ne_true)
      refine ss_nil ?_
      refine ss_fgt [6, 7, 8, 9, 10, 11, 12, 13, 14] rfl (ss_nil ?_)
      exact ⟨_, rfl, hui.mono (by omega)⟩
    obtain ⟨cs, rfl, hui⟩ := hP
    refine ss_fgt [1, 2, 3, 4, 5, 6, 7, 8, 9, 10, 11, 12, 13, 14] rfl (ss_nil ?_)
    exact ⟨_, rfl, hui.mono (by show b + 45 + 256 * 2 ≤ n + 600 * (oi + 1); omega)⟩
  obtain ⟨cs, rfl, hui⟩ := hP
  refine ss_retD ?_
  refine ef_bl ?_
  refine ⟨_, rfl, ?_⟩
  exact fun cs2 e => rfl
end W
/-! DL24: defs that give a new list of ints, and its call within a call. -/
namespace DL
open PySem PySem.Spec PyProof.Rows L2
theorem app_go {M : Model} {A : Around} {env : PySem.Env} {Q : Flow → Shared → Prop} {E : Value → Shared → Prop} {ys : List Stmt} : ∀ (xs : List Stmt) (s : Shared) (Γ : PySem.Ctx) (p : Pos), Γ.In A →
    Sem.wp M Γ (execs xs env) (fun f _ s' => match f with | .next => wpAny M A (execs ys env) Q E s' | f => Q f s') (fun e _ s' => E e s') p s → Sem.wp M Γ (execs (xs ++ ys) env) (fun f _ s' => Q f s') (fun e _ s' => E e s') p s
  | [], s, Γ, p, hΓ, h => by
    have h2 : wpAny M A (execs ys env) Q E s := h
    exact h2 Γ p hΓ
  | st :: rest, s, Γ, p, hΓ, h => by
    rw [List.cons_append, execs_cons, Sem.wp_bind']
    rw [execs_cons, Sem.wp_bind'] at h
    refine Sem.wp_mono M Γ _ (fun f p' s' h' => ?_) (fun _ _ _ h' => h') _ _ h
    cases f with
    | next => exact app_go rest s' Γ p' hΓ h'
    | _ => exact h'
section
variable {X : Cx} {σ : L2.St} {H : Hp}
theorem tSs_app {xs ys : List Stmt} {D : Ends} (h : tSs X xs { D with nx := fun σ' H' => tSs X ys D σ' H' } σ H) : tSs X (xs ++ ys) D σ H := fun pins s I => fun Γ p hΓ =>
  app_go xs s Γ p hΓ (Sem.wp_mono _ Γ _ (fun f p' s' h' => by
    cases f with
    | next =>
      obtain ⟨σ', H', I', h2⟩ := h'
      exact h2 pins s' I'
    | _ => exact h') (fun _ _ _ h' => h') _ _ (h pins s I Γ p hΓ))
end
section
variable {P : Program} {w : World} {K : PySem.W.Frag} {mg : Str → Option Value} {base : Heap} {C : Addr} {α β : Type}
/-- a def that gives a new list of ints -/
def spNew (K : PySem.W.Frag) (C : Addr) (enc : α → List PyData) (ok : α → Prop) (post : α → List Int → Prop) : Sp := fun vs H Q _ => ∃ (O : List Addr) (a : α), Own O H ∧ RepAll K C O H vs (enc a) ∧ ok a ∧
  ∀ q H' ns, (∀ a o, H a = some o → H' a = some o) → H q = none → H' q = some (.lst (ns.map V.int)) → post a ns → Q (.ref q) H'
theorem kn_New {x : Str} {st : Stmt} {N ps : List Str} {n : Nat} {enc : α → List PyData} {ok : α → Prop} {post : α → List Int → Prop} {pre : List Stmt} {e : Expr} {rp : Pos} (A : At K mg x st) (S : FnScope N ps (defScope st)) (hbody : defBody st = pre ++ [.Return (some e) rp])
    (hl : ∀ a, ok a → (enc a).length = ps.length) (hb : ∀ f fd, Fun K x x st f fd → Binds K fd ps [])
    (body : ∀ (f : Addr) (cdv : Value) (A : Around) (outer : List PySem.Env) (s : Shared) (H : Hp) (E : XK) (a : α), Room n (A.deeper (envOfC x (defScope st) s.heap.objs.size f cdv)) → ok a →
      SS C (bX P w K mg base N x st f cdv A outer s H E) pre ((enc a).map Sl.imm ++ List.replicate (N.length - (enc a).length) .un) { N := fun G1 => Efr C (bX P w K mg base N x st f cdv A outer s H E) e G1 fun ds _ => ∃ ns : List Int, ds = ns.map .int ∧ post a ns, R := fun _ _ => False }) :
    Kn P w K mg base (n + 1) x ps (spNew K C enc ok post) := by
  obtain ⟨f, fd, F, hm⟩ := A.ex
  refine ⟨f, fd, F.ok S (fun vs H Q E ⟨O, a, _, r, hp, _⟩ => by rw [r.1]; exact hl a hp) (fun cdv A outer s H vs Q E hr ⟨O, a, ow, r, hp, k⟩ => ⟨_, pss_W (defBody st), ?_⟩), hm, F.kp, hb f fd F⟩
  have hpl : ps.length ≤ N.length := by
    have := congrArg List.length S.pre
    rw [List.length_take] at this
    omega
  have E0 := env_start (N := N) ow r (by rw [hl a hp]; exact hpl)
  rw [hbody]
  refine tSs_app (body f cdv A outer s H E a hr hp O (L2.start N vs) H E0 _ (fun O' σ' G' H' E' K' z => ?_) (fun _ _ _ _ _ _ _ _ _ z => z.elim) (fun _ _ _ _ _ _ z => z.elim) (fun _ _ _ _ _ _ z => z.elim))
  refine tSs_of (pss_one (ps_ret (pe_W e))) (z O' σ' H' E' _ fun q xs ds G1 H1 E1 K1 hq ra ⟨ns, e1, hpost⟩ => ?_)
  subst e1
  have KK := K'.trans K1 E0
  have old : ∀ a o, H a = some o → H1 a = some o := fun a o e => KK.obj a o e no_ow
  rw [repAll_ints (X := bX P w K mg base N x st f cdv A outer s H E) ra]
  exact k q _ ns (fun a o e => same_new hq a o (old a o e)) (Classical.byContradiction fun h => by
    obtain ⟨o, ho⟩ := Option.ne_none_iff_exists'.mp h
    rw [old q o ho] at hq
    cases hq) upd_same hpost
end
section
variable {C : Addr} {X : Cx} {G G' : Ga} {Q : Vl → Ga → Prop} {O : List Addr} {σ : L2.St} {H H' : Hp} {α β : Type}
variable {x y z : Str} {pos pos2 p p2 : Pos} {a b e : Expr} {es : List Expr}
/-- f(g(..)), g gives a new list that f may write to -/
theorem ef_cUN {n m : Nat} {ps qs : List Str} {enc : α → List PyData} {ok : α → List PyData → Prop} {post : α → List PyData → PyData → List PyData → Prop} {enc2 : β → List PyData} {ok2 : β → Prop} {post2 : β → List Int → Prop}
    (F : KnG X.prog X.w X.K X.mg X.base n x ps (spUA X.K C enc ok post)) (N : Kn X.prog X.w X.K X.mg X.base m y qs (spNew X.K C enc2 ok2 post2)) (hr : Room n X.A) (hr2 : Room m X.A) (hgd : X.A.guards = some [])
    (h : Ea C X (e :: es) G fun vls G1 => ∃ w, vls = (enc2 w).map Vl.d ∧ ok2 w ∧ ∀ ns, post2 w ns → ∃ w2, enc w2 = [] ∧ ok w2 (ns.map .int) ∧ ∀ d cs', post w2 (ns.map .int) d cs' → Q (.d d) G1)
    (hg : Gl X x := by rfl) (hdb : (x == ("__debug__" : Str)) = false := by decide) (hg2 : Gl X y := by rfl) (hdb2 : (y == ("__debug__" : Str)) = false := by decide)
    (he : starEach (e :: es) X.env = (false, eval e X.env) :: starEach es X.env := by rfl) (hpl : (backTo pos2 (starEach es X.env)).any (·.1) = false := by rfl)
    (he2 : starEach [.Call (.Name y p2) (e :: es) [] pos2] X.env = (false, eval (.Call (.Name y p2) (e :: es) [] pos2) X.env) :: starEach [] X.env := by rfl) (hpl2 : (backTo pos (starEach [] X.env)).any (·.1) = false := by rfl) :
    Ef C X (.Call (.Name x p) [.Call (.Name y p2) (e :: es) [] pos2] [] pos) G Q := by
  obtain ⟨f, fd, F, hm, hk, hb⟩ := F.ex
  obtain ⟨f2, fd2, F2, hm2, hk2, hb2⟩ := N.ex
  intro O σ H E Q' q
  refine tW_of (pe_callG F hr hgd hg hm hk hb (pa_cons (pe_call F2 hr2 hg2 hm2 hk2 hb2 .nil pass0 (pa_W (e :: es)) hdb2 he hpl) pa_nil he2) hdb he2 hpl2) ?_
  refine h O σ H E _ fun vs vls G1 H1 E1 K1 hl R1 ⟨w, e1, hok, z⟩ => ?_
  subst e1
  refine ⟨O, w, E1.wo, by rw [List.append_nil]; exact repAll_of hl R1, hok, fun u H2 ns k hq hH2 hpost => ?_⟩
  obtain ⟨w2, henc, hok2, z2⟩ := z ns hpost
  refine ⟨u :: O, u, [], _, _, w2, rfl, List.mem_cons_self, fun c hc => ?_, hH2, RepAll.map fun i _ => .int i, by rw [henc]; exact .nil, hok2, fun v H3 d cs' xs' k3 _ _ _ hp3 r => ?_⟩
  · rcases List.mem_cons.mp hc with rfl | hc
    · exact ⟨_, hH2⟩
    · obtain ⟨xs, hx⟩ := E1.wo c hc
      exact ⟨xs, k _ _ hx⟩
  · exact Co.ext (Co.step q E K1) E1 (fun c o hc => k3 c o (k c o hc) fun e => by rw [e] at hc; rw [hc] at hq; cases hq) (r.less fun c hc => List.mem_cons_of_mem _ hc) (z2 d cs' hp3)
end
end DL
/-! DL25: the script's list; a law's call where no repr is under way. -/
namespace DL
open PySem PySem.Spec PyProof.Rows L2
theorem Scr.sqL {K : PySem.W.Frag} {H : Hp} {a : Addr} {ns : List Int} (h : Scr K H a ns) : SqL K H a (ns.map V.int) := by
  rcases h with ⟨o, h⟩ | h
  · exact .inl (.inr ⟨o, h⟩)
  · exact h H
theorem Rep.scr_inv {K : PySem.W.Frag} {C : Addr} {O : List Addr} {H : Hp} {v : V} {ns : List Int} (r : Rep K C O H v (scD ns)) : ∃ a, v = .ref a ∧ Scr K H a ns := by
  generalize e : scD ns = d at r
  cases r with
  | scr h =>
    rename_i a ms
    unfold scD at e
    injection e with e
    injection e with e
    injection e with _ e
    injection e with e
    have : ns = ms := by
      have inj : ∀ x y : Int, PyData.int x = .int y → x = y := fun x y h => by
        injection h
      exact List.map_inj_right inj |>.mp e
    subst this
    exact ⟨a, rfl, h⟩
  | _ => unfold scD at e; simp at e
section
variable {C : Addr} {X : Cx} {G : Ga} {Q : Vl → Ga → Prop} {a b : Expr} {p pos : Pos}
theorem ef_lenZ (B : Bt X.mg) (h : Ef C X a G fun v G1 => ∃ ns : List Int, v = .d (scD ns) ∧ Q (.d (.int ns.length)) G1) (hg : Gl X "len" := by rfl) (he : starEach [a] X.env = (false, eval a X.env) :: starEach [] X.env := by rfl) : Ef C X (.Call (.Name "len" p) [a] [] pos) G Q :=
  ef_cb1 call_len_seq B.len boot_len' h (fun O σ H G1 v1 x Q' E r ⟨ns, e1, q⟩ k => by
    subst e1
    obtain ⟨t, rfl, hs⟩ := Rep.scr_inv r
    refine ⟨t, ns.map V.int, rfl, .inl hs.sqL, ?_⟩
    rw [List.length_map]
    exact Co.at k E (.int _) q) hg (by decide) (by decide) he
theorem ef_slZ {lo hi : Option Expr} (h : Ef C X a G fun v1 G1 => ∃ d, v1 = .d d ∧ Eo C X lo G1 fun l G2 => Eo C X hi G2 fun u G3 => ∃ ns : List Int, d = scD ns ∧ Q (.d (.list (cutD (ns.map .int) l u))) G3) : Ef C X (.Subscript a (.Slice lo hi none p) pos) G Q :=
  ef_sl sl_list h fun O σ H G1 d l u x Q' E r ⟨ns, e1, q⟩ k => by
    subst e1
    obtain ⟨t, rfl, hs⟩ := Rep.scr_inv r
    have ra : RepAll X.K C O H (ns.map V.int) (ns.map PyData.int) := RepAll.map fun i _ => .int i
    exact ⟨t, ns.map V.int, rfl, hs.sqL, fun w hw => Co.newL k E hw (cut_rep ra l u) q⟩
theorem ef_ixZ (h : Ef C X a G fun v1 G1 => ∃ d1, v1 = .d d1 ∧ Ef C X b G1 fun v2 G2 => ∃ (ns : List Int) (i : Int) (d : PyData), d1 = scD ns ∧ v2 = .d (.int i) ∧ atI (ns.map .int) i = some d ∧ Q (.d d) G2) (hs : PlainIx b := by exact fun _ _ => rfl) : Ef C X (.Subscript a b pos) G Q :=
  ef_op2 (fun _ _ h1 h2 => pe_ix ix_list h1 h2 hs) h fun O σ H G2 d1 v2 x y Q' E r1 r2 ⟨ns, i, d, e1, e2, e3, q⟩ k => by
    subst e1 e2
    obtain ⟨t, rfl, hz⟩ := Rep.scr_inv r1
    have ra : RepAll X.K C O H (ns.map V.int) (ns.map PyData.int) := RepAll.map fun i _ => .int i
    obtain ⟨v, hv, rv⟩ := atI_rep ra e3
    exact ⟨t, ns.map V.int, i, v, rfl, Rep.int_inv r2, hz.sqL, hv, Co.at k E rv q⟩
end
/-- the law's def, run behind the top: sp is asked at a heap in which the script stands still -/
theorem run_law {P : Program} {w : World} {K : PySem.W.Frag} {mg mb : Str → Option Value} {k : Nat} {fa a : Addr} {fd : FuncData} {x : Str} {sp : Sp} {S : Shared} {items : List Value} {ns : List Int}
    (inK : K.In S.heap) (gl : S.heap.Ns mainGlobals mg) (bl : S.heap.Ns builtinsNs mb) (boot : ∀ y : Str, y ≠ "__name__" → mb y = bootBuiltins y) (noLim : S.heap.NoLimit) (noGen : S.gens = #[])
    (obj : S.heap.get? a = some { cls := .type "list", data := .seq items.toArray }) (isI : IntsAre items ns) (few : ns.length ≤ sizeLine) (room : Room k callerA)
    (F : ∀ base : Heap, K.In base → base.Ns mainGlobals mg → FnG P w K mg base k fa fd [x] sp) (bind : ∀ (s : Shared) (u : Value), BindsTo s fd ⟨[u], []⟩ [(x, u)])
    (want : ∀ H : Hp, Scr K H a ns → sp [.ref a] H (fun v _ => v = .bl true) fun _ _ _ => False) :
    codeAny (model P w) callerA (.call (.ref fa) ⟨[.ref a], []⟩) (fun r s' => r = .ok (.ret (.bool true)) ∧ OldK S.heap s'.heap ∧ s'.os = S.os ∧ AllBare s'.gens) S := by
  have vals := vals_ints isI
  have same := isI.length
  obtain ⟨H, Hdef⟩ : ∃ H : Hp, H = fun b => if b = a ∧ K.lookup a = none then some (.frz { cls := .type "list", data := .seq items.toArray } (.lst (ns.map V.int))) else none := ⟨_, rfl⟩
  have Hat : ∀ {b : Addr} {u : HO}, H b = some u → b = a ∧ K.lookup a = none ∧ u = .frz { cls := .type "list", data := .seq items.toArray } (.lst (ns.map V.int)) := fun {b u} e => by
    rw [Hdef] at e
    by_cases z : b = a ∧ K.lookup a = none
    · have e2 := (if_pos z).symm.trans e
      exact ⟨z.1, z.2, (Option.some.inj e2).symm⟩
    · have e2 := (if_neg z).symm.trans e
      cases e2
  have none_of : ∀ {b : Addr}, (∀ u, H b ≠ some u) → H b = none := fun {b} h => by
    cases e : H b with
    | none => rfl
    | some u => exact absurd e (h u)
  have scr : Scr K H a ns := by
    cases e : K.lookup a with
    | none => exact .inl ⟨_, by rw [Hdef]; exact if_pos ⟨rfl, e⟩⟩
    | some o =>
      have e2 := inK a o e
      rw [obj] at e2
      cases e2
      exact .inr fun _ => .inr ⟨_, items.toArray, _, e, rfl, rfl, rfl, by rw [List.size_toArray, same]; exact few, by simpa using vals⟩
  have ok : HOk P w H S.heap := fun b u e => by
    obtain ⟨rfl, _, rfl⟩ := Hat e
    exact ⟨obj, by rw [List.length_map]; exact few, items, _, vals, obj⟩
  have dictNone : ∀ {b : Addr} {o : Obj} {es : Array DictEntry} {ep : Nat}, S.heap.get? b = some o → o.data = .dict es ep → H b = none := fun {b o es ep} e d => none_of fun u z => by
    obtain ⟨rfl, _, _⟩ := Hat z
    rw [obj] at e
    cases e
    cases (show Data.seq items.toArray _ = Data.dict es ep from d)
  have nsB : ∀ {b : Addr} {m : Str → Option Value}, S.heap.Ns b m → (hidT S.heap H).Ns b m := fun {b m} ⟨o, es, ep, e, d, r⟩ => ⟨o, es, ep, hidT_get e (dictNone e d), d, r⟩
  have inB : K.In (hidT S.heap H) := fun b o e => hidT_get (inK b o e) (none_of fun u z => by
    obtain ⟨rfl, z2, _⟩ := Hat z
    rw [e] at z2
    cases z2)
  obtain ⟨mc, l1, l2⟩ := noLim
  have start : Env0 P w K mg (hidT S.heap H) callerA [] S H :=
    { frames := rfl, mod := ⟨inB, nsB gl, ⟨mb, nsB bl, boot⟩, ⟨mc, nsB l1, l2⟩⟩, bs := fun b o e => of_hidT e, bsz := Nat.le_of_eq (hidT_size _ _), funs := trivial, frf := fun b m => (nomatch (show b ∈ ([] : List Addr) from m)), hok := ok, bare := .of_eq noGen }
  have done := (F _ inB (nsB gl)).run callerA [] S H ⟨[.ref a], []⟩ [.ref a] [.ref a] _ _ room rfl start (bind S (.ref a)) (.cons rfl .nil) (want H scr)
  refine codeAny_mono done fun r s' got => ?_
  match r, got with
  | .error e, got => exact False.elim got
  | .ok .next, got => exact False.elim got
  | .ok .brk, got => exact False.elim got
  | .ok .cont, got => exact False.elim got
  | .ok (.ret u), ⟨v, H', sameOs, bare, un, ok', rel, true_⟩ =>
    have true_ : v = .bl true := true_
    subst true_
    obtain rfl : u = Value.bool true := rel
    refine ⟨rfl, OldK.of_keep fun b o e => ?_, sameOs, bare⟩
    cases z : H b with
    | none => exact un.keep b o e z (fun m => nomatch (show b ∈ ([] : List Addr) from m)) (fun m => nomatch m)
    | some u =>
      obtain ⟨rfl, _, rfl⟩ := Hat z
      obtain ⟨g1, _⟩ := ok' b _ (un.frzs b _ _ z)
      rw [obj] at e
      cases e
      exact g1
/-- a def at hand keeps its promise where no repr is under way -/
theorem fg_A {P : Program} {w : World} {K : PySem.W.Frag} {mg : Str → Option Value} {base : Heap} {C : Addr} {α : Type} {x q : Str} {st : Stmt} {N ps : List Str} {n : Nat} {enc : α → List PyData} {ok : α → Prop} {post : α → PyData → Prop} {f : Addr} {fd : FuncData}
    (F : Fun K x q st f fd) (S : FnScope N ps (defScope st)) (hl : ∀ a, ok a → (enc a).length = ps.length)
    (body : ∀ (cdv : Value) (A : Around) (outer : List PySem.Env) (s : Shared) (H : Hp) (E : XK) (a : α), Room n (A.deeper (envOfC q (defScope st) s.heap.objs.size f cdv)) → (bX P w K mg base N q st f cdv A outer s H E).A.guards = some [] → ok a →
      SS C (bX P w K mg base N q st f cdv A outer s H E) (defBody st) ((enc a).map Sl.imm ++ List.replicate (N.length - (enc a).length) .un) { N := fun _ => post a .none, R := fun d _ => post a d }) :
    FnG P w K mg base (n + 1) f fd ps (spA K C enc ok post) := by
  refine Fun.okG F S (fun vs H Q E ⟨O, a, _, r, hp, _⟩ => r.1.trans (hl a hp)) (fun cdv A outer s H vs Q E hr hgd ⟨O, a, ow, r, hp, k⟩ => ⟨_, pss_W (defBody st), ?_⟩)
  have few : (enc a).length ≤ N.length := by
    have h1 := congrArg List.length S.pre
    rw [List.length_take] at h1
    have h2 := hl a hp
    omega
  refine body cdv A outer s H E a hr hgd hp O (L2.start N vs) H (env_start (N := N) ow r few) _ (fun O' σ' G' H' E' K' z => ?_) (fun O' σ' v d G' H' E' K' rv z => ?_) (fun _ _ _ _ _ _ z => z.elim) (fun _ _ _ _ _ _ z => z.elim)
  · exact k .non H' .none (fun a o e => K'.obj a o e no_ow) z .non
  · exact k v H' d (fun a o e => K'.obj a o e no_ow) z (rv.less fun a m => K'.stay a m no_ow)
end DL
/-! V14: the law: urn, law -/
namespace W
open PySem PySem.Spec PyProof.Rows L2 DL M

theorem cut63 {sc : List Int} {i : Nat} {d : PyData} (h : (cutD (sc.map PyData.int) none (some 63))[i]? = some d) : ∃ z, d = .int z := by
  have h2 := List.mem_of_getElem? h
  rw [show (some (63 : Int)) = some ((63 : Nat) : Int) from rfl, cut_to] at h2
  obtain ⟨z, _, rfl⟩ := List.mem_map.mp (List.mem_of_mem_take h2)
  exact ⟨z, rfl⟩
theorem sc71 : FnScope ["_law_script", "_law_turn", "_law_blend", "_law_cell", "_law_own", "_law_long_own"] ["_law_script", "_law_turn"] (defScope (topS 71)) := ⟨rfl, rfl, rfl, by decide +kernel, rfl, by decide +kernel, by decide +kernel⟩
abbrev T__law_urn (S : Sys) : Prop := Kn S.P S.w S.K S.mg S.base 1 "_law_urn" ["_law_script", "_law_turn"] (spNew S.K S.C (α := List Int × Nat) (fun q => [scD q.1, natD q.2]) (fun _ => True) (fun _ ns => ∃ a b : Int, ns = [a, b, 0]))
theorem w__law_urn {S : Sys} (A : At S.K S.mg "_law_urn" (topS 71)) (B : Bt S.mg) : T__law_urn S := by
  refine kn_New (pre := (defBody (topS 71)).take 4) A sc71 rfl (fun _ _ => rfl) (b2 fun _ _ _ _ _ _ _ _ => rfl) fun f cdv A outer s H E a hr _ => ?_
  obtain ⟨sc, tn⟩ := a
  refine ss_set 2 ?_ rfl sc71.nd
  refine ef_add ?_
  refine ef_int ?_
  refine ⟨_, rfl, ?_⟩
  refine ef_mul ?_
  refine ef_int ?_
  refine ⟨_, rfl, ?_⟩
  refine ef_i 1 rfl ?_
  refine ⟨_, _, rfl, rfl, (.inl ⟨by omega, by omega⟩), ?_⟩
  refine ⟨_, _, rfl, rfl, ?_⟩
  refine ⟨_, rfl, rfl, ?_⟩
  refine ss_for (ts := [3]) ?_
  refine ei_l ?_
  refine ef_slZ ?_
  refine ef_i 0 rfl ?_
  refine ⟨_, rfl, ?_⟩
  refine eo_none ?_
  refine eo_some ?_
  refine ef_int ?_
  refine ⟨_, rfl, ?_⟩
  refine ⟨_, rfl, ?_⟩
  refine ⟨_, rfl, ?_⟩
  refine ⟨(fun _ G' => ∃ b : Int, G' = [.imm (scD sc), .imm (natD tn), .imm (.int b), .un, .un, .un]), ⟨_, rfl⟩, fun i d G1 hd hP => ?_, fun G1 hP => ?_⟩
  ·
    obtain ⟨b, rfl⟩ := hP
    obtain ⟨z, rfl⟩ := cut63 hd
    refine sg_n 3 rfl ?_ sc71.nd
    refine ss_set 2 ?_ rfl sc71.nd
    refine ef_mod ?_
    refine ef_intI B ?_
    refine ef_add ?_
    refine ef_add ?_
    refine ef_mul ?_
    refine ef_i 2 rfl ?_
    refine ⟨_, rfl, ?_⟩
    refine ef_int ?_
    refine ⟨_, _, rfl, rfl, (.inr ⟨by omega, by omega⟩), ?_⟩
    refine ⟨_, rfl, ?_⟩
    refine ef_mul ?_
    refine ef_intI B ?_
    refine ef_i 3 rfl ?_
    refine ⟨_, rfl, ?_⟩
    refine ⟨_, rfl, ?_⟩
    refine ef_int ?_
    refine ⟨_, _, rfl, rfl, (.inr ⟨by omega, by omega⟩), ?_⟩
    refine ⟨_, _, rfl, rfl, ?_⟩
    refine ⟨_, rfl, ?_⟩
    refine ef_int ?_
    refine ⟨_, _, rfl, rfl, ?_⟩
    refine ⟨_, rfl, ?_⟩
    refine ⟨_, rfl, ?_⟩
    refine ef_int ?_
    refine ⟨_, _, rfl, rfl, (by decide), ?_⟩
    refine ⟨_, rfl, rfl, ?_⟩
    refine ss_fgt [3] rfl (ss_nil ?_)
    exact ⟨_, rfl⟩
  obtain ⟨b, rfl⟩ := hP
  refine ss_set 4 ?_ rfl sc71.nd
  refine ef_cut (.int (if (tn : Int) < (sc.length : Int) then sc.getD tn 0 else 73 * (tn : Int) + 17)) ?_ ?_
  ·
    refine ef_if ?_
    refine et_c ?_
    refine ec_lt ?_
    refine ef_i 1 rfl ?_
    refine ⟨_, rfl, ?_⟩
    refine ef_lenZ B ?_
    refine ef_i 0 rfl ?_
    refine ⟨_, rfl, ?_⟩
    refine ⟨_, _, rfl, rfl, ?_⟩
    refine ⟨_, rfl, ?_⟩
    refine ⟨fun hk => ?_, fun hk => ?_⟩
    ·
      refine ef_intI B ?_
      refine ef_ixZ ?_
      refine ef_i 0 rfl ?_
      refine ⟨_, rfl, ?_⟩
      refine ef_i 1 rfl ?_
      refine ⟨_, _, _, rfl, rfl, (atI_of (ls_at (by have h9 := of_decide_eq_true hk; omega))), ?_⟩
      refine ⟨_, rfl, ?_⟩
      exact ⟨(by rw [if_pos (of_decide_eq_true hk)]), rfl⟩
    ·
      refine ef_add ?_
      refine ef_mul ?_
      refine ef_int ?_
      refine ⟨_, rfl, ?_⟩
      refine ef_i 1 rfl ?_
      refine ⟨_, _, rfl, rfl, (.inl ⟨by omega, by omega⟩), ?_⟩
      refine ⟨_, rfl, ?_⟩
      refine ef_int ?_
      refine ⟨_, _, rfl, rfl, ?_⟩
      exact ⟨(by rw [if_neg (of_decide_eq_false hk)]), rfl⟩
  refine ⟨_, rfl, rfl, ?_⟩
  refine ss_set 5 ?_ rfl sc71.nd
  generalize (if (tn : Int) < (sc.length : Int) then sc.getD tn 0 else 73 * (tn : Int) + 17) = o
  refine ef_cut (.int (if (10 : Int) ^ (18 : Int).toNat ≤ (if o < 0 then -o else o) then (if o < 0 then -o else o) else 0)) ?_ ?_
  ·
    refine ef_if ?_
    refine et_c ?_
    refine ec_ge ?_
    refine ef_abs B ?_
    refine ef_i 4 rfl ?_
    refine ⟨_, rfl, ?_⟩
    refine ⟨_, rfl, ?_⟩
    refine ef_pow ?_
    refine ef_int ?_
    refine ⟨_, rfl, ?_⟩
    refine ef_int ?_
    refine ⟨_, _, rfl, rfl, (by exact ⟨by decide, by decide, by decide⟩), ?_⟩
    refine ⟨_, _, rfl, rfl, ?_⟩
    refine ⟨_, rfl, ?_⟩
    refine ⟨fun hk => ?_, fun hk => ?_⟩
    ·
      refine ef_abs B ?_
      refine ef_i 4 rfl ?_
      refine ⟨_, rfl, ?_⟩
      exact ⟨(by rw [if_pos (of_decide_eq_true hk)]), rfl⟩
    ·
      refine ef_int ?_
      exact ⟨(by rw [if_neg (of_decide_eq_false hk)]), rfl⟩
  refine ⟨_, rfl, rfl, ?_⟩
  refine ss_nil ?_
  refine efr_lst ?_
  refine ea_d ?_
  refine ef_i 5 rfl ?_
  refine ⟨_, rfl, ?_⟩
  refine ea_d ?_
  refine ef_mod ?_
  refine ef_intI B ?_
  refine ef_add ?_
  refine ef_i 2 rfl ?_
  refine ⟨_, rfl, ?_⟩
  refine ef_mul ?_
  refine ef_i 4 rfl ?_
  refine ⟨_, rfl, ?_⟩
  refine ef_int ?_
  refine ⟨_, _, rfl, rfl, (.inr ⟨by omega, by omega⟩), ?_⟩
  refine ⟨_, _, rfl, rfl, ?_⟩
  refine ⟨_, rfl, ?_⟩
  refine ⟨_, rfl, ?_⟩
  refine ef_int ?_
  refine ⟨_, _, rfl, rfl, (by decide), ?_⟩
  refine ⟨_, rfl, ?_⟩
  refine ea_d ?_
  refine ef_int ?_
  refine ⟨_, rfl, ?_⟩
  refine ea_nil ?_
  refine ⟨[_, _, _], rfl, show 3 ≤ sizeLine by decide, ?_⟩
  exact ⟨[_, _, _], rfl, _, _, rfl⟩
theorem sc98 : FnScope ["_law_script", "_law_turn"] ["_law_script"] (defScope (topS 98)) := ⟨rfl, rfl, rfl, by decide +kernel, rfl, by decide +kernel, by decide +kernel⟩
abbrev T_law (S : Sys) (f : Addr) (fd : FuncData) : Prop := FnG S.P S.w S.K S.mg S.base 14 f fd ["_law_script"] (spF S.K S.C (α := List Int) (fun q => [scD q]) (fun q => q.length ≤ 63) (fun _ => .bool true))
theorem w_law {S : Sys} {f : Addr} {fd : FuncData} (F : Fun S.K "law" "law" (topS 98) f fd) (B : Bt S.mg) (k__law_urn : T__law_urn S) (k__law_right : T__law_right S) : T_law S f fd := by
  refine fg_A F sc98 (fun _ _ => rfl) fun cdv A outer s H E a hr hgd hp => ?_
  have hp : a.length ≤ 63 := hp
  refine ss_retD ?_
  refine ef_allF B ?_
  refine ef_lcM (ts := [1]) [("_law_turn", 1)] (fun _ => .bool true) (show blkC ["_law_script", "_law_turn"] (defScope (topS 98)) _ [("_law_turn", 1)] = true from by decide +kernel) sc98.nd ?_
  refine ei_r B ?_
  refine ef_max2 B ?_
  refine ef_int ?_
  refine ⟨_, rfl, ?_⟩
  refine ef_min2 B ?_
  refine ef_lenZ B ?_
  refine ef_i 0 rfl ?_
  refine ⟨_, rfl, ?_⟩
  refine ⟨_, rfl, ?_⟩
  refine ef_int ?_
  refine ⟨_, _, rfl, rfl, ?_⟩
  refine ⟨_, _, rfl, rfl, ?_⟩
  generalize hq : (if (4 : Int) < (a.length : Int) then (4 : Int) else (a.length : Int)) = q
  have hq9 : q ≤ 4 ∧ 0 ≤ q := by rw [← hq]; split <;> omega
  generalize hr9 : (if q > (2 : Int) then q else (2 : Int)) = r
  have hr8 : r ≤ 4 ∧ 0 ≤ r := by rw [← hr9]; split <;> omega
  refine ⟨_, rfl, by omega, by omega, ?_⟩
  refine ⟨rfl, by rw [rngD_len]; omega, by decide, fun d hd s H0 Cc cl fp => ?_, ?_⟩
  · obtain ⟨t, ht, rfl⟩ := rng_mem hd
    refine sg_n 1 rfl ?_ sc98.nd
    refine ⟨rfl, fun s H0 Cc cl fp => ?_⟩
    refine ef_cUN k__law_right k__law_urn (hr.mono (by omega)) (hr.mono (by omega)) hgd ?_
    refine ea_d ?_
    refine ef_i 0 rfl ?_
    refine ⟨_, rfl, ?_⟩
    refine ea_d ?_
    refine ef_i 1 rfl ?_
    refine ⟨_, rfl, ?_⟩
    refine ea_nil ?_
    refine ⟨(a, t), rfl, trivial, fun ns hns => ?_⟩
    obtain ⟨x, y, rfl⟩ := hns
    refine ⟨0, rfl, ⟨⟨x, y, 0, rfl, by omega, by omega⟩, by decide⟩, fun d cs' hd => ?_⟩
    have hd : d = .bool true := hd
    subst hd
    exact ⟨rfl, rfl⟩
  refine ⟨_, _, rfl, ?_⟩
  refine ⟨_, rfl, ?_⟩
  show PyData.bool _ = PyData.bool true
  congr 1
  simp
end W
/-! HX: what the top leaves, by names. -/
namespace W
open PySem PySem.Spec PyProof.Rows L2 DL M
/-- a property's getter -/
def pf (K : PySem.W.Frag) (C : Addr) (f : Str) : Addr := match PySem.W.recIn K (He.ma K C f) "property" with
  | some (.ref g :: _) => g
  | _ => 0
def prB (K : PySem.W.Frag) (C : Addr) (f : Str) : Bool := He.eqO (PySem.W.findIn K (.ref C) f) (some (some (.ref (He.ma K C f)))) && (He.eqO (PySem.W.specialIn K (.ref (He.ma K C f)) "__get__") (some (some (.builtin "property.__get__"))) && (decide (PySem.W.takesIn K (.ref (He.ma K C f)) = some true) && (match PySem.W.recIn K (He.ma K C f) "property" with
  | some (.ref _ :: _) => true
  | _ => false)))
theorem prB_ok {K : PySem.W.Frag} {C : Addr} {f : Str} (h : prB K C f = true) : PropOf K C f (He.ma K C f) (pf K C f) := by
  obtain ⟨h1, h⟩ := He.ba h
  obtain ⟨h2, h⟩ := He.ba h
  obtain ⟨h3, h4⟩ := He.ba h
  refine ⟨He.eqO_ok h1, He.eqO_ok h2, of_decide_eq_true h3, ?_⟩
  unfold pf
  split at h4
  · rename_i g r e
    exact ⟨r, by rw [e]⟩
  · cases h4
abbrev nC (K : PySem.W.Frag) : Addr := He.ga K "Night"
/-- the class's properties, its classmethod, ZERO -/
def xB (K : PySem.W.Frag) : Bool := He.tupB K "ZERO" [.int 0, .int 1] && (prB K (nC K) "divisors" && (prB K (nC K) "parties" && (prB K (nC K) "piles" && (prB K (nC K) "names" && (prB K (nC K) "seats" && (PySem.W.readsIn K (nC K) (.type "type") && (He.eqO (PySem.W.specialIn K (.ref (nC K)) "__getattribute__") (some (some (.builtin "type.__getattribute__"))) &&
  (He5.wrapB K (nC K) "classmethod" "classmethod.__get__" "read" && PySem.W.fnIn K (He5.wf K (nC K) "classmethod" "read")))))))))
def obsX (fa : List He.Fa) (fn : List He5.DefA) (K : PySem.W.Frag) : He.AlD := ((fa.all fun f => f.ok K) && ((fn.all fun d => d.ok K) && xB K), fn.map fun d => He5.fnA K (d.at_ K))
/-- what an address names -/
def nxt (g : Addr → Option Obj) (a : Addr) : List Addr := match g a with
  | some o => He.refsD o
  | none => []
/-- a class's own table -/
def tab (g : Addr → Option Obj) (a : Addr) : List Addr := match g a with
  | some ⟨_, _, .cls cd, _⟩ => [cd.ns]
  | _ => []
def nmA (xs : List Str) (g : Addr → Option Obj) : List Addr := xs.map fun x => He.ga (He.frG g [mainGlobals]) x
def nghT (g : Addr → Option Obj) : List Addr := (nmA ["Night"] g).flatMap (tab g)
def asX (xs : List Str) (g : Addr → Option Obj) : List Addr :=
  mainGlobals :: (nmA ["Night"] g ++ (nghT g ++ (nmA xs g ++ ((nmA xs g).flatMap (nxt g) ++ ((nghT g).flatMap (nxt g) ++ (((nghT g).flatMap (nxt g)).flatMap (nxt g) ++ (((nghT g).flatMap (nxt g)).flatMap (nxt g)).flatMap (nxt g)))))) ++ [cStatics])
def obsXG (n : List Str) (fa : List He.Fa) (fn : List He5.DefA) (g : Addr → Option Obj) : He.AlD := obsX fa fn (He.frG g (asX n g))
def hookX (n : List Str) (fa : List He.Fa) (fn : List He5.DefA) : PySem.W.Hook where
  α := He.AlD
  obs := fun s => obsXG n fa fn s.heap.get?
  val := fun _ => He5.valA fn
  says := fun _ h => ∃ K : PySem.W.Frag, K.In h ∧ obsX fa fn K = He5.valA fn
  of := fun _ _ e => ⟨_, He.frG_in, e⟩
  keeps := fun _ _ _ ⟨K, hK, c⟩ k => ⟨K, PySem.W.Frag.In.keeps hK k, c⟩
theorem obsXG_eq {n : List Str} {fa : List He.Fa} {fn : List He5.DefA} {g : Addr → Option Obj} {s : Shared} (h : ∀ a, g a = s.heap.get? a) : obsXG n fa fn g = (hookX n fa fn).obs s := by
  have e : g = s.heap.get? := funext h
  rw [e]
  rfl
section
variable {fa : List He.Fa} {fn : List He5.DefA} {K : PySem.W.Frag}
theorem sx_all (c : obsX fa fn K = He5.valA fn) : (∀ f ∈ fa, f.ok K = true) ∧ (∀ d ∈ fn, d.ok K = true) ∧ xB K = true := by
  obtain ⟨c1, c2⟩ := He.ba (show ((fa.all fun f => f.ok K) && ((fn.all fun d => d.ok K) && xB K)) = true from congrArg (fun z : He.AlD => z.1) c)
  obtain ⟨c3, c4⟩ := He.ba c2
  exact ⟨List.all_eq_true.mp c1, List.all_eq_true.mp c3, c4⟩
theorem sx_fact (c : obsX fa fn K = He5.valA fn) (i : Nat) {f : He.Fa} (h : fa[i]? = some f := by rfl) : f.ok K = true := (sx_all c).1 f (List.mem_of_getElem? h)
theorem sx_def (c : obsX fa fn K = He5.valA fn) (i : Nat) {d : He5.DefA} (h : fn[i]? = some d := by rfl) : ∃ fd, FunD K d.name d.qual d.params d.body d.scope (d.dvs K) (d.kws K) (d.at_ K) fd := by
  have e : fn.map (fun d => He5.fnA K (d.at_ K)) = fn.map He5.DefA.val := congrArg (fun z : He.AlD => z.2) c
  have e2 : (fn.map fun d => He5.fnA K (d.at_ K))[i]? = (fn.map He5.DefA.val)[i]? := by rw [e]
  rw [List.getElem?_map, List.getElem?_map, h] at e2
  exact He5.DefA.funD (Option.some.inj e2) ((sx_all c).2.1 d (List.mem_of_getElem? h))
end
def hdn0 : List Str := ["is_whole", "is_integer", "is_name", "is_tuple_of", "written", "common", "lowest", "times", "is_above", "is_fraction", "are_divisors", "check_divisors", "check_parties", "is_pile", "check_piles", "words_of", "parts_of", "tables_of", "is_table", "counts_of", "need_of", "step_of", "needs_at", "given_to", "is_bloc", "seats_in", "night_of", "last_price", "lacks_at", "do_bar"]
def hdn1 : List Str := ["accepts_bloc", "accepts", "_law_urn", "_law_pull", "_law_pick", "_law_called", "_law_parts", "_law_sheet", "_law_splits", "_law_held", "_law_gang", "_law_whole", "_law_lowest", "_law_is_gang", "_law_is_split", "_law_need", "_law_forced", "_law_climb", "_law_lacks", "_law_given", "_law_group", "_law_top", "_law_bar_due", "_law_spare", "_law_bent", "_law_judged", "_law_bloc_due", "_law_bars", "_law_right", "law"]
def hdn2 : List Str := ["ZERO"]
def hdn : List Str := hdn0 ++ (hdn1 ++ (hdn2))
def hfa0 : List He.Fa := [.glo "is_whole", .glo "is_integer", .glo "is_name", .glo "is_tuple_of", .glo "written", .glo "common", .glo "lowest", .glo "times", .glo "is_above", .glo "is_fraction", .glo "are_divisors", .glo "check_divisors"]
def hfa1 : List He.Fa := [.glo "check_parties", .glo "is_pile", .glo "check_piles", .glo "words_of", .glo "parts_of", .glo "tables_of", .glo "is_table", .glo "counts_of", .glo "need_of", .glo "step_of", .glo "needs_at", .glo "given_to"]
def hfa2 : List He.Fa := [.glo "is_bloc", .glo "seats_in", .glo "night_of", .glo "last_price", .glo "lacks_at", .glo "do_bar", .glo "accepts_bloc", .glo "accepts", .glo "_law_urn", .glo "_law_pull", .glo "_law_pick", .glo "_law_called"]
def hfa3 : List He.Fa := [.glo "_law_parts", .glo "_law_sheet", .glo "_law_splits", .glo "_law_held", .glo "_law_gang", .glo "_law_whole", .glo "_law_lowest", .glo "_law_is_gang", .glo "_law_is_split", .glo "_law_need", .glo "_law_forced", .glo "_law_climb"]
def hfa4 : List He.Fa := [.glo "_law_lacks", .glo "_law_given", .glo "_law_group", .glo "_law_top", .glo "_law_bar_due", .glo "_law_spare", .glo "_law_bent", .glo "_law_judged", .glo "_law_bloc_due", .glo "_law_bars", .glo "_law_right", .glo "law"]
def hfa5 : List He.Fa := [.glo "Night", .glo "accepts_can", .glo "accepts_barred", .glo "accepts_distance", .glo "ZERO", .free "len", .free "isinstance", .free "all", .free "any", .free "sum", .free "abs", .free "max"]
def hfa6 : List He.Fa := [.free "min", .free "int", .free "bool", .free "str", .free "tuple", .free "list", .free "set", .free "sorted", .free "range", .free "zip", .free "enumerate", .free "repr"]
def hfa7 : List He.Fa := [.int "MOST_SEATS" 12, .int "MOST_DIVISOR" 100, .int "MOST_PARTIES" 6, .int "MOST_PILES" 6, .int "MOST_COUNT" 1000000, .int "LONGEST_NAME" 8, .int "LONGEST_NUMBER" 8, .str "LETTERS" "abcdefghijklmnopqrstuvwxyz", .str "DIGITS" "0123456789", .cls "Night", .noat "Night" "held_divisors", .noat "Night" "held_parties"]
def hfa8 : List He.Fa := [.noat "Night" "held_piles", .meth "Night" "tables", .mkr "Night"]
def hfa : List He.Fa := hfa0 ++ (hfa1 ++ (hfa2 ++ (hfa3 ++ (hfa4 ++ (hfa5 ++ (hfa6 ++ (hfa7 ++ (hfa8))))))))
def hfn0 : List He5.DefA := [⟨fun K => He.ga K "is_whole", "is_whole", "is_whole", defArgs (topS 18), defBody (topS 18), defScope (topS 18), [], []⟩, ⟨fun K => He.ga K "is_integer", "is_integer", "is_integer", defArgs (topS 19), defBody (topS 19), defScope (topS 19), [], []⟩, ⟨fun K => He.ga K "is_name", "is_name", "is_name", defArgs (topS 20), defBody (topS 20), defScope (topS 20), [], []⟩, ⟨fun K => He.ga K "is_tuple_of", "is_tuple_of", "is_tuple_of", defArgs (topS 21), defBody (topS 21), defScope (topS 21), [], []⟩, ⟨fun K => He.ga K "written", "written", "written", defArgs (topS 22), defBody (topS 22), defScope (topS 22), [], []⟩, ⟨fun K => He.ga K "common", "common", "common", defArgs (topS 23), defBody (topS 23), defScope (topS 23), [], []⟩]
def hfn1 : List He5.DefA := [⟨fun K => He.ga K "lowest", "lowest", "lowest", defArgs (topS 24), defBody (topS 24), defScope (topS 24), [], []⟩, ⟨fun K => He.ga K "times", "times", "times", defArgs (topS 25), defBody (topS 25), defScope (topS 25), [], []⟩, ⟨fun K => He.ga K "is_above", "is_above", "is_above", defArgs (topS 26), defBody (topS 26), defScope (topS 26), [], []⟩, ⟨fun K => He.ga K "is_fraction", "is_fraction", "is_fraction", defArgs (topS 27), defBody (topS 27), defScope (topS 27), [], []⟩, ⟨fun K => He.ga K "are_divisors", "are_divisors", "are_divisors", defArgs (topS 29), defBody (topS 29), defScope (topS 29), [], []⟩, ⟨fun K => He.ga K "check_divisors", "check_divisors", "check_divisors", defArgs (topS 30), defBody (topS 30), defScope (topS 30), [], []⟩]
def hfn2 : List He5.DefA := [⟨fun K => He.ga K "check_parties", "check_parties", "check_parties", defArgs (topS 31), defBody (topS 31), defScope (topS 31), [], []⟩, ⟨fun K => He.ga K "is_pile", "is_pile", "is_pile", defArgs (topS 32), defBody (topS 32), defScope (topS 32), [], []⟩, ⟨fun K => He.ga K "check_piles", "check_piles", "check_piles", defArgs (topS 33), defBody (topS 33), defScope (topS 33), [], []⟩, ⟨fun K => He.ga K "words_of", "words_of", "words_of", defArgs (topS 34), defBody (topS 34), defScope (topS 34), [], []⟩, ⟨fun K => He.ga K "parts_of", "parts_of", "parts_of", defArgs (topS 35), defBody (topS 35), defScope (topS 35), [], []⟩, ⟨fun K => He.ga K "tables_of", "tables_of", "tables_of", defArgs (topS 37), defBody (topS 37), defScope (topS 37), [], []⟩]
def hfn3 : List He5.DefA := [⟨fun K => He.ga K "is_table", "is_table", "is_table", defArgs (topS 39), defBody (topS 39), defScope (topS 39), [], []⟩, ⟨fun K => He.ga K "counts_of", "counts_of", "counts_of", defArgs (topS 42), defBody (topS 42), defScope (topS 42), [], []⟩, ⟨fun K => He.ga K "need_of", "need_of", "need_of", defArgs (topS 45), defBody (topS 45), defScope (topS 45), [], []⟩, ⟨fun K => He.ga K "step_of", "step_of", "step_of", defArgs (topS 46), defBody (topS 46), defScope (topS 46), [], []⟩, ⟨fun K => He.ga K "needs_at", "needs_at", "needs_at", defArgs (topS 47), defBody (topS 47), defScope (topS 47), [], []⟩, ⟨fun K => He.ga K "given_to", "given_to", "given_to", defArgs (topS 49), defBody (topS 49), defScope (topS 49), [], []⟩]
def hfn4 : List He5.DefA := [⟨fun K => He.ga K "is_bloc", "is_bloc", "is_bloc", defArgs (topS 51), defBody (topS 51), defScope (topS 51), [], []⟩, ⟨fun K => He.ga K "seats_in", "seats_in", "seats_in", defArgs (topS 52), defBody (topS 52), defScope (topS 52), [], []⟩, ⟨fun K => He.ga K "night_of", "night_of", "night_of", defArgs (topS 54), defBody (topS 54), defScope (topS 54), [], []⟩, ⟨fun K => He.ga K "last_price", "last_price", "last_price", defArgs (topS 61), defBody (topS 61), defScope (topS 61), [], []⟩, ⟨fun K => He.ga K "lacks_at", "lacks_at", "lacks_at", defArgs (topS 62), defBody (topS 62), defScope (topS 62), [], []⟩, ⟨fun K => He.ga K "do_bar", "do_bar", "do_bar", defArgs (topS 63), defBody (topS 63), defScope (topS 63), [], []⟩]
def hfn5 : List He5.DefA := [⟨fun K => He.ga K "accepts_bloc", "accepts_bloc", "accepts_bloc", defArgs (topS 65), defBody (topS 65), defScope (topS 65), [], []⟩, ⟨fun K => He.ga K "accepts", "accepts", "accepts", defArgs (topS 69), defBody (topS 69), defScope (topS 69), [], []⟩, ⟨fun K => He.ga K "_law_urn", "_law_urn", "_law_urn", defArgs (topS 71), defBody (topS 71), defScope (topS 71), [], []⟩, ⟨fun K => He.ga K "_law_pull", "_law_pull", "_law_pull", defArgs (topS 72), defBody (topS 72), defScope (topS 72), [], []⟩, ⟨fun K => He.ga K "_law_pick", "_law_pick", "_law_pick", defArgs (topS 73), defBody (topS 73), defScope (topS 73), [], []⟩, ⟨fun K => He.ga K "_law_called", "_law_called", "_law_called", defArgs (topS 74), defBody (topS 74), defScope (topS 74), [], []⟩]
def hfn6 : List He5.DefA := [⟨fun K => He.ga K "_law_parts", "_law_parts", "_law_parts", defArgs (topS 75), defBody (topS 75), defScope (topS 75), [], []⟩, ⟨fun K => He.ga K "_law_sheet", "_law_sheet", "_law_sheet", defArgs (topS 76), defBody (topS 76), defScope (topS 76), [], []⟩, ⟨fun K => He.ga K "_law_splits", "_law_splits", "_law_splits", defArgs (topS 77), defBody (topS 77), defScope (topS 77), [], []⟩, ⟨fun K => He.ga K "_law_held", "_law_held", "_law_held", defArgs (topS 78), defBody (topS 78), defScope (topS 78), [], []⟩, ⟨fun K => He.ga K "_law_gang", "_law_gang", "_law_gang", defArgs (topS 79), defBody (topS 79), defScope (topS 79), [], []⟩, ⟨fun K => He.ga K "_law_whole", "_law_whole", "_law_whole", defArgs (topS 80), defBody (topS 80), defScope (topS 80), [], []⟩]
def hfn7 : List He5.DefA := [⟨fun K => He.ga K "_law_lowest", "_law_lowest", "_law_lowest", defArgs (topS 81), defBody (topS 81), defScope (topS 81), [], []⟩, ⟨fun K => He.ga K "_law_is_gang", "_law_is_gang", "_law_is_gang", defArgs (topS 82), defBody (topS 82), defScope (topS 82), [], []⟩, ⟨fun K => He.ga K "_law_is_split", "_law_is_split", "_law_is_split", defArgs (topS 83), defBody (topS 83), defScope (topS 83), [], []⟩, ⟨fun K => He.ga K "_law_need", "_law_need", "_law_need", defArgs (topS 84), defBody (topS 84), defScope (topS 84), [], []⟩, ⟨fun K => He.ga K "_law_forced", "_law_forced", "_law_forced", defArgs (topS 85), defBody (topS 85), defScope (topS 85), [], []⟩, ⟨fun K => He.ga K "_law_climb", "_law_climb", "_law_climb", defArgs (topS 86), defBody (topS 86), defScope (topS 86), [], []⟩]
def hfn8 : List He5.DefA := [⟨fun K => He.ga K "_law_lacks", "_law_lacks", "_law_lacks", defArgs (topS 87), defBody (topS 87), defScope (topS 87), [], []⟩, ⟨fun K => He.ga K "_law_given", "_law_given", "_law_given", defArgs (topS 88), defBody (topS 88), defScope (topS 88), [], []⟩, ⟨fun K => He.ga K "_law_group", "_law_group", "_law_group", defArgs (topS 89), defBody (topS 89), defScope (topS 89), [], []⟩, ⟨fun K => He.ga K "_law_top", "_law_top", "_law_top", defArgs (topS 90), defBody (topS 90), defScope (topS 90), [], []⟩, ⟨fun K => He.ga K "_law_bar_due", "_law_bar_due", "_law_bar_due", defArgs (topS 91), defBody (topS 91), defScope (topS 91), [], []⟩, ⟨fun K => He.ga K "_law_spare", "_law_spare", "_law_spare", defArgs (topS 92), defBody (topS 92), defScope (topS 92), [], []⟩]
def hfn9 : List He5.DefA := [⟨fun K => He.ga K "_law_bent", "_law_bent", "_law_bent", defArgs (topS 93), defBody (topS 93), defScope (topS 93), [], []⟩, ⟨fun K => He.ga K "_law_judged", "_law_judged", "_law_judged", defArgs (topS 94), defBody (topS 94), defScope (topS 94), [], []⟩, ⟨fun K => He.ga K "_law_bloc_due", "_law_bloc_due", "_law_bloc_due", defArgs (topS 95), defBody (topS 95), defScope (topS 95), [], []⟩, ⟨fun K => He.ga K "_law_bars", "_law_bars", "_law_bars", defArgs (topS 96), defBody (topS 96), defScope (topS 96), [], []⟩, ⟨fun K => He.ga K "_law_right", "_law_right", "_law_right", defArgs (topS 97), defBody (topS 97), defScope (topS 97), [], []⟩, ⟨fun K => He.ga K "law", "law", "law", defArgs (topS 98), defBody (topS 98), defScope (topS 98), [], []⟩]
def hfn10 : List He5.DefA := [⟨fun K => He.ma K (He.ga K "Night") "__init__", "__init__", "Night.__init__", defArgs (mS 0), defBody (mS 0), defScope (mS 0), [He.Dv.adr (He.dflAt ("Night", some "__init__") 0)], []⟩, ⟨fun K => He5.wf K (He.ga K "Night") "classmethod" "read", "read", "Night.read", defArgs (mS 1), defBody (mS 1), defScope (mS 1), [], []⟩, ⟨fun K => pf K (He.ga K "Night") "divisors", "divisors", "Night.divisors", defArgs (mS 2), defBody (mS 2), defScope (mS 2), [], []⟩, ⟨fun K => pf K (He.ga K "Night") "parties", "parties", "Night.parties", defArgs (mS 3), defBody (mS 3), defScope (mS 3), [], []⟩, ⟨fun K => pf K (He.ga K "Night") "piles", "piles", "Night.piles", defArgs (mS 4), defBody (mS 4), defScope (mS 4), [], []⟩, ⟨fun K => pf K (He.ga K "Night") "names", "names", "Night.names", defArgs (mS 5), defBody (mS 5), defScope (mS 5), [], []⟩]
def hfn11 : List He5.DefA := [⟨fun K => pf K (He.ga K "Night") "seats", "seats", "Night.seats", defArgs (mS 6), defBody (mS 6), defScope (mS 6), [], []⟩, ⟨fun K => He.ma K (He.ga K "Night") "tables", "tables", "Night.tables", defArgs (mS 14), defBody (mS 14), defScope (mS 14), [], []⟩]
def hfn : List He5.DefA := hfn0 ++ (hfn1 ++ (hfn2 ++ (hfn3 ++ (hfn4 ++ (hfn5 ++ (hfn6 ++ (hfn7 ++ (hfn8 ++ (hfn9 ++ (hfn10 ++ (hfn11)))))))))))
abbrev hkX : PySem.W.Hook := hookX hdn hfa hfn
def obX (s : PySem.W.SharedT) : He.AlD := obsXG hdn hfa hfn (HandSHeadRun.getT s)
theorem obX_eq (s : PySem.W.SharedT) : obX s = hkX.obs s.abs := obsXG_eq (HandSHeadRun.getT_eq s)
abbrev RR : PySem.W.OpenRow := PySem.W.OpenLaw.row PySem.Challenge.rw_restballots_k51_whole_bloc_claims_judged
def names0 : List PySem.Str := ["_wall", "BadValue", "InvalidText", "InvalidDivisors", "InvalidParties", "InvalidPiles", "MOST_SEATS", "MOST_DIVISOR", "MOST_PARTIES", "MOST_PILES", "MOST_COUNT", "LETTERS", "DIGITS", "LONGEST_NAME", "LONGEST_NUMBER", "ZERO", "is_whole", "is_integer", "is_name", "is_tuple_of"]
def names1 : List PySem.Str := ["written", "common", "lowest", "times", "is_above", "is_fraction", "are_divisors", "check_divisors", "check_parties", "is_pile", "check_piles", "words_of", "parts_of", "Night", "tables_of", "are_ballots", "is_table", "price_range", "counts_of", "is_price"]
def names2 : List PySem.Str := ["need_of", "step_of", "needs_at", "given_to", "is_bloc", "seats_in", "night_of", "quotient", "pairs_for", "is_priced", "accepts_can", "last_price", "lacks_at", "do_bar", "accepts_barred", "accepts_bloc", "accepts_distance", "are_counts", "accepts_rules", "accepts"]
def names3 : List PySem.Str := ["_law_urn", "_law_pull", "_law_pick", "_law_called", "_law_parts", "_law_sheet", "_law_splits", "_law_held", "_law_gang", "_law_whole", "_law_lowest", "_law_is_gang", "_law_is_split", "_law_need", "_law_forced", "_law_climb", "_law_lacks", "_law_given", "_law_group", "_law_top"]
def names4 : List PySem.Str := ["_law_bar_due", "_law_spare", "_law_bent", "_law_judged", "_law_bloc_due", "_law_bars", "_law_right"]
def names : List PySem.Str := names0 ++ names1 ++ names2 ++ names3 ++ names4
theorem hrun (w : World) : HandSHeadRun.RunEq RR (PySem.W.view RR.prog [98]) hkX obX 6000 names w := by
  intro os
  kernel_rfl
end W
/-! HY: all of it put together. -/
namespace W
open PySem PySem.Spec PyProof.Rows L2 DL M
theorem mkAt {K : PySem.W.Frag} {mg : Str → Option Value} {x : Str} {st : Stmt} (F : ∃ fd, FunD K x x (defArgs st) (defBody st) (defScope st) [] [] (He.ga K x) fd) (g : mg x = some (.ref (He.ga K x))) : At K mg x st := by
  obtain ⟨fd, F⟩ := F
  exact ⟨_, fd, He5.fun_of F, g⟩
theorem all_law {P : Program} {w : World} {K : PySem.W.Frag} {h : Heap} {mg : Str → Option Value} {base : Heap} (X : K.In h) (G : h.Ns mainGlobals mg) (c : obsX hfa hfn K = He5.valA hfn) {f : Addr} {fd : FuncData} (F : Fun K "law" "law" (topS 98) f fd) : T_law ⟨P, w, K, mg, base, nC K⟩ f fd := by
  have a_is_whole : At K mg "is_whole" (topS 18) := mkAt (sx_def c 0) (He.glo_ok X G (sx_fact c 0))
  have a_is_integer : At K mg "is_integer" (topS 19) := mkAt (sx_def c 1) (He.glo_ok X G (sx_fact c 1))
  have a_is_name : At K mg "is_name" (topS 20) := mkAt (sx_def c 2) (He.glo_ok X G (sx_fact c 2))
  have a_is_tuple_of : At K mg "is_tuple_of" (topS 21) := mkAt (sx_def c 3) (He.glo_ok X G (sx_fact c 3))
  have a_written : At K mg "written" (topS 22) := mkAt (sx_def c 4) (He.glo_ok X G (sx_fact c 4))
  have a_common : At K mg "common" (topS 23) := mkAt (sx_def c 5) (He.glo_ok X G (sx_fact c 5))
  have a_lowest : At K mg "lowest" (topS 24) := mkAt (sx_def c 6) (He.glo_ok X G (sx_fact c 6))
  have a_times : At K mg "times" (topS 25) := mkAt (sx_def c 7) (He.glo_ok X G (sx_fact c 7))
  have a_is_above : At K mg "is_above" (topS 26) := mkAt (sx_def c 8) (He.glo_ok X G (sx_fact c 8))
  have a_is_fraction : At K mg "is_fraction" (topS 27) := mkAt (sx_def c 9) (He.glo_ok X G (sx_fact c 9))
  have a_are_divisors : At K mg "are_divisors" (topS 29) := mkAt (sx_def c 10) (He.glo_ok X G (sx_fact c 10))
  have a_check_divisors : At K mg "check_divisors" (topS 30) := mkAt (sx_def c 11) (He.glo_ok X G (sx_fact c 11))
  have a_check_parties : At K mg "check_parties" (topS 31) := mkAt (sx_def c 12) (He.glo_ok X G (sx_fact c 12))
  have a_is_pile : At K mg "is_pile" (topS 32) := mkAt (sx_def c 13) (He.glo_ok X G (sx_fact c 13))
  have a_check_piles : At K mg "check_piles" (topS 33) := mkAt (sx_def c 14) (He.glo_ok X G (sx_fact c 14))
  have a_words_of : At K mg "words_of" (topS 34) := mkAt (sx_def c 15) (He.glo_ok X G (sx_fact c 15))
  have a_parts_of : At K mg "parts_of" (topS 35) := mkAt (sx_def c 16) (He.glo_ok X G (sx_fact c 16))
  have a_tables_of : At K mg "tables_of" (topS 37) := mkAt (sx_def c 17) (He.glo_ok X G (sx_fact c 17))
  have a_is_table : At K mg "is_table" (topS 39) := mkAt (sx_def c 18) (He.glo_ok X G (sx_fact c 18))
  have a_counts_of : At K mg "counts_of" (topS 42) := mkAt (sx_def c 19) (He.glo_ok X G (sx_fact c 19))
  have a_need_of : At K mg "need_of" (topS 45) := mkAt (sx_def c 20) (He.glo_ok X G (sx_fact c 20))
  have a_step_of : At K mg "step_of" (topS 46) := mkAt (sx_def c 21) (He.glo_ok X G (sx_fact c 21))
  have a_needs_at : At K mg "needs_at" (topS 47) := mkAt (sx_def c 22) (He.glo_ok X G (sx_fact c 22))
  have a_given_to : At K mg "given_to" (topS 49) := mkAt (sx_def c 23) (He.glo_ok X G (sx_fact c 23))
  have a_is_bloc : At K mg "is_bloc" (topS 51) := mkAt (sx_def c 24) (He.glo_ok X G (sx_fact c 24))
  have a_seats_in : At K mg "seats_in" (topS 52) := mkAt (sx_def c 25) (He.glo_ok X G (sx_fact c 25))
  have a_night_of : At K mg "night_of" (topS 54) := mkAt (sx_def c 26) (He.glo_ok X G (sx_fact c 26))
  have a_last_price : At K mg "last_price" (topS 61) := mkAt (sx_def c 27) (He.glo_ok X G (sx_fact c 27))
  have a_lacks_at : At K mg "lacks_at" (topS 62) := mkAt (sx_def c 28) (He.glo_ok X G (sx_fact c 28))
  have a_do_bar : At K mg "do_bar" (topS 63) := mkAt (sx_def c 29) (He.glo_ok X G (sx_fact c 29))
  have a_accepts_bloc : At K mg "accepts_bloc" (topS 65) := mkAt (sx_def c 30) (He.glo_ok X G (sx_fact c 30))
  have a_accepts : At K mg "accepts" (topS 69) := mkAt (sx_def c 31) (He.glo_ok X G (sx_fact c 31))
  have a__law_urn : At K mg "_law_urn" (topS 71) := mkAt (sx_def c 32) (He.glo_ok X G (sx_fact c 32))
  have a__law_pull : At K mg "_law_pull" (topS 72) := mkAt (sx_def c 33) (He.glo_ok X G (sx_fact c 33))
  have a__law_pick : At K mg "_law_pick" (topS 73) := mkAt (sx_def c 34) (He.glo_ok X G (sx_fact c 34))
  have a__law_called : At K mg "_law_called" (topS 74) := mkAt (sx_def c 35) (He.glo_ok X G (sx_fact c 35))
  have a__law_parts : At K mg "_law_parts" (topS 75) := mkAt (sx_def c 36) (He.glo_ok X G (sx_fact c 36))
  have a__law_sheet : At K mg "_law_sheet" (topS 76) := mkAt (sx_def c 37) (He.glo_ok X G (sx_fact c 37))
  have a__law_splits : At K mg "_law_splits" (topS 77) := mkAt (sx_def c 38) (He.glo_ok X G (sx_fact c 38))
  have a__law_held : At K mg "_law_held" (topS 78) := mkAt (sx_def c 39) (He.glo_ok X G (sx_fact c 39))
  have a__law_gang : At K mg "_law_gang" (topS 79) := mkAt (sx_def c 40) (He.glo_ok X G (sx_fact c 40))
  have a__law_whole : At K mg "_law_whole" (topS 80) := mkAt (sx_def c 41) (He.glo_ok X G (sx_fact c 41))
  have a__law_lowest : At K mg "_law_lowest" (topS 81) := mkAt (sx_def c 42) (He.glo_ok X G (sx_fact c 42))
  have a__law_is_gang : At K mg "_law_is_gang" (topS 82) := mkAt (sx_def c 43) (He.glo_ok X G (sx_fact c 43))
  have a__law_is_split : At K mg "_law_is_split" (topS 83) := mkAt (sx_def c 44) (He.glo_ok X G (sx_fact c 44))
  have a__law_need : At K mg "_law_need" (topS 84) := mkAt (sx_def c 45) (He.glo_ok X G (sx_fact c 45))
  have a__law_forced : At K mg "_law_forced" (topS 85) := mkAt (sx_def c 46) (He.glo_ok X G (sx_fact c 46))
  have a__law_climb : At K mg "_law_climb" (topS 86) := mkAt (sx_def c 47) (He.glo_ok X G (sx_fact c 47))
  have a__law_lacks : At K mg "_law_lacks" (topS 87) := mkAt (sx_def c 48) (He.glo_ok X G (sx_fact c 48))
  have a__law_given : At K mg "_law_given" (topS 88) := mkAt (sx_def c 49) (He.glo_ok X G (sx_fact c 49))
  have a__law_group : At K mg "_law_group" (topS 89) := mkAt (sx_def c 50) (He.glo_ok X G (sx_fact c 50))
  have a__law_top : At K mg "_law_top" (topS 90) := mkAt (sx_def c 51) (He.glo_ok X G (sx_fact c 51))
  have a__law_bar_due : At K mg "_law_bar_due" (topS 91) := mkAt (sx_def c 52) (He.glo_ok X G (sx_fact c 52))
  have a__law_spare : At K mg "_law_spare" (topS 92) := mkAt (sx_def c 53) (He.glo_ok X G (sx_fact c 53))
  have a__law_bent : At K mg "_law_bent" (topS 93) := mkAt (sx_def c 54) (He.glo_ok X G (sx_fact c 54))
  have a__law_judged : At K mg "_law_judged" (topS 94) := mkAt (sx_def c 55) (He.glo_ok X G (sx_fact c 55))
  have a__law_bloc_due : At K mg "_law_bloc_due" (topS 95) := mkAt (sx_def c 56) (He.glo_ok X G (sx_fact c 56))
  have a__law_bars : At K mg "_law_bars" (topS 96) := mkAt (sx_def c 57) (He.glo_ok X G (sx_fact c 57))
  have a__law_right : At K mg "_law_right" (topS 97) := mkAt (sx_def c 58) (He.glo_ok X G (sx_fact c 58))
  have a_law : At K mg "law" (topS 98) := mkAt (sx_def c 59) (He.glo_ok X G (sx_fact c 59))
  have B : Bt mg := ⟨He.free_ok X G (sx_fact c 65), He.free_ok X G (sx_fact c 66), He.free_ok X G (sx_fact c 67), He.free_ok X G (sx_fact c 68), He.free_ok X G (sx_fact c 69), He.free_ok X G (sx_fact c 70), He.free_ok X G (sx_fact c 71), He.free_ok X G (sx_fact c 72), He.free_ok X G (sx_fact c 73), He.free_ok X G (sx_fact c 74), He.free_ok X G (sx_fact c 75), He.free_ok X G (sx_fact c 76), He.free_ok X G (sx_fact c 77), He.free_ok X G (sx_fact c 78), He.free_ok X G (sx_fact c 79), He.free_ok X G (sx_fact c 80), He.free_ok X G (sx_fact c 81), He.free_ok X G (sx_fact c 82), He.free_ok X G (sx_fact c 83)⟩
  obtain ⟨z1, z⟩ := He.ba (sx_all c).2.2
  obtain ⟨z2, z⟩ := He.ba z
  obtain ⟨z3, z⟩ := He.ba z
  obtain ⟨z4, z⟩ := He.ba z
  obtain ⟨z5, z⟩ := He.ba z
  obtain ⟨z6, z⟩ := He.ba z
  obtain ⟨z7, z⟩ := He.ba z
  obtain ⟨z8, z⟩ := He.ba z
  obtain ⟨z9, z⟩ := He.ba z
  have g : Gv K mg := ⟨He.int_ok X G (sx_fact c 84), He.int_ok X G (sx_fact c 85), He.int_ok X G (sx_fact c 86), He.int_ok X G (sx_fact c 87), He.int_ok X G (sx_fact c 88), He.int_ok X G (sx_fact c 89), He.int_ok X G (sx_fact c 90), He.str_ok X G (sx_fact c 91), He.str_ok X G (sx_fact c 92), ⟨_, He.glo_ok X G (sx_fact c 64), fun H => He.tupB_ok z1 H⟩⟩
  have N : Nc K (nC K) := ⟨He.cls_ok (sx_fact c 93), He.noat_ok (sx_fact c 94), He.noat_ok (sx_fact c 95), He.noat_ok (sx_fact c 96)⟩
  have av : Av mg := ⟨⟨_, He.glo_ok X G (sx_fact c 61)⟩, ⟨_, He.glo_ok X G (sx_fact c 62)⟩, ⟨_, He.glo_ok X G (sx_fact c 63)⟩⟩
  have k_is_whole : T_is_whole ⟨P, w, K, mg, base, nC K⟩ := w_is_whole (S := ⟨P, w, K, mg, base, nC K⟩) a_is_whole B g
  have k_is_integer : T_is_integer ⟨P, w, K, mg, base, nC K⟩ := w_is_integer (S := ⟨P, w, K, mg, base, nC K⟩) a_is_integer B g k_is_whole
  have k_is_tuple_of : T_is_tuple_of ⟨P, w, K, mg, base, nC K⟩ := w_is_tuple_of (S := ⟨P, w, K, mg, base, nC K⟩) a_is_tuple_of B g
  have k_written : T_written ⟨P, w, K, mg, base, nC K⟩ := w_written (S := ⟨P, w, K, mg, base, nC K⟩) a_written B g
  have k_common : T_common ⟨P, w, K, mg, base, nC K⟩ := w_common (S := ⟨P, w, K, mg, base, nC K⟩) a_common B g
  have k_lowest : T_lowest ⟨P, w, K, mg, base, nC K⟩ := w_lowest (S := ⟨P, w, K, mg, base, nC K⟩) a_lowest B g k_common
  have k_times : T_times ⟨P, w, K, mg, base, nC K⟩ := w_times (S := ⟨P, w, K, mg, base, nC K⟩) a_times B g k_lowest
  have k_is_above : T_is_above ⟨P, w, K, mg, base, nC K⟩ := w_is_above (S := ⟨P, w, K, mg, base, nC K⟩) a_is_above B g
  have k_is_fraction : T_is_fraction ⟨P, w, K, mg, base, nC K⟩ := w_is_fraction (S := ⟨P, w, K, mg, base, nC K⟩) a_is_fraction B g k_is_tuple_of k_is_whole k_common
  have k_is_name : T_is_name ⟨P, w, K, mg, base, nC K⟩ := w_is_name (S := ⟨P, w, K, mg, base, nC K⟩) a_is_name B g
  have k_are_divisors : T_are_divisors ⟨P, w, K, mg, base, nC K⟩ := w_are_divisors (S := ⟨P, w, K, mg, base, nC K⟩) a_are_divisors B g k_is_integer
  have k_check_divisors : T_check_divisors ⟨P, w, K, mg, base, nC K⟩ := w_check_divisors (S := ⟨P, w, K, mg, base, nC K⟩) a_check_divisors B g k_are_divisors
  have k_check_parties : T_check_parties ⟨P, w, K, mg, base, nC K⟩ := w_check_parties (S := ⟨P, w, K, mg, base, nC K⟩) a_check_parties B g k_is_tuple_of k_is_name k_is_integer
  have k_is_pile : T_is_pile ⟨P, w, K, mg, base, nC K⟩ := w_is_pile (S := ⟨P, w, K, mg, base, nC K⟩) a_is_pile B g k_is_tuple_of k_is_integer
  have k_check_piles : T_check_piles ⟨P, w, K, mg, base, nC K⟩ := w_check_piles (S := ⟨P, w, K, mg, base, nC K⟩) a_check_piles B g k_is_pile
  have k_words_of : T_words_of ⟨P, w, K, mg, base, nC K⟩ := w_words_of (S := ⟨P, w, K, mg, base, nC K⟩) a_words_of B g
  have k_parts_of : T_parts_of ⟨P, w, K, mg, base, nC K⟩ := w_parts_of (S := ⟨P, w, K, mg, base, nC K⟩) a_parts_of B g k_words_of k_written
  have k_need_of : T_need_of ⟨P, w, K, mg, base, nC K⟩ := w_need_of (S := ⟨P, w, K, mg, base, nC K⟩) a_need_of B g k_times
  have k_step_of : T_step_of ⟨P, w, K, mg, base, nC K⟩ := w_step_of (S := ⟨P, w, K, mg, base, nC K⟩) a_step_of B g k_times k_need_of k_is_above k_lowest
  obtain ⟨fd_divisors, F_divisors⟩ := sx_def c 62
  have k_divisors : P_divisors ⟨P, w, K, mg, base, nC K⟩ := w_divisors (S := ⟨P, w, K, mg, base, nC K⟩) (prB_ok z2) (He5.fun_of F_divisors) N
  obtain ⟨fd_parties, F_parties⟩ := sx_def c 63
  have k_parties : P_parties ⟨P, w, K, mg, base, nC K⟩ := w_parties (S := ⟨P, w, K, mg, base, nC K⟩) (prB_ok z3) (He5.fun_of F_parties) N
  obtain ⟨fd_piles, F_piles⟩ := sx_def c 64
  have k_piles : P_piles ⟨P, w, K, mg, base, nC K⟩ := w_piles (S := ⟨P, w, K, mg, base, nC K⟩) (prB_ok z4) (He5.fun_of F_piles) N
  obtain ⟨fd_names, F_names⟩ := sx_def c 65
  have n_names : N_names ⟨P, w, K, mg, base, nC K⟩ := w_names (S := ⟨P, w, K, mg, base, nC K⟩) (prB_ok z5) (He5.fun_of F_names) N B
  have k_names : P_names ⟨P, w, K, mg, base, nC K⟩ := n_names.pr
  obtain ⟨fd_seats, F_seats⟩ := sx_def c 66
  have k_seats : P_seats ⟨P, w, K, mg, base, nC K⟩ := w_seats (S := ⟨P, w, K, mg, base, nC K⟩) (prB_ok z6) (He5.fun_of F_seats) N B
  have k_counts_of : T_counts_of ⟨P, w, K, mg, base, nC K⟩ := w_counts_of (S := ⟨P, w, K, mg, base, nC K⟩) a_counts_of B g N k_parties
  have k_needs_at : T_needs_at ⟨P, w, K, mg, base, nC K⟩ := w_needs_at (S := ⟨P, w, K, mg, base, nC K⟩) a_needs_at B g N k_parties k_divisors k_need_of
  have k_lacks_at : T_lacks_at ⟨P, w, K, mg, base, nC K⟩ := w_lacks_at (S := ⟨P, w, K, mg, base, nC K⟩) a_lacks_at B g k_needs_at k_counts_of
  have k_given_to : T_given_to ⟨P, w, K, mg, base, nC K⟩ := w_given_to (S := ⟨P, w, K, mg, base, nC K⟩) a_given_to B g N k_parties k_piles
  have k_seats_in : T_seats_in ⟨P, w, K, mg, base, nC K⟩ := w_seats_in (S := ⟨P, w, K, mg, base, nC K⟩) a_seats_in B g N k_names
  have k_is_bloc : T_is_bloc ⟨P, w, K, mg, base, nC K⟩ := w_is_bloc (S := ⟨P, w, K, mg, base, nC K⟩) a_is_bloc B g N k_names
  have k_is_table : T_is_table ⟨P, w, K, mg, base, nC K⟩ := w_is_table (S := ⟨P, w, K, mg, base, nC K⟩) a_is_table B g N k_parties k_divisors k_is_tuple_of k_is_whole
  have k_tables_of : T_tables_of ⟨P, w, K, mg, base, nC K⟩ := w_tables_ofN (S := ⟨P, w, K, mg, base, nC K⟩) a_tables_of B 3
  have k_last_price : T_last_price ⟨P, w, K, mg, base, nC K⟩ := w_last_price (S := ⟨P, w, K, mg, base, nC K⟩) a_last_price B g N n_names k_divisors k_parties k_is_tuple_of k_step_of k_is_fraction
  have k_do_bar : T_do_bar ⟨P, w, K, mg, base, nC K⟩ := w_do_bar (S := ⟨P, w, K, mg, base, nC K⟩) a_do_bar B g N k_names k_is_tuple_of k_is_bloc k_last_price k_lacks_at k_given_to
  obtain ⟨fd_tables, F_tables⟩ := sx_def c 67
  have k_tables : M_tables ⟨P, w, K, mg, base, nC K⟩ := w_tables (S := ⟨P, w, K, mg, base, nC K⟩) (He.meth_ok (sx_fact c 97)) (He5.fun_of F_tables) N B k_tables_of
  have k_accepts_bloc : T_accepts_bloc ⟨P, w, K, mg, base, nC K⟩ := w_accepts_bloc (S := ⟨P, w, K, mg, base, nC K⟩) a_accepts_bloc B g N k_seats k_tables k_is_tuple_of k_is_bloc k_is_integer k_seats_in k_is_table k_do_bar
  obtain ⟨fd_init, F_init⟩ := sx_def c 60
  have r_init := w_init (S := ⟨P, w, K, mg, base, nC K⟩) F_init N B k_check_divisors k_check_parties k_check_piles
  obtain ⟨fd_read, F_read⟩ := sx_def c 61
  have r_read := w_read (S := ⟨P, w, K, mg, base, nC K⟩) (He5.fun_of F_read) (He.mkr_ok (sx_fact c 98)) r_init B k_parts_of
  obtain ⟨y1, y2⟩ := He5.wrapB_ok z9
  have rdn : RdN ⟨P, w, K, mg, base, nC K⟩ 7 := ⟨.type "type", _, _, ⟨z7, He.eqO_ok z8⟩, ⟨y1, y2, z⟩, r_read, He.glo_ok X G (sx_fact c 60)⟩
  have k_night_of : T_night_of ⟨P, w, K, mg, base, nC K⟩ := w_night_of a_night_of rdn
  have k_accepts : T_accepts ⟨P, w, K, mg, base, nC K⟩ := w_accepts (S := ⟨P, w, K, mg, base, nC K⟩) a_accepts B av k_night_of k_accepts_bloc
  have k__law_whole : T__law_whole ⟨P, w, K, mg, base, nC K⟩ := w__law_whole (S := ⟨P, w, K, mg, base, nC K⟩) a__law_whole B g
  have k__law_lowest : T__law_lowest ⟨P, w, K, mg, base, nC K⟩ := w__law_lowest (S := ⟨P, w, K, mg, base, nC K⟩) a__law_lowest B g
  have k__law_need : T__law_need ⟨P, w, K, mg, base, nC K⟩ := w__law_need (S := ⟨P, w, K, mg, base, nC K⟩) a__law_need B g
  have k__law_forced : T__law_forced ⟨P, w, K, mg, base, nC K⟩ := w__law_forced (S := ⟨P, w, K, mg, base, nC K⟩) a__law_forced B g k__law_need k__law_lowest
  have k__law_lacks : T__law_lacks ⟨P, w, K, mg, base, nC K⟩ := w__law_lacks (S := ⟨P, w, K, mg, base, nC K⟩) a__law_lacks B g k__law_need
  have k__law_held : T__law_held ⟨P, w, K, mg, base, nC K⟩ := w__law_held (S := ⟨P, w, K, mg, base, nC K⟩) a__law_held B g
  have k__law_given : T__law_given ⟨P, w, K, mg, base, nC K⟩ := w__law_given (S := ⟨P, w, K, mg, base, nC K⟩) a__law_given B g
  have k__law_is_split : T__law_is_split ⟨P, w, K, mg, base, nC K⟩ := w__law_is_split (S := ⟨P, w, K, mg, base, nC K⟩) a__law_is_split B g k__law_whole
  have k__law_splits : T__law_splits ⟨P, w, K, mg, base, nC K⟩ := w__law_splits (S := ⟨P, w, K, mg, base, nC K⟩) a__law_splits B g
  have k__law_is_gang : T__law_is_gang ⟨P, w, K, mg, base, nC K⟩ := w__law_is_gang (S := ⟨P, w, K, mg, base, nC K⟩) a__law_is_gang B g
  have k__law_judged : T__law_judged ⟨P, w, K, mg, base, nC K⟩ := w__law_judged (S := ⟨P, w, K, mg, base, nC K⟩) a__law_judged B k_accepts
  have k__law_top : T__law_top ⟨P, w, K, mg, base, nC K⟩ := w__law_top (S := ⟨P, w, K, mg, base, nC K⟩) a__law_top B g k__law_forced
  have k__law_bar_due : T__law_bar_due ⟨P, w, K, mg, base, nC K⟩ := w__law_bar_due (S := ⟨P, w, K, mg, base, nC K⟩) a__law_bar_due B g k__law_is_gang k__law_top k__law_lacks k__law_given
  have k__law_bloc_due : T__law_bloc_due ⟨P, w, K, mg, base, nC K⟩ := w__law_bloc_due (S := ⟨P, w, K, mg, base, nC K⟩) a__law_bloc_due B g k__law_is_gang k__law_whole k__law_splits k__law_held k__law_is_split k__law_bar_due
  have k__law_pull : T__law_pull ⟨P, w, K, mg, base, nC K⟩ := w__law_pull (S := ⟨P, w, K, mg, base, nC K⟩) a__law_pull B g
  have k__law_pick : T__law_pick ⟨P, w, K, mg, base, nC K⟩ := w__law_pick (S := ⟨P, w, K, mg, base, nC K⟩) a__law_pick B g k__law_pull
  have k__law_spare : T__law_spare ⟨P, w, K, mg, base, nC K⟩ := w__law_spare (S := ⟨P, w, K, mg, base, nC K⟩) a__law_spare B g k__law_pick
  have k__law_bent : ∀ k, T__law_bent ⟨P, w, K, mg, base, nC K⟩ k := w__law_bent (S := ⟨P, w, K, mg, base, nC K⟩) a__law_bent B g k__law_pull k__law_pick k__law_spare
  have k__law_called : T__law_called ⟨P, w, K, mg, base, nC K⟩ := w__law_called (S := ⟨P, w, K, mg, base, nC K⟩) a__law_called B g k__law_pull k__law_pick
  have k__law_parts : T__law_parts ⟨P, w, K, mg, base, nC K⟩ := w__law_parts (S := ⟨P, w, K, mg, base, nC K⟩) a__law_parts B g k__law_pull k__law_pick k__law_called
  have k__law_sheet : T__law_sheet ⟨P, w, K, mg, base, nC K⟩ := w__law_sheet (S := ⟨P, w, K, mg, base, nC K⟩) a__law_sheet B g
  have k__law_gang : T__law_gang ⟨P, w, K, mg, base, nC K⟩ := w__law_gang (S := ⟨P, w, K, mg, base, nC K⟩) a__law_gang B g k__law_pull k__law_pick
  have k__law_climb : T__law_climb ⟨P, w, K, mg, base, nC K⟩ := w__law_climb (S := ⟨P, w, K, mg, base, nC K⟩) a__law_climb B g k__law_forced
  have k__law_group : T__law_group ⟨P, w, K, mg, base, nC K⟩ := w__law_group (S := ⟨P, w, K, mg, base, nC K⟩) a__law_group B g k__law_given
  have k__law_bars : T__law_bars ⟨P, w, K, mg, base, nC K⟩ := w__law_bars (S := ⟨P, w, K, mg, base, nC K⟩) a__law_bars B g k__law_climb k__law_group k__law_lacks
  have k__law_right : T__law_right ⟨P, w, K, mg, base, nC K⟩ := w__law_right (S := ⟨P, w, K, mg, base, nC K⟩) a__law_right B g k__law_pull k__law_parts k__law_sheet k__law_gang k__law_splits k__law_held k__law_bars k__law_bloc_due k__law_judged k__law_bent
  have k__law_urn : T__law_urn ⟨P, w, K, mg, base, nC K⟩ := w__law_urn (S := ⟨P, w, K, mg, base, nC K⟩) a__law_urn B
  exact w_law (S := ⟨P, w, K, mg, base, nC K⟩) F B k__law_urn k__law_right
end W
/-! HZ: the law holds. -/
open PySem PySem.W PySem.Calls PyProof.Rows
theorem PySem.Challenge.cw_restballots_k51_whole_bloc_claims_judged_holds : PySem.Challenge.rw_restballots_k51_whole_bloc_claims_judged.Holds := by
  w_on; o_law
  refine HandSHeadRun.head_any (r := OpenLaw.row PySem.Challenge.rw_restballots_k51_whole_bloc_claims_judged) (q := view (OpenLaw.row PySem.Challenge.rw_restballots_k51_whole_bloc_claims_judged).prog [98]) (H := W.hkX) (ob := W.obX) (M := 6000) (loose := W.names) (d := HandSHeadRun.topDef (OpenLaw.row PySem.Challenge.rw_restballots_k51_whole_bloc_claims_judged).prog 98) (kwd := []) W.obX_eq
    (by kernel_rfl) (fun s => by kernel_rfl) W.hrun (by kernel_rfl) (by kernel_rfl) (by kernel_rfl) (by rfl) (by first | assumption | decide +kernel) (by decide +kernel) ⟨rfl, rfl, rfl, rfl, rfl, by decide +kernel⟩ ?hw ?hc
  case hw => w_witness2
  case hc =>
    refine Att.attach_call (l := PySem.Challenge.rw_restballots_k51_whole_bloc_claims_judged) (n := 63) rfl (by kernel_rfl) fun w s₀ s₁ mg mb fa o pm cd doc a vs ns G Y _ _ _ at_ obj isI few noGen => ?_
    obtain ⟨K, inK, c⟩ := Y
    have at2 : mg ("law" : PySem.Str) = some (.ref fa) := by
      have e : (HandSHeadRun.topDef (OpenLaw.row PySem.Challenge.rw_restballots_k51_whole_bloc_claims_judged).prog 98).name = ("law" : PySem.Str) := by kernel_rfl
      rw [← e]
      exact at_
    obtain ⟨fd, F⟩ := W.sx_def c 59
    have e := at2.symm.trans (He.glo_ok inK G.T.g (W.sx_fact c 59))
    cases e
    have b := L2.FunD.bindsA (ps := ["_law_script"]) F fun _ _ _ _ _ _ us hl => match us, hl with | [_], _ => rfl
    refine DL.run_law (k := 14) (sp := DL.spF K (W.nC K) (α := List Int) (fun q => [DL.scD q]) (fun q => q.length ≤ 63) (fun _ => .bool true)) inK G.T.g G.T.b G.T.builtins G.T.nolimit noGen obj isI (Nat.le_trans few (by decide)) ⟨rfl, by decide, by decide⟩ (fun base _ _ => W.all_law (P := (PySem.Challenge.rw_restballots_k51_whole_bloc_claims_judged).prog) (w := w) (base := base) inK G.T.g c (He5.fun_of F)) (fun s v => b s [v] rfl) fun H h => ?_
    refine ⟨[], ns, fun b m => (nomatch m), .cons (.scr h) .nil, few, fun v H' d _ hd r => ?_⟩
    subst hd
    cases r
    rfl
