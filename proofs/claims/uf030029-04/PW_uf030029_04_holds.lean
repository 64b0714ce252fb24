import PyProof.Rows.All
import PyProof.Cells
import PyProof.Comp
import PyProof.TupleOps
import PyProof.P3In
import PyProof.NeData
import PyProof.RaisesMany
import PyProof.StationsW
import PyProof.Rules3
import PyProof.TupleIter
import PyProof.PureInt
import PyProof.Rows.RuleB_floordiv
import PyProof.Rows.RuleB_mod
import PyProof.Rows.RuleB_pow
import PyProof.Rows.StrRules
import PyProof.Rows.ListMul
import PyProof.Rows.StrTemp
import PyProof.Rows.TupMore
import PyProof.SliceMore
import PyProof.ListIndexNeg
import PyProof.CallRoads
import PyProof.IsRules
import PyProof.Raises
import PyProof.Rows.ListMulArg
import PyProof.StrBlock2
import PyProof.Dict
import PyProof.CollectWalk
import PyProof.CallType
import PyProof.ForRange
import PyProof.IsiPairs
import PyProof.IsiHeapPairs
import PyProof.IsiNone
import PyProof.ListCopy
import PyProof.TupleOfSeq
import PyProof.Conv_int_bool
import PyProof.ForAny
import PyProof.RangeIter
import PyProof.RangeFor
import PyProof.EnumFor
import PyProof.EnumStmt
import PyProof.CompFree
import PyProof.CompUse
import PyProof.Rows.Chain
import OpenK.KCall
import OpenK.AllK
import Wide.All
import KE.KTryMore
import PyProof.ExcBaseAll.ValueError
import PyProof.ExcArgsOwn
import PyProof.ExcAttrAll.ValueError
import PyProof.Claim2Try
import PyProof.RulesAs
import PyProof.NsDelKeeps
import KE.IntBitsLaws
import Wide.FinOn
import PySem.Challenge.RW_uf030029_04
set_option Elab.async false

namespace Mine
open PySem

/-- plain values; lists by number, the script with its ints, exceptions by their class -/
inductive MV where
  | none
  | bool (b : Bool)
  | int (i : Int)
  | str (s : Str)
  | tup (xs : List MV)
  | lst (k : Nat)
  | exc (c : Str)
  | scr (ns : List Int)

abbrev MH := List (List MV)

/-- the class that a name of the module stands for -/
noncomputable def ClsAt (h₀ : Heap) (c : Str) (C : Addr) : Prop := ∃ m, h₀.Ns mainGlobals m ∧ m c = some (.ref C)

mutual
inductive Rel (h₀ : Heap) (ι : List Addr) (h : Heap) : MV → Value → Prop
  | none : Rel h₀ ι h .none .none
  | bool (b : Bool) : Rel h₀ ι h (.bool b) (.bool b)
  | int (i : Int) (t : Tok) : Rel h₀ ι h (.int i) (.int i t)
  | str (x : Str) (t : Tok) : Rel h₀ ι h (.str x) (.str x t)
  | tup {a : Addr} {vs : List Value} {n : Nat} {xs : List MV} : IsT h a vs.toArray n → RelAll h₀ ι h xs vs → Rel h₀ ι h (.tup xs) (.ref a)
  | lst {k : Nat} {a : Addr} : ι[k]? = some a → Rel h₀ ι h (.lst k) (.ref a)
  | exc {a C : Addr} {o : Obj} {vs : Array Value} {c : Str} : ClsAt h₀ c C → h₀.get? a = none → h.get? a = some o → o.cls = .ref C → o.dict = none → o.data = .fields vs → Rel h₀ ι h (.exc c) (.ref a)
  | scr {a : Addr} {vs : List Value} {n : Nat} {ns : List Int} : IsL h₀ a vs.toArray n → vs.length = ns.length → (∀ (i : Nat) (k : Int), ns[i]? = some k → ∃ t, vs[i]? = some (.int k t)) → Rel h₀ ι h (.scr ns) (.ref a)
inductive RelAll (h₀ : Heap) (ι : List Addr) (h : Heap) : List MV → List Value → Prop
  | nil : RelAll h₀ ι h [] []
  | cons {x : MV} {v : Value} {xs : List MV} {vs : List Value} : Rel h₀ ι h x v → RelAll h₀ ι h xs vs → RelAll h₀ ι h (x :: xs) (v :: vs)
end

/-- objects that a run of ours never changes once they stand -/
noncomputable def Frozen (o : Obj) : Prop := (o.cls = .type "tuple" ∧ ∃ vs n, o.data = .seq vs n) ∨ ∃ n : String, o.cls = .type n ∧ n ≠ "traceback" ∧ ∃ vs, o.data = .fields vs
theorem frozen_tuple (d : Option Addr) (vs : Array Value) (n : Nat) (sl : Array (Option Value)) : Frozen ⟨.type "tuple", d, .seq vs n, sl⟩ := .inl ⟨rfl, _, _, rfl⟩
/-- an own exception's object -/
noncomputable def ExcLike (o : Obj) : Prop := (∃ C, o.cls = .ref C) ∧ ∃ vs, o.data = .fields vs
structure Keep (h h' : Heap) : Prop where
  fro : ∀ a o, h.get? a = some o → Frozen o → h'.get? a = some o
  exc : ∀ a o, h.get? a = some o → ExcLike o → ∃ o', h'.get? a = some o' ∧ o'.cls = o.cls ∧ o'.dict = o.dict ∧ ∃ vs, o'.data = .fields vs
theorem Keep.refl (h : Heap) : Keep h h := ⟨fun _ _ e _ => e, fun _ o e x => ⟨o, e, rfl, rfl, x.2⟩⟩
theorem Keep.trans {h₁ h₂ h₃ : Heap} (x : Keep h₁ h₂) (y : Keep h₂ h₃) : Keep h₁ h₃ :=
  ⟨fun a o e f => y.fro a o (x.fro a o e f) f, fun a o e f => by
    obtain ⟨o', e', c', q', d'⟩ := x.exc a o e f
    obtain ⟨o₂, e₂, c₂, q₂, d₂⟩ := y.exc a o' e' ⟨by rw [c']; exact f.1, d'⟩
    exact ⟨o₂, e₂, c₂.trans c', q₂.trans q', d₂⟩⟩
theorem Keep.of_ext {h h' : Heap} (x : ∀ a o, h.get? a = some o → h'.get? a = some o) : Keep h h' :=
  ⟨fun a o e _ => x a o e, fun a o e f => ⟨o, x a o e, rfl, rfl, f.2⟩⟩
theorem Keep.push (h : Heap) (o : Obj) : Keep h (h.push o) := .of_ext fun _ _ e => Heap.get?_push_of_some o e
theorem Keep.but {h h' : Heap} {a : Addr} (hs : Heap.SameBut a h h') (hn : ∀ o, h.get? a = some o → ¬ Frozen o ∧ ¬ ExcLike o) : Keep h h' :=
  ⟨fun b o e f => by
    by_cases q : b = a
    · subst q; exact absurd f (hn o e).1
    · exact (hs.2 b q).trans e,
   fun b o e f => by
    by_cases q : b = a
    · subst q; exact absurd f (hn o e).2
    · exact ⟨o, (hs.2 b q).trans e, rfl, rfl, f.2⟩⟩
section
variable {h₀ h h' : Heap} {ι ι' : List Addr}
theorem Rel.gmono (L : ∀ (k : Nat) (a : Addr), ι[k]? = some a → ι'[k]? = some a) (T : ∀ a vs n, IsT h a vs n → IsT h' a vs n)
    (X : ∀ (a : Addr) (o : Obj) (C : Addr) (vs : Array Value), h.get? a = some o → o.cls = .ref C → o.dict = Option.none → o.data = .fields vs → ∃ o' vs', h'.get? a = some o' ∧ o'.cls = .ref C ∧ o'.dict = Option.none ∧ o'.data = .fields vs') {v : MV} {x : Value} (r : Rel h₀ ι h v x) : Rel h₀ ι' h' v x :=
  Rel.rec (motive_1 := fun v x _ => Rel h₀ ι' h' v x) (motive_2 := fun xs vs _ => RelAll h₀ ι' h' xs vs) .none (fun b => .bool b) (fun i t => .int i t) (fun x t => .str x t) (fun ht _ ih => .tup (T _ _ _ ht) ih) (fun hk => .lst (L _ _ hk))
    (fun k n e c q d => Exists.elim (X _ _ _ _ e c q d) fun _ h1 => Exists.elim h1 fun _ h2 => .exc k n h2.1 h2.2.1 h2.2.2.1 h2.2.2.2) (fun hl hn hi => .scr hl hn hi) .nil (fun _ _ a b => .cons a b) r
theorem RelAll.gmono (L : ∀ (k : Nat) (a : Addr), ι[k]? = some a → ι'[k]? = some a) (T : ∀ a vs n, IsT h a vs n → IsT h' a vs n)
    (X : ∀ (a : Addr) (o : Obj) (C : Addr) (vs : Array Value), h.get? a = some o → o.cls = .ref C → o.dict = Option.none → o.data = .fields vs → ∃ o' vs', h'.get? a = some o' ∧ o'.cls = .ref C ∧ o'.dict = Option.none ∧ o'.data = .fields vs') {xs : List MV} : ∀ {vs : List Value}, RelAll h₀ ι h xs vs → RelAll h₀ ι' h' xs vs := by
  induction xs with
  | nil => intro vs r; cases r; exact .nil
  | cons x xs ih =>
    intro vs r
    cases r with | cons a b => exact .cons (a.gmono L T X) (ih b)
theorem pre_get (P : ι <+: ι') (k : Nat) (a : Addr) (hk : ι[k]? = some a) : ι'[k]? = some a := by obtain ⟨t, rfl⟩ := P; rw [List.getElem?_append_left (List.getElem?_eq_some_iff.mp hk).1]; exact hk
theorem Keep.exc' (K : Keep h h') (a : Addr) (o : Obj) (C : Addr) (vs : Array Value) (e : h.get? a = some o) (c : o.cls = .ref C) (q : o.dict = Option.none) (d : o.data = .fields vs) : ∃ o' vs', h'.get? a = some o' ∧ o'.cls = .ref C ∧ o'.dict = Option.none ∧ o'.data = .fields vs' := by
  obtain ⟨_, e', c', q', _, d'⟩ := K.exc _ _ e ⟨⟨_, c⟩, _, d⟩
  exact ⟨_, _, e', c'.trans c, q'.trans q, d'⟩
theorem Rel.mono (P : ι <+: ι') (K : Keep h h') {v : MV} {x : Value} (r : Rel h₀ ι h v x) : Rel h₀ ι' h' v x := r.gmono (pre_get P) (fun _ _ _ ht => K.fro _ _ ht (frozen_tuple ..)) K.exc'
theorem RelAll.mono (P : ι <+: ι') (K : Keep h h') {xs : List MV} {vs : List Value} (r : RelAll h₀ ι h xs vs) : RelAll h₀ ι' h' xs vs := r.gmono (pre_get P) (fun _ _ _ ht => K.fro _ _ ht (frozen_tuple ..)) K.exc'
/-! what a value of ours stands for, read backwards -/
theorem Rel.none_inv {x : Value} (r : Rel h₀ ι h .none x) : x = .none := by cases r; rfl
theorem Rel.bool_inv {b : Bool} {x : Value} (r : Rel h₀ ι h (.bool b) x) : x = .bool b := by cases r; rfl
inductive IntAt (i : Int) : Value → Prop
  | mk (t : Tok) : IntAt i (.int i t)
inductive StrAt (i : Str) : Value → Prop
  | mk (t : Tok) : StrAt i (.str i t)
inductive TupAt (h₀ : Heap) (ι : List Addr) (h : Heap) (xs : List MV) : Value → Prop
  | mk (a : Addr) (vs : List Value) (n : Nat) (ht : IsT h a vs.toArray n) (r : RelAll h₀ ι h xs vs) : TupAt h₀ ι h xs (.ref a)
inductive RefAt (ι : List Addr) (k : Nat) : Value → Prop
  | mk (a : Addr) (hk : ι[k]? = some a) : RefAt ι k (.ref a)
inductive ScrAt (h₀ : Heap) (ns : List Int) : Value → Prop
  | mk (a : Addr) (vs : List Value) (n : Nat) (hl : IsL h₀ a vs.toArray n) (hn : vs.length = ns.length) (hi : ∀ (i : Nat) (k : Int), ns[i]? = some k → ∃ t, vs[i]? = some (.int k t)) : ScrAt h₀ ns (.ref a)
theorem Rel.int_inv {i : Int} {x : Value} (r : Rel h₀ ι h (.int i) x) : IntAt i x := by cases r; exact ⟨_⟩
theorem Rel.str_inv {i : Str} {x : Value} (r : Rel h₀ ι h (.str i) x) : StrAt i x := by cases r; exact ⟨_⟩
theorem Rel.tup_inv {xs : List MV} {x : Value} (r : Rel h₀ ι h (.tup xs) x) : TupAt h₀ ι h xs x := by
  cases r with | tup ht rt => exact ⟨_, _, _, ht, rt⟩
theorem Rel.lst_inv {k : Nat} {x : Value} (r : Rel h₀ ι h (.lst k) x) : RefAt ι k x := by
  cases r with | lst hk => exact ⟨_, hk⟩
theorem Rel.scr_inv {ns : List Int} {x : Value} (r : Rel h₀ ι h (.scr ns) x) : ScrAt h₀ ns x := by
  cases r with | scr h1 h2 h3 => exact ⟨_, _, _, h1, h2, h3⟩
theorem RelAll.one_inv {a : MV} {xs : List Value} (r : RelAll h₀ ι h [a] xs) : ∃ x, xs = [x] ∧ Rel h₀ ι h a x := by
  cases r with | cons r rs => cases rs; exact ⟨_, rfl, r⟩
theorem Rel.keep (K : Keep h h') {v : MV} {x : Value} (r : Rel h₀ ι h v x) : Rel h₀ ι h' v x := Rel.mono (List.prefix_refl _) K r
theorem RelAll.keep (K : Keep h h') {v : List MV} {x : List Value} (r : RelAll h₀ ι h v x) : RelAll h₀ ι h' v x := RelAll.mono (List.prefix_refl _) K r
theorem RelAll.nil_inv {vs : List Value} (r : RelAll h₀ ι h [] vs) : vs = [] := by cases r; rfl
theorem RelAll.cons_inv {x : MV} {xs : List MV} {vs : List Value} (r : RelAll h₀ ι h (x :: xs) vs) : ∃ v us, vs = v :: us ∧ Rel h₀ ι h x v ∧ RelAll h₀ ι h xs us := by
  cases r with | cons r rs => exact ⟨_, _, rfl, r, rs⟩
theorem RelAll.length {xs : List MV} : ∀ {vs : List Value}, RelAll h₀ ι h xs vs → vs.length = xs.length := by
  induction xs with
  | nil => intro vs r; rw [r.nil_inv]; rfl
  | cons x xs ih =>
    intro vs r
    obtain ⟨v, us, rfl, _, rs⟩ := r.cons_inv
    rw [List.length_cons, List.length_cons, ih rs]
theorem RelAll.append {xs ys : List MV} {vs ws : List Value} (r : RelAll h₀ ι h xs vs) (k : RelAll h₀ ι h ys ws) : RelAll h₀ ι h (xs ++ ys) (vs ++ ws) := by
  induction xs generalizing vs with
  | nil => rw [r.nil_inv]; exact k
  | cons x xs ih =>
    obtain ⟨v, us, rfl, r1, rs⟩ := r.cons_inv
    exact .cons r1 (ih rs)
theorem RelAll.one {x : MV} {v : Value} (r : Rel h₀ ι h x v) : RelAll h₀ ι h [x] [v] := .cons r .nil
theorem RelAll.get {xs : List MV} : ∀ {vs : List Value} (_ : RelAll h₀ ι h xs vs) {i : Nat} {x : MV}, xs[i]? = some x → ∃ v, vs[i]? = some v ∧ Rel h₀ ι h x v := by
  induction xs with
  | nil => intro vs r i x e; cases e
  | cons y xs ih =>
    intro vs r i x e
    obtain ⟨v, us, rfl, r1, rs⟩ := r.cons_inv
    cases i with
    | zero => cases e; exact ⟨v, rfl, r1⟩
    | succ i => exact ih rs (i := i) e
theorem RelAll.drop {xs : List MV} : ∀ {vs : List Value} (_ : RelAll h₀ ι h xs vs) (i : Nat), RelAll h₀ ι h (xs.drop i) (vs.drop i) := by
  induction xs with
  | nil => intro vs r i; rw [r.nil_inv, List.drop_nil, List.drop_nil]; exact .nil
  | cons y xs ih =>
    intro vs r i
    cases i with
    | zero => exact r
    | succ i =>
      obtain ⟨v, us, rfl, r1, rs⟩ := r.cons_inv
      exact ih rs i
theorem RelAll.take {xs : List MV} : ∀ {vs : List Value} (_ : RelAll h₀ ι h xs vs) (i : Nat), RelAll h₀ ι h (xs.take i) (vs.take i) := by
  induction xs with
  | nil => intro vs r i; rw [r.nil_inv, List.take_nil, List.take_nil]; exact .nil
  | cons y xs ih =>
    intro vs r i
    cases i with
    | zero => exact .nil
    | succ i =>
      obtain ⟨v, us, rfl, r1, rs⟩ := r.cons_inv
      exact .cons r1 (ih rs i)
theorem RelAll.set {xs : List MV} {vs : List Value} (r : RelAll h₀ ι h xs vs) (i : Nat) {y : MV} {u : Value} (q : Rel h₀ ι h y u) : RelAll h₀ ι h (xs.set i y) (vs.set i u) := by
  induction xs generalizing vs i with
  | nil => rw [r.nil_inv]; exact .nil
  | cons z xs ih =>
    obtain ⟨v, us, rfl, r1, rs⟩ := r.cons_inv
    cases i with
    | zero => exact .cons q rs
    | succ i => exact .cons r1 (ih rs i)
end

abbrev Rho := Nat → Option MV
noncomputable def Rho.set (ρ : Rho) (i : Nat) (v : MV) : Rho := fun j => if j = i then some v else ρ j

/-- a scope at work: a def's frame, or a comprehension's block -/
structure Sc where
  env : Env
  vars : List (Str × Nat)
  ρ : Rho
  fr : Bool

structure ScOk (h₀ : Heap) (f : Sc) (ι : List Addr) (h : Heap) : Prop where
  loc : ∃ m, h.Ns f.env.locals m ∧ ∀ x i v, (x, i) ∈ f.vars → f.env.kindOf x = some .local → f.ρ i = some v → ∃ cv, m x = some cv ∧ Rel h₀ ι h v cv
  cel : ∀ x i, (x, i) ∈ f.vars → f.env.kindOf x = some .cell → ∃ c ov, f.env.cells.lookup x = some c ∧ h.IsCell c ov ∧ ∀ v, f.ρ i = some v → ∃ cv, ov = some cv ∧ Rel h₀ ι h v cv
  all : ∀ c ∈ f.env.cells.map (·.2), ∃ ov, h.IsCell c ov

/-- where a list of ours lies -/
inductive LstAt (h₀ : Heap) (ι : List Addr) (h : Heap) (k : Nat) (xs : List MV) : Prop
  | mk (a : Addr) (vs : List Value) (n : Nat) (hk : ι[k]? = some a) (hl : IsL h a vs.toArray n) (r : RelAll h₀ ι h xs vs) : LstAt h₀ ι h k xs
structure HpOk (h₀ : Heap) (ι : List Addr) (μ : MH) (h : Heap) : Prop where
  base : h₀.StaysIn h
  len : ι.length = μ.length
  nd : ι.Nodup
  new : ∀ a ∈ ι, h₀.get? a = none
  at_ : ∀ (k : Nat) (xs : List MV), μ[k]? = some xs → LstAt h₀ ι h k xs

noncomputable def ApartSc (f g : Sc) : Prop := f.env.locals ≠ g.env.locals ∧ (f.fr = true → ∀ c ∈ f.env.cells.map (·.2), c ∉ g.env.cells.map (·.2))

structure Inv (h₀ : Heap) (fs : List Sc) (ι : List Addr) (μ : MH) (h : Heap) : Prop where
  hp : HpOk h₀ ι μ h
  sc : ∀ f ∈ fs, ScOk h₀ f ι h
  ap : fs.Pairwise ApartSc
  nw : ∀ f ∈ fs, h₀.get? f.env.locals = none ∧ ∀ c ∈ f.env.cells.map (·.2), h₀.get? c = none

section
variable {h₀ h h' : Heap} {ι ι' : List Addr} {μ : MH} {fs : List Sc} {f : Sc}

theorem ScOk.mono (P : ι <+: ι') (K : Keep h h') (hn : ∀ m, h.Ns f.env.locals m → h'.Ns f.env.locals m) (hc : ∀ c ov, c ∈ f.env.cells.map (·.2) → h.IsCell c ov → h'.IsCell c ov) (S : ScOk h₀ f ι h) : ScOk h₀ f ι' h' := by
  obtain ⟨m, h1, h2⟩ := S.loc
  refine ⟨⟨m, hn m h1, fun x i v hx hk hv => ?_⟩, fun x i hx hk => ?_, fun c hm => let ⟨ov, h⟩ := S.all c hm; ⟨ov, hc c ov hm h⟩⟩
  · obtain ⟨cv, e, r⟩ := h2 x i v hx hk hv
    exact ⟨cv, e, r.mono P K⟩
  · obtain ⟨c, ov, e, hcell, r⟩ := S.cel x i hx hk
    refine ⟨c, ov, e, hc c ov (List.mem_map.mpr ⟨_, mem_of_lookup e, rfl⟩) hcell, fun v hv => ?_⟩
    obtain ⟨cv, e', r'⟩ := r v hv
    exact ⟨cv, e', r'.mono P K⟩

/-- all that stood stands: the state is kept -/
theorem Inv.ext (I : Inv h₀ fs ι μ h) (x : ∀ a o, h.get? a = some o → h'.get? a = some o) : Inv h₀ fs ι μ h' := by
  have K := Keep.of_ext x
  refine ⟨⟨fun a o e => x a o (I.hp.base a o e), I.hp.len, I.hp.nd, I.hp.new, fun k xs hk => ?_⟩, fun g hg => ?_, I.ap, I.nw⟩
  · obtain ⟨a, vs, n, e1, e2, e3⟩ := I.hp.at_ k xs hk
    exact ⟨a, vs, n, e1, x _ _ e2, e3.keep K⟩
  · exact (I.sc g hg).mono (List.prefix_refl _) K (fun m hn => hn.keeps x) (fun c ov _ hc => hc.keeps x)
theorem Inv.push (I : Inv h₀ fs ι μ h) (o : Obj) : Inv h₀ fs ι μ (h.push o) := I.ext fun _ _ e => Heap.get?_push_of_some o e

theorem ns_ne_list {a b : Addr} {m : Str → Option Value} {vs : Array Value} {n : Nat} (hn : h.Ns a m) (hl : IsL h b vs n) : a ≠ b := by
  rintro rfl
  obtain ⟨o, es, ep, ho, hd, _⟩ := hn
  rw [hl] at ho; cases ho; cases hd
theorem cell_ne_list {a b : Addr} {v : Option Value} {vs : Array Value} {n : Nat} (hn : h.IsCell a v) (hl : IsL h b vs n) : a ≠ b := by
  rintro rfl
  obtain ⟨o, ho, hd⟩ := hn
  rw [hl] at ho; cases ho; cases hd
theorem cell_ne_ns {a b : Addr} {v : Option Value} {m : Str → Option Value} (hc : h.IsCell a v) (hn : h.Ns b m) : a ≠ b := by
  rintro rfl
  obtain ⟨o, es, ep, ho, hd, _⟩ := hn
  obtain ⟨o', ho', hd'⟩ := hc
  rw [ho] at ho'; cases ho'; rw [hd] at hd'; cases hd'
theorem not_frozen_list {vs : Array Value} {n : Nat} : ¬ Frozen { cls := .type "list", dict := none, data := .seq vs n, slots := #[] } ∧ ¬ ExcLike { cls := .type "list", dict := none, data := .seq vs n, slots := #[] } := by
  refine ⟨?_, ?_⟩
  · rintro (⟨e, _⟩ | ⟨n, e, _, vs, e'⟩)
    · injection e with e; exact absurd e (by decide)
    · cases e'
  · rintro ⟨⟨C, e⟩, _⟩; cases e

/-- a new list -/
theorem Inv.newList (I : Inv h₀ fs ι μ h) {xs : List MV} {vs : List Value} (r : RelAll h₀ ι h xs vs) :
    Inv h₀ fs (ι ++ [h.objs.size]) (μ ++ [xs]) (h.push { cls := .type "list", data := .seq vs.toArray }) := by
  have K := Keep.push h { cls := .type "list", data := .seq vs.toArray }
  have hfresh : h.objs.size ∉ ι := fun hm => by
    obtain ⟨k, hk, e⟩ := List.mem_iff_getElem.mp hm
    have hk' : k < μ.length := by rw [← I.hp.len]; exact hk
    obtain ⟨a, us, n, e1, e2, _⟩ := I.hp.at_ k (μ[k]'hk') (List.getElem?_eq_getElem hk')
    rw [List.getElem?_eq_getElem hk, e] at e1
    cases e1
    exact absurd (Heap.lt_size e2) (Nat.lt_irrefl _)
  refine ⟨⟨fun a o e => Heap.get?_push_of_some _ (I.hp.base a o e), by simp [I.hp.len], ?_, ?_, fun k ys hk => ?_⟩, fun g hg => ?_, I.ap, I.nw⟩
  · refine List.nodup_append.mpr ⟨I.hp.nd, List.nodup_cons.mpr ⟨by simp, List.nodup_nil⟩, fun a ha b hb => ?_⟩
    rw [List.mem_singleton.mp hb]; rintro rfl; exact hfresh ha
  · intro a ha
    rcases List.mem_append.mp ha with ha | ha
    · exact I.hp.new a ha
    · rw [List.mem_singleton.mp ha]; exact I.hp.base.fresh
  · by_cases hlt : k < μ.length
    · rw [List.getElem?_append_left hlt] at hk
      obtain ⟨a, us, n, e1, e2, e3⟩ := I.hp.at_ k ys hk
      refine ⟨a, us, n, ?_, e2.push _, e3.mono (List.prefix_append ..) K⟩
      rw [List.getElem?_append_left (by rw [I.hp.len]; exact hlt)]; exact e1
    · have hlt' : k = μ.length := by
        have := (List.getElem?_eq_some_iff.mp hk).1
        simp at this; omega
      subst hlt'
      simp at hk; subst hk
      refine ⟨h.objs.size, vs, 0, ?_, IsL.new h vs.toArray, r.mono (List.prefix_append ..) K⟩
      rw [← I.hp.len]; simp
  · exact (I.sc g hg).mono (List.prefix_append ..) K (fun m hn => hn.push _) fun c ov _ hc => hc.keeps fun _ _ e => Heap.get?_push_of_some _ e

/-- a list is changed -/
theorem Inv.setList (I : Inv h₀ fs ι μ h) {k : Nat} {a : Addr} {ys : List MV} {us us' : List Value} {n n' : Nat} (hk : ι[k]? = some a) (hl : IsL h a us.toArray n)
    (hl' : IsL h' a us'.toArray n') (hs : Heap.SameBut a h h') (r : RelAll h₀ ι h ys us') : Inv h₀ fs ι (μ.set k ys) h' ∧ Keep h h' := by
  have K : Keep h h' := Keep.but hs fun o e => by rw [hl] at e; cases e; exact not_frozen_list
  refine ⟨⟨⟨fun b o e => ?_, by simp [I.hp.len], I.hp.nd, I.hp.new, fun j xs hj => ?_⟩, fun g hg => ?_, I.ap, I.nw⟩, K⟩
  · have hne : b ≠ a := by
      rintro rfl
      rw [I.hp.new b (List.mem_of_getElem? hk)] at e; cases e
    exact (hs.2 b hne).trans (I.hp.base b o e)
  · by_cases hjk : j = k
    · subst hjk
      have hlt : j < μ.length := by
        have := (List.getElem?_eq_some_iff.mp hj).1
        simpa using this
      rw [List.getElem?_set_self hlt] at hj; cases hj
      exact ⟨a, us', n', hk, hl', r.keep K⟩
    · rw [List.getElem?_set_ne (Ne.symm hjk)] at hj
      obtain ⟨b, ws, m, e1, e2, e3⟩ := I.hp.at_ j xs hj
      refine ⟨b, ws, m, e1, ?_, e3.keep K⟩
      have hne : b ≠ a := by
        rintro rfl
        exact hjk ((List.getElem?_inj (List.getElem?_eq_some_iff.mp e1).1 I.hp.nd).mp (e1.trans hk.symm))
      exact (hs.2 b hne).trans e2
  · exact (I.sc g hg).mono (List.prefix_refl _) K (fun m hn => hn.sameBut hs (ns_ne_list hn hl)) fun c ov _ hc => hc.sameBut hs (cell_ne_list hc hl)

theorem not_frozen_dict {o : Obj} {es : Array DictEntry} {n : Nat} (hd : o.data = .dict es n) : ¬ Frozen o ∧ ¬ ExcLike o := by
  refine ⟨?_, ?_⟩
  · rintro (⟨_, vs, n, e⟩ | ⟨n, _, _, vs, e⟩) <;> (rw [hd] at e; cases e)
  · rintro ⟨_, vs, e⟩; rw [hd] at e; cases e
theorem not_frozen_cell {o : Obj} {v : Option Value} (hd : o.data = .cell v) : ¬ Frozen o ∧ ¬ ExcLike o := by
  refine ⟨?_, ?_⟩
  · rintro (⟨_, vs, n, e⟩ | ⟨n, _, _, vs, e⟩) <;> (rw [hd] at e; cases e)
  · rintro ⟨_, vs, e⟩; rw [hd] at e; cases e
theorem Heap.Ns.notFrozen {a : Addr} {m : Str → Option Value} (hn : h.Ns a m) : ∀ o, h.get? a = some o → ¬ Frozen o ∧ ¬ ExcLike o := fun o ho => by
  obtain ⟨o', es, ep, ho', hd, _⟩ := hn
  rw [ho'] at ho; cases ho
  exact not_frozen_dict hd
theorem Heap.IsCell.notFrozen {a : Addr} {v : Option Value} (hn : h.IsCell a v) : ∀ o, h.get? a = some o → ¬ Frozen o ∧ ¬ ExcLike o := fun o ho => by
  obtain ⟨o', ho', hd⟩ := hn
  rw [ho'] at ho; cases ho
  exact not_frozen_cell hd

/-- each name has a place of its own -/
noncomputable def VarsOk (vars : List (Str × Nat)) : Prop := ∀ x i y j, (x, i) ∈ vars → (y, j) ∈ vars → (x = y ↔ i = j)
noncomputable def Sc.put (f : Sc) (i : Nat) (v : MV) : Sc := { f with ρ := f.ρ.set i v }

/-- a local name is bound -/
theorem Inv.setLocal {rest : List Sc} {x : Str} {i : Nat} {v : MV} {cv : Value} {m : Str → Option Value} (I : Inv h₀ (f :: rest) ι μ h) (V : VarsOk f.vars) (hx : (x, i) ∈ f.vars) (hk : f.env.kindOf x = some .local)
    (hm : h.Ns f.env.locals m) (hm' : h'.Ns f.env.locals (fun y => if y = x then some cv else m y)) (hs : Heap.SameBut f.env.locals h h') (r : Rel h₀ ι h v cv) :
    Inv h₀ (f.put i v :: rest) ι μ h' ∧ Keep h h' := by
  have K : Keep h h' := Keep.but hs (Heap.Ns.notFrozen hm)
  have mu : ∀ m', h.Ns f.env.locals m' → m' = m := fun m' hn => by
    obtain ⟨o, es, ep, ho, hd, _, hf⟩ := hm
    obtain ⟨o', es', ep', ho', hd', _, hf'⟩ := hn
    rw [ho] at ho'; cases ho'; rw [hd] at hd'; cases hd'
    funext z; rw [← hf z, ← hf' z]
  refine ⟨⟨⟨fun b o e => ?_, I.hp.len, I.hp.nd, I.hp.new, fun k xs hk => ?_⟩, fun g hg => ?_, ?_, ?_⟩, K⟩
  · have hne : b ≠ f.env.locals := by
      rintro rfl
      rw [(I.nw f List.mem_cons_self).1] at e; cases e
    exact (hs.2 b hne).trans (I.hp.base b o e)
  · obtain ⟨a, vs, n, e1, e2, e3⟩ := I.hp.at_ k xs hk
    exact ⟨a, vs, n, e1, (hs.2 a (Ne.symm (ns_ne_list hm e2))).trans e2, e3.keep K⟩
  · rcases List.mem_cons.mp hg with rfl | hg
    · have S := I.sc f List.mem_cons_self
      refine ⟨⟨_, hm', fun y j u hy hky hu => ?_⟩, fun y j hy hky => ?_, fun c hcm => let ⟨ov, hc⟩ := S.all c hcm; ⟨ov, hc.sameBut hs (cell_ne_ns hc hm)⟩⟩
      · by_cases q : j = i
        · subst q
          have : y = x := (V y j x j hy hx).mpr rfl
          subst this
          simp only [Sc.put, Rho.set, if_true] at hu
          cases hu
          exact ⟨cv, by simp, r.keep K⟩
        · have hyx : y ≠ x := fun e => q ((V y j x i hy hx).mp e)
          simp only [Sc.put, Rho.set, q, if_false] at hu
          obtain ⟨m', hn, hl⟩ := S.loc
          obtain rfl := mu m' hn
          obtain ⟨cw, e, r'⟩ := hl y j u hy hky hu
          exact ⟨cw, by simp [hyx, e], r'.keep K⟩
      · obtain ⟨c, ov, e, hc, hr⟩ := S.cel y j hy hky
        refine ⟨c, ov, e, hc.sameBut hs (cell_ne_ns hc hm), fun u hu => ?_⟩
        have q : j ≠ i := fun q => by
          subst q
          have : y = x := (V y j x j hy hx).mpr rfl
          subst this
          have hky' : f.env.kindOf y = some .cell := hky
          rw [hk] at hky'; cases hky'
        simp only [Sc.put, Rho.set, q, if_false] at hu
        obtain ⟨cw, e', r'⟩ := hr u hu
        exact ⟨cw, e', r'.keep K⟩
    · refine (I.sc g (List.mem_cons_of_mem _ hg)).mono (List.prefix_refl _) K (fun m' hn => hn.sameBut hs ?_) fun c ov _ hc => hc.sameBut hs (cell_ne_ns hc hm)
      exact Ne.symm ((List.pairwise_cons.mp I.ap).1 g hg).1
  · exact List.pairwise_cons.mpr ⟨(List.pairwise_cons.mp I.ap).1, (List.pairwise_cons.mp I.ap).2⟩
  · intro g hg
    rcases List.mem_cons.mp hg with rfl | hg
    · exact I.nw f List.mem_cons_self
    · exact I.nw g (List.mem_cons_of_mem _ hg)

/-- a captured name is bound -/
theorem Inv.setCell {rest : List Sc} {x : Str} {i : Nat} {v : MV} {cv : Value} {c : Addr} {ov : Option Value} (I : Inv h₀ (f :: rest) ι μ h) (V : VarsOk f.vars) (hfr : f.fr = true) (hap : f.env.cells.Pairwise fun x y => x.2 ≠ y.2) (hx : (x, i) ∈ f.vars) (hk : f.env.kindOf x = some .cell)
    (hlk : f.env.cells.lookup x = some c) (hm : h.IsCell c ov) (hm' : h'.IsCell c (some cv)) (hs : Heap.SameBut c h h') (r : Rel h₀ ι h v cv) :
    Inv h₀ (f.put i v :: rest) ι μ h' ∧ Keep h h' := by
  have K : Keep h h' := Keep.but hs (Heap.IsCell.notFrozen hm)
  have hcm : c ∈ f.env.cells.map (·.2) := List.mem_map.mpr ⟨_, mem_of_lookup hlk, rfl⟩
  refine ⟨⟨⟨fun b o e => ?_, I.hp.len, I.hp.nd, I.hp.new, fun k xs hk => ?_⟩, fun g hg => ?_, ?_, ?_⟩, K⟩
  · have hne : b ≠ c := by
      rintro rfl
      rw [(I.nw f List.mem_cons_self).2 b hcm] at e; cases e
    exact (hs.2 b hne).trans (I.hp.base b o e)
  · obtain ⟨a, vs, n, e1, e2, e3⟩ := I.hp.at_ k xs hk
    exact ⟨a, vs, n, e1, (hs.2 a (Ne.symm (cell_ne_list hm e2))).trans e2, e3.keep K⟩
  · rcases List.mem_cons.mp hg with rfl | hg
    · have S := I.sc f List.mem_cons_self
      obtain ⟨m, hn, hl⟩ := S.loc
      refine ⟨⟨m, hn.sameBut hs (Ne.symm (cell_ne_ns hm hn)), fun y j u hy hky hu => ?_⟩, fun y j hy hky => ?_, fun c' hcm' => ?_⟩
      · have q : j ≠ i := fun q => by
          subst q
          have : y = x := (V y j x j hy hx).mpr rfl
          subst this
          have hky' : f.env.kindOf y = some .local := hky
          rw [hk] at hky'; cases hky'
        simp only [Sc.put, Rho.set, q, if_false] at hu
        obtain ⟨cw, e, r'⟩ := hl y j u hy hky hu
        exact ⟨cw, e, r'.keep K⟩
      · by_cases q : j = i
        · subst q
          have : y = x := (V y j x j hy hx).mpr rfl
          subst this
          refine ⟨c, some cv, hlk, hm', fun u hu => ?_⟩
          simp only [Sc.put, Rho.set, if_true] at hu
          cases hu
          exact ⟨cv, rfl, r.keep K⟩
        · obtain ⟨c', ov', e, hc, hr⟩ := S.cel y j hy hky
          have hyx : y ≠ x := fun e => q ((V y j x i hy hx).mp e)
          have hcc : c' ≠ c := fun e' => hyx (name_of_addr hap (mem_of_lookup e) (e' ▸ mem_of_lookup hlk))
          refine ⟨c', ov', e, hc.sameBut hs hcc, fun u hu => ?_⟩
          simp only [Sc.put, Rho.set, q, if_false] at hu
          obtain ⟨cw, e', r'⟩ := hr u hu
          exact ⟨cw, e', r'.keep K⟩
      · by_cases q : c' = c
        · exact ⟨_, q ▸ hm'⟩
        · obtain ⟨ov', hc'⟩ := S.all c' hcm'
          exact ⟨ov', hc'.sameBut hs q⟩
    · refine (I.sc g (List.mem_cons_of_mem _ hg)).mono (List.prefix_refl _) K (fun m' hn => hn.sameBut hs (Ne.symm (cell_ne_ns hm hn))) fun c' ov' hc' hc => hc.sameBut hs fun q => ?_
      subst q
      exact ((List.pairwise_cons.mp I.ap).1 g hg).2 hfr _ hcm hc'
  · exact List.pairwise_cons.mpr ⟨(List.pairwise_cons.mp I.ap).1, (List.pairwise_cons.mp I.ap).2⟩
  · intro g hg
    rcases List.mem_cons.mp hg with rfl | hg
    · exact I.nw f List.mem_cons_self
    · exact I.nw g (List.mem_cons_of_mem _ hg)
end
end Mine

set_option linter.unusedVariables false
namespace Mine
open PySem

inductive Out (α : Type) where
  | ok (a : α) (μ : MH)
  | exc (c : Str) (μ : MH)
  | stuck

noncomputable def Out.bind {α β : Type} : Out α → (α → MH → Out β) → Out β
  | .ok a μ, f => f a μ
  | .exc c μ, _ => .exc c μ
  | .stuck, _ => .stuck

@[simp] theorem Out.bind_ok {α β : Type} (a : α) (μ : MH) (f : α → MH → Out β) : (Out.ok a μ).bind f = f a μ := (rfl)
@[simp] theorem Out.bind_exc {α β : Type} (c : Str) (μ : MH) (f : α → MH → Out β) : (Out.exc c μ : Out α).bind f = .exc c μ := (rfl)
@[simp] theorem Out.bind_stuck {α β : Type} (f : α → MH → Out β) : (Out.stuck : Out α).bind f = .stuck := (rfl)

/-- the meaning of an expression -/
abbrev D := Rho → MH → Out MV
inductive Fl where
  | next
  | brk
  | ret (v : MV)
/-- the meaning of a block -/
abbrev DS := Rho → MH → Out (Fl × Rho)

structure Cx where
  prog : Program
  w : World
  h₀ : Heap
  mg : Str → Option Value
  mb : Str → Option Value

structure CxOk (C : Cx) : Prop where
  g : C.h₀.Ns mainGlobals C.mg
  b : C.h₀.Ns builtinsNs C.mb
  lim : C.h₀.NoLimit
  dig : ∃ mc, C.h₀.Ns cStatics mc ∧ mc "sys.int_max_str_digits" = none

structure Sg where
  names : List (Str × NameKind)
  vars : List (Str × Nat)
  fr : Bool

structure SgOk (sg : Sg) (f : Sc) : Prop where
  names : f.env.scope.names = sg.names
  kind : f.env.scope.kind = .function
  vars : f.vars = sg.vars
  fr : f.fr = sg.fr
  gl : f.env.globals = mainGlobals
  bl : f.env.builtins = builtinsNs
  cap : f.fr = true → f.env.cells.Pairwise fun x y => x.2 ≠ y.2

theorem SgOk.kindOf {sg : Sg} {f : Sc} (x : SgOk sg f) (n : Str) : f.env.kindOf n = sg.names.lookup n := by
  unfold Env.kindOf; rw [x.names]

noncomputable def topL : List Sc → Option Addr
  | [] => none
  | f :: r => if f.fr then some f.env.locals else topL r
noncomputable def StkOk : List Sc → Prop
  | [] => True
  | f :: r => f.env.frame = topL (f :: r) ∧ f.env.scope.kind = .function ∧ StkOk r

structure AOk (q : Bool) (n : Nat) (fs : List Sc) (A : Around) : Prop where
  frames : A.frames = some ((fs.filter (·.fr)).map (·.env))
  depth : A.depth + n < recursionLimit
  units : A.units + 20 * n + 60 < cLine
  hand : q = true → A.handled = none
  guards : A.guards = some []
  stk : StkOk fs
  top : fs = [] ∨ (topL fs).isSome = true

theorem AOk.mono {q q' : Bool} {n n' : Nat} {fs : List Sc} {A : Around} (x : AOk q n fs A) (hn : n' ≤ n) (hq : q' = true → q = true) : AOk q' n' fs A :=
  ⟨x.frames, by have := x.depth; omega, by have := x.units; omega, fun e => x.hand (hq e), x.guards, x.stk, x.top⟩

/-- the state went on -/
structure Go (C : Cx) (ι : List Addr) (s : Shared) (fs : List Sc) (ι₁ : List Addr) (μ₁ : MH) (s₁ : Shared) : Prop where
  sh : ∃ h tk, s₁ = { s with heap := h, toks := tk }
  pre : ι <+: ι₁
  inv : Inv C.h₀ fs ι₁ μ₁ s₁.heap
  keep : Keep s.heap s₁.heap

theorem Go.refl {C : Cx} {ι : List Addr} {s : Shared} {fs : List Sc} {μ : MH} (I : Inv C.h₀ fs ι μ s.heap) : Go C ι s fs ι μ s := ⟨⟨_, _, rfl⟩, List.prefix_refl _, I, .refl _⟩
theorem Go.trans {C : Cx} {ι ι₁ ι₂ : List Addr} {s s₁ s₂ : Shared} {fs fs' : List Sc} {μ₁ μ₂ : MH} (x : Go C ι s fs ι₁ μ₁ s₁) (y : Go C ι₁ s₁ fs' ι₂ μ₂ s₂) : Go C ι s fs' ι₂ μ₂ s₂ := by
  obtain ⟨h, tk, e⟩ := x.sh
  obtain ⟨h', tk', e'⟩ := y.sh
  exact ⟨⟨h', tk', by rw [e', e]⟩, x.pre.trans y.pre, y.inv, x.keep.trans y.keep⟩
theorem Go.toks {C : Cx} {ι ι₁ : List Addr} {s s₁ : Shared} {fs : List Sc} {μ₁ : MH} (x : Go C ι s fs ι₁ μ₁ s₁) (tk : Nat) : Go C ι s fs ι₁ μ₁ { s₁ with toks := tk } := by
  obtain ⟨h, tk', e⟩ := x.sh
  exact ⟨⟨h, tk, by rw [e]⟩, x.pre, x.inv, x.keep⟩

/-- the classes whose exceptions are never raised while another one is handled -/
noncomputable def plainC (c : Str) : Bool := !(c == Str.ofString "NoText")
/-- the fields of an exception's object -/
structure VsOk (c : Str) (vs : Array Value) : Prop where
  sz : 4 < vs.size
  cx : plainC c = true → vs[2]? = some .none
/-- an own exception on its way -/
structure Fly (C : Cx) (c : Str) (e : Value) (h : Heap) : Prop where
  it : ∃ a oe vs, e = .ref a ∧ C.h₀.get? a = none ∧ h.get? a = some oe ∧ (∃ k, ClsAt C.h₀ c k ∧ oe.cls = .ref k) ∧ oe.dict = none ∧ oe.data = .fields vs ∧ VsOk c vs ∧
    (vs[1]? = some .none ∨ ∃ T oT ts, vs[1]? = some (.ref T) ∧ C.h₀.get? T = none ∧ T ≠ a ∧ h.get? T = some oT ∧ oT.cls = .type "traceback" ∧ oT.data = .fields ts ∧ 3 < ts.size)

section
variable (C : Cx) (ι : List Addr) (s : Shared) (fs : List Sc)
inductive EPost (o : Out MV) (x : Value) (s₁ : Shared) : Prop
  | mk (v : MV) (μ₁ : MH) (ι₁ : List Addr) (e : o = .ok v μ₁) (g : Go C ι s fs ι₁ μ₁ s₁) (r : Rel C.h₀ ι₁ s₁.heap v x) : EPost o x s₁
inductive XPost {α : Type} (o : Out α) (e : Value) (s₁ : Shared) : Prop
  | mk (c : Str) (μ₁ : MH) (ι₁ : List Addr) (e1 : o = .exc c μ₁) (g : Go C ι s fs ι₁ μ₁ s₁) (f : Fly C c e s₁.heap) : XPost o e s₁
inductive TPost (o : Out MV) (b : Bool) (s₁ : Shared) : Prop
  | mk (μ₁ : MH) (ι₁ : List Addr) (e : o = .ok (.bool b) μ₁) (g : Go C ι s fs ι₁ μ₁ s₁) : TPost o b s₁
end

/-- the model's run of a tree does what the meaning says -/
noncomputable def ESound (C : Cx) (q : Bool) (n : Nat) (sg : Sg) (e : Expr) (f : D) : Prop :=
  ∀ (A : Around) (s : Shared) (sc : Sc) (rest : List Sc) (ι : List Addr) (μ : MH), SgOk sg sc → AOk q n (sc :: rest) A → Inv C.h₀ (sc :: rest) ι μ s.heap → f sc.ρ μ ≠ .stuck →
    wpAny (model C.prog C.w) A (eval e sc.env) (EPost C ι s (sc :: rest) (f sc.ρ μ)) (XPost C ι s (sc :: rest) (f sc.ρ μ)) s
/-- .. as a test (its value is a bool) -/
noncomputable def TSound (C : Cx) (q : Bool) (n : Nat) (sg : Sg) (e : Expr) (f : D) : Prop :=
  ∀ (A : Around) (s : Shared) (sc : Sc) (rest : List Sc) (ι : List Addr) (μ : MH), SgOk sg sc → AOk q n (sc :: rest) A → Inv C.h₀ (sc :: rest) ι μ s.heap → f sc.ρ μ ≠ .stuck → (∀ v μ', f sc.ρ μ = .ok v μ' → ∃ b, v = .bool b) →
    wpAny (model C.prog C.w) A (isTrue e sc.env (eval e sc.env)) (TPost C ι s (sc :: rest) (f sc.ρ μ)) (XPost C ι s (sc :: rest) (f sc.ρ μ)) s
/-- .. of several expressions in a row -/
abbrev DL := Rho → MH → Out (List MV)
inductive LPost (C : Cx) (ι : List Addr) (s : Shared) (fs : List Sc) (o : Out (List MV)) (xs : List Value) (s₁ : Shared) : Prop
  | mk (vs : List MV) (μ₁ : MH) (ι₁ : List Addr) (e : o = .ok vs μ₁) (g : Go C ι s fs ι₁ μ₁ s₁) (r : RelAll C.h₀ ι₁ s₁.heap vs xs) : LPost C ι s fs o xs s₁

section
variable {C : Cx} {ι ι₁ : List Addr} {s s₁ : Shared} {fs : List Sc} {μ₁ : MH}
theorem EPost.after {o : Out MV} {x : Value} {s₂ : Shared} (g : Go C ι s fs ι₁ μ₁ s₁) (p : EPost C ι₁ s₁ fs o x s₂) : EPost C ι s fs o x s₂ := by
  obtain ⟨v, μ₂, ι₂, e, g', r⟩ := p
  exact ⟨v, μ₂, ι₂, e, g.trans g', r⟩
theorem XPost.after {α : Type} {o : Out α} {x : Value} {s₂ : Shared} (g : Go C ι s fs ι₁ μ₁ s₁) (p : XPost C ι₁ s₁ fs o x s₂) : XPost C ι s fs o x s₂ := by
  obtain ⟨v, μ₂, ι₂, e, g', r⟩ := p
  exact ⟨v, μ₂, ι₂, e, g.trans g', r⟩
theorem TPost.after {o : Out MV} {x : Bool} {s₂ : Shared} (g : Go C ι s fs ι₁ μ₁ s₁) (p : TPost C ι₁ s₁ fs o x s₂) : TPost C ι s fs o x s₂ := by
  obtain ⟨μ₂, ι₂, e, g'⟩ := p
  exact ⟨μ₂, ι₂, e, g.trans g'⟩
theorem XPost.bind {α β : Type} {o : Out α} {f : α → MH → Out β} {x : Value} (p : XPost C ι s fs o x s₁) : XPost C ι s fs (o.bind f) x s₁ := by
  obtain ⟨c, μ₂, ι₂, e, g', r⟩ := p
  exact ⟨c, μ₂, ι₂, by rw [e]; rfl, g', r⟩
end

/-- an operation on two values at hand -/
noncomputable def Op2 (C : Cx) (q : Bool) (n : Nat) (t : Value → Value → Sem Value) (f : MV → MV → MH → Out MV) : Prop :=
  ∀ (A : Around) (s : Shared) (fs : List Sc) (ι : List Addr) (μ : MH) (a b : MV) (x y : Value), AOk q n fs A → Inv C.h₀ fs ι μ s.heap → Rel C.h₀ ι s.heap a x → Rel C.h₀ ι s.heap b y → f a b μ ≠ .stuck →
    wpAny (model C.prog C.w) A (t x y) (EPost C ι s fs (f a b μ)) (XPost C ι s fs (f a b μ)) s
noncomputable def Op1 (C : Cx) (q : Bool) (n : Nat) (t : Value → Sem Value) (f : MV → MH → Out MV) : Prop :=
  ∀ (A : Around) (s : Shared) (fs : List Sc) (ι : List Addr) (μ : MH) (a : MV) (x : Value), AOk q n fs A → Inv C.h₀ fs ι μ s.heap → Rel C.h₀ ι s.heap a x → f a μ ≠ .stuck →
    wpAny (model C.prog C.w) A (t x) (EPost C ι s fs (f a μ)) (XPost C ι s fs (f a μ)) s
noncomputable def OpL (C : Cx) (q : Bool) (n : Nat) (t : List Value → Sem Value) (f : List MV → MH → Out MV) : Prop :=
  ∀ (A : Around) (s : Shared) (fs : List Sc) (ι : List Addr) (μ : MH) (a : List MV) (x : List Value), AOk q n fs A → Inv C.h₀ fs ι μ s.heap → RelAll C.h₀ ι s.heap a x → f a μ ≠ .stuck →
    wpAny (model C.prog C.w) A (t x) (EPost C ι s fs (f a μ)) (XPost C ι s fs (f a μ)) s

section
variable {C : Cx} {q : Bool} {n : Nat} {sg : Sg}

theorem bind_ne {α β : Type} {o : Out α} {f : α → MH → Out β} (h : o.bind f ≠ .stuck) : o ≠ .stuck := by rintro rfl; exact h rfl

/-- first one tree, then with its value another -/
theorem then_ {β : Type} {A : Around} {s : Shared} {sc : Sc} {rest : List Sc} {ι : List Addr} {μ : MH} {e : Expr} {f : D} {g : MV → MH → Out β} {Q : Value → Shared → Prop}
    (he : ESound C q n sg e f) (hs : SgOk sg sc) (hA : AOk q n (sc :: rest) A) (hI : Inv C.h₀ (sc :: rest) ι μ s.heap) (hne : (f sc.ρ μ).bind g ≠ .stuck)
    (k : ∀ v μ₁ ι₁ x s₁, f sc.ρ μ = .ok v μ₁ → Go C ι s (sc :: rest) ι₁ μ₁ s₁ → Rel C.h₀ ι₁ s₁.heap v x → g v μ₁ ≠ .stuck → Q x s₁) :
    wpAny (model C.prog C.w) A (eval e sc.env) Q (XPost C ι s (sc :: rest) ((f sc.ρ μ).bind g)) s := by
  refine wpAny_mono (he A s sc rest ι μ hs hA hI (bind_ne hne)) (fun x s₁ p => ?_) fun x s₁ p => p.bind
  obtain ⟨v, μ₁, ι₁, e1, g1, r1⟩ := p
  refine k v μ₁ ι₁ x s₁ e1 g1 r1 fun e2 => hne ?_
  rw [e1]; exact e2

noncomputable def dConst (v : MV) : D := fun _ μ => .ok v μ
theorem snd_int (i : Int) (k : Nat) (pos : Pos) : ESound C q n sg (.Constant (.int i) k pos) (dConst (.int i)) := fun A s sc rest ι μ _ _ hI _ =>
  wpAny_Constant_int ⟨.int i, μ, ι, rfl, (Go.refl hI).toks _, .int i _⟩
end
end Mine

set_option linter.unusedVariables false
namespace Mine
open PySem

section
variable {C : Cx} {q : Bool} {n : Nat} {sg : Sg}

theorem snd_str (x : Str) (k : Nat) (pos : Pos) : ESound C q n sg (.Constant (.str x) k pos) (dConst (.str x)) := fun A s sc rest ι μ _ _ hI _ =>
  wpAny_Constant_str ⟨.str x, μ, ι, rfl, (Go.refl hI).toks _, .str x _⟩
theorem snd_bool (b : Bool) (k : Nat) (pos : Pos) : ESound C q n sg (.Constant (.bool b) k pos) (dConst (.bool b)) := fun A s sc rest ι μ _ _ hI _ =>
  wpAny_Constant_bool ⟨.bool b, μ, ι, rfl, Go.refl hI, .bool b⟩
theorem snd_none (k : Nat) (pos : Pos) : ESound C q n sg (.Constant .none k pos) (dConst .none) := fun A s sc rest ι μ _ _ hI _ =>
  wpAny_Constant_none ⟨.none, μ, ι, rfl, Go.refl hI, .none⟩

noncomputable def dVar (i : Nat) : D := fun ρ μ => match ρ i with | some v => .ok v μ | none => .stuck
theorem snd_var {x : Str} {i : Nat} {pos : Pos} (hx : (x, i) ∈ sg.vars) (hk : sg.names.lookup x = some .local ∨ sg.names.lookup x = some .cell) (hd : (x == ("__debug__" : Str)) = false) :
    ESound C q n sg (.Name x pos) (dVar i) := fun A s sc rest ι μ hs hA hI hne => by
  cases hv : sc.ρ i with
  | none => exact absurd (by unfold dVar; first | (rw [hv]; done) | (rw [hv]; rfl)) hne
  | some v =>
    have S := hI.sc sc List.mem_cons_self
    have hx' : (x, i) ∈ sc.vars := by rw [hs.vars]; exact hx
    refine wpAny_Name ?_ hd
    rcases hk with hk | hk
    · obtain ⟨m, hm, hl⟩ := S.loc
      obtain ⟨cv, e, r⟩ := hl x i v hx' ((hs.kindOf x).trans hk) hv
      exact wpAny_loadName_local hs.kind ((hs.kindOf x).trans hk) hm e ⟨v, μ, ι, by unfold dVar; first | (rw [hv]; done) | (rw [hv]; rfl), Go.refl hI, r⟩
    · obtain ⟨c, ov, e, hc, hr⟩ := S.cel x i hx' ((hs.kindOf x).trans hk)
      obtain ⟨cv, rfl, r⟩ := hr v hv
      exact wpAny_loadName_cell hs.kind ((hs.kindOf x).trans hk) e hc ⟨v, μ, ι, by unfold dVar; first | (rw [hv]; done) | (rw [hv]; rfl), Go.refl hI, r⟩

/-- a name of the module or of the builtins -/
theorem name_glob (CO : CxOk C) {x : Str} {pos : Pos} {cv : Value} {A : Around} {s : Shared} {sc : Sc} {rest : List Sc} {ι : List Addr} {μ : MH} {E : Value → Shared → Prop} {Q : Value → Shared → Prop}
    (hs : SgOk sg sc) (hI : Inv C.h₀ (sc :: rest) ι μ s.heap) (hk : sg.names.lookup x = some .globalImplicit) (hv : C.mg x = some cv ∨ (C.mg x = none ∧ C.mb x = some cv)) (hd : (x == ("__debug__" : Str)) = false) (h : Q cv s) :
    wpAny (model C.prog C.w) A (eval (.Name x pos) sc.env) Q E s := by
  refine Calls.Name_function_global hs.kind ((hs.kindOf x).trans hk) ?_ hd
  rcases hv with hv | ⟨h1, h2⟩
  · exact Calls.loadGlobal_global (by rw [hs.gl]; exact CO.g.keeps hI.hp.base) hv h
  · exact Calls.loadGlobal_builtin (by rw [hs.gl]; exact CO.g.keeps hI.hp.base) h1 (by rw [hs.bl]; exact CO.b.keeps hI.hp.base) h2 h

theorem snd_gint (CO : CxOk C) {x : Str} {pos : Pos} {i : Int} (hk : sg.names.lookup x = some .globalImplicit) (hv : ∃ t, C.mg x = some (.int i t)) (hd : (x == ("__debug__" : Str)) = false) :
    ESound C q n sg (.Name x pos) (dConst (.int i)) := fun A s sc rest ι μ hs hA hI hne => by
  obtain ⟨t, e⟩ := hv
  exact name_glob CO hs hI hk (.inl e) hd ⟨.int i, μ, ι, rfl, Go.refl hI, .int i t⟩
/-! two parts and an operation -/
noncomputable def dBin (g : MV → MV → MH → Out MV) (fl fr : D) : D := fun ρ μ => (fl ρ μ).bind fun a μ => (fr ρ μ).bind fun b μ => g a b μ

theorem two_ {l r : Expr} {fl fr : D} {g : MV → MV → MH → Out MV} {t : Value → Value → Sem Value} (hl : ESound C q n sg l fl) (hr : ESound C q n sg r fr) (ho : Op2 C q n t g)
    {A : Around} {s : Shared} {sc : Sc} {rest : List Sc} {ι : List Addr} {μ : MH} (hs : SgOk sg sc) (hA : AOk q n (sc :: rest) A) (hI : Inv C.h₀ (sc :: rest) ι μ s.heap) (hne : dBin g fl fr sc.ρ μ ≠ .stuck) :
    wpAny (model C.prog C.w) A (eval l sc.env) (fun a s₁ => wpAny (model C.prog C.w) A (eval r sc.env) (fun b s₂ => wpAny (model C.prog C.w) A (t a b) (EPost C ι s (sc :: rest) (dBin g fl fr sc.ρ μ)) (XPost C ι s (sc :: rest) (dBin g fl fr sc.ρ μ)) s₂)
      (XPost C ι s (sc :: rest) (dBin g fl fr sc.ρ μ)) s₁) (XPost C ι s (sc :: rest) (dBin g fl fr sc.ρ μ)) s := by
  refine then_ hl hs hA hI hne fun a μ₁ ι₁ x s₁ e1 g1 r1 hne1 => ?_
  have E1 : dBin g fl fr sc.ρ μ = (fr sc.ρ μ₁).bind fun b μ => g a b μ := by unfold dBin; first | (rw [e1]; done) | (rw [e1]; rfl)
  rw [E1]
  refine wpAny_mono (then_ hr hs hA g1.inv hne1 (Q := fun b s₂ => wpAny (model C.prog C.w) A (t x b) (EPost C ι s (sc :: rest) ((fr sc.ρ μ₁).bind fun b μ => g a b μ)) (XPost C ι s (sc :: rest) ((fr sc.ρ μ₁).bind fun b μ => g a b μ)) s₂) fun b μ₂ ι₂ y s₂ e2 g2 r2 hne2 => ?_) (fun _ _ p => p) fun e s₂ p => p.after g1
  have E2 : ((fr sc.ρ μ₁).bind fun b μ => g a b μ) = g a b μ₂ := by simp only [e2, Out.bind_ok]
  rw [E2]
  exact wpAny_mono (ho A s₂ (sc :: rest) ι₂ μ₂ a b x y hA g2.inv (r1.mono g2.pre g2.keep) r2 hne2) (fun z s₃ p => p.after (g1.trans g2)) fun z s₃ p => p.after (g1.trans g2)

theorem snd_bin {l r : Expr} {op : Operator} {pos : Pos} {fl fr : D} {g : MV → MV → MH → Out MV} (hl : ESound C q n sg l fl) (hr : ESound C q n sg r fr) (ho : Op2 C q n (binaryOp op) g) :
    ESound C q n sg (.BinOp l op r pos) (dBin g fl fr) := fun A s sc rest ι μ hs hA hI hne =>
  wpAny_BinOp (two_ hl hr ho hs hA hI hne)

theorem snd_cmp {l r : Expr} {op : CmpOp} {pos : Pos} {fl fr : D} {g : MV → MV → MH → Out MV} (hl : ESound C q n sg l fl) (hr : ESound C q n sg r fr) (ho : Op2 C q n (compareOp op) g) (hm : behindInMarks op r = false) :
    ESound C q n sg (.Compare l [op] [r] pos) (dBin g fl fr) := fun A s sc rest ι μ hs hA hI hne =>
  wpAny_Compare1 (two_ hl hr ho hs hA hI hne) hm

theorem truthy_post {C : Cx} {ι : List Addr} {s : Shared} {fs : List Sc} {o : Out MV} {A : Around} {E : Value → Shared → Prop} {x : Value} {s₁ : Shared} (p : EPost C ι s fs o x s₁) (hb : ∀ v μ', o = .ok v μ' → ∃ b, v = .bool b) :
    wpAny (model C.prog C.w) A (truthy x) (TPost C ι s fs o) E s₁ := by
  obtain ⟨v, μ₁, ι₁, e, g, r⟩ := p
  obtain ⟨b, rfl⟩ := hb v μ₁ e
  obtain rfl := r.bool_inv
  exact wpAny_truthy_bool ⟨μ₁, ι₁, e, g⟩

theorem tst_cmp {l r : Expr} {op : CmpOp} {pos : Pos} {fl fr : D} {g : MV → MV → MH → Out MV} (hl : ESound C q n sg l fl) (hr : ESound C q n sg r fr) (ho : Op2 C q n (compareOp op) g) (hm : behindInMarks op r = false) :
    TSound C q n sg (.Compare l [op] [r] pos) (dBin g fl fr) := fun A s sc rest ι μ hs hA hI hne hb => by
  refine wpAny_isTrue_Compare1 (wpAny_mono (two_ hl hr ho hs hA hI hne) (fun a s₁ h₁ => wpAny_mono h₁ (fun b s₂ h₂ => wpAny_mono h₂ (fun c s₃ p => ?_) fun _ _ p => p) fun _ _ p => p) fun _ _ p => p) hm
  exact truthy_post p hb

theorem tst_val {e : Expr} {f : D} (he : ESound C q n sg e f) (hi : ∀ env, isTrue e env (eval e env) = (do let v ← eval e env; standAt e.pos; holding [v] (truthy v))) : TSound C q n sg e f := fun A s sc rest ι μ hs hA hI hne hb => by
  refine wpAny_isTrue_value (wpAny_mono (he A s sc rest ι μ hs hA hI hne) (fun x s₁ p => truthy_post p hb) fun _ _ p => p) (hi _)

/-! not -/
noncomputable def dNot (f : D) : D := fun ρ μ => (f ρ μ).bind fun v μ => match v with | .bool b => .ok (.bool (!b)) μ | _ => .stuck
theorem snd_not {e : Expr} {pos : Pos} {f : D} (he : ESound C q n sg e f) : ESound C q n sg (.UnaryOp .Not e pos) (dNot f) := fun A s sc rest ι μ hs hA hI hne => by
  refine wpAny_UnaryOp (then_ he hs hA hI hne fun v μ₁ ι₁ x s₁ e1 g1 r1 hne1 => ?_)
  cases v with
  | bool b =>
    obtain rfl := r1.bool_inv
    exact not_value (wpAny_truthy_bool ⟨.bool (!b), μ₁, ι₁, by unfold dNot; first | (rw [e1]; done) | (rw [e1]; rfl), g1, .bool _⟩)
  | _ => exact absurd rfl hne1
theorem tst_not {e : Expr} {pos : Pos} {f : D} (he : TSound C q n sg e f) : TSound C q n sg (.UnaryOp .Not e pos) (dNot f) := fun A s sc rest ι μ hs hA hI hne hb => by
  have hne1 : f sc.ρ μ ≠ .stuck := bind_ne hne
  refine wpAny_isTrue_Not (wpAny_mono (he A s sc rest ι μ hs hA hI hne1 fun v μ' e => ?_) (fun b s₁ p => ?_) fun x s₁ p => p.bind)
  · cases v with
    | bool b => exact ⟨b, rfl⟩
    | _ => exact absurd (by unfold dNot; first | (rw [e]; done) | (rw [e]; rfl)) hne
  · obtain ⟨μ₁, ι₁, e1, g⟩ := p
    exact ⟨μ₁, ι₁, by unfold dNot; first | (rw [e1]; done) | (rw [e1]; rfl), g⟩

/-! and, or -/
noncomputable def dAnd (f g : D) : D := fun ρ μ => (f ρ μ).bind fun v μ => match v with | .bool true => g ρ μ | .bool false => .ok (.bool false) μ | _ => .stuck
noncomputable def dOr (f g : D) : D := fun ρ μ => (f ρ μ).bind fun v μ => match v with | .bool false => g ρ μ | .bool true => .ok (.bool true) μ | _ => .stuck
noncomputable def BSound (C : Cx) (q : Bool) (n : Nat) (sg : Sg) (op : BoolOp) (es : List Expr) (f : D) : Prop :=
  ∀ (A : Around) (s : Shared) (sc : Sc) (rest : List Sc) (ι : List Addr) (μ : MH) (pos : Pos), SgOk sg sc → AOk q n (sc :: rest) A → Inv C.h₀ (sc :: rest) ι μ s.heap → f sc.ρ μ ≠ .stuck →
    wpAny (model C.prog C.w) A (boolOp pos op (evalEach es sc.env)) (EPost C ι s (sc :: rest) (f sc.ρ μ)) (XPost C ι s (sc :: rest) (f sc.ρ μ)) s
noncomputable def BTSound (C : Cx) (q : Bool) (n : Nat) (sg : Sg) (op : BoolOp) (es : List Expr) (f : D) : Prop :=
  ∀ (A : Around) (s : Shared) (sc : Sc) (rest : List Sc) (ι : List Addr) (μ : MH), SgOk sg sc → AOk q n (sc :: rest) A → Inv C.h₀ (sc :: rest) ι μ s.heap → f sc.ρ μ ≠ .stuck → (∀ v μ', f sc.ρ μ = .ok v μ' → ∃ b, v = .bool b) →
    wpAny (model C.prog C.w) A (allTrue op es sc.env) (TPost C ι s (sc :: rest) (f sc.ρ μ)) (XPost C ι s (sc :: rest) (f sc.ρ μ)) s
theorem bs_one {op : BoolOp} {e : Expr} {f : D} (he : ESound C q n sg e f) : BSound C q n sg op [e] f := fun A s sc rest ι μ pos hs hA hI hne => he A s sc rest ι μ hs hA hI hne
theorem bs_and {e e' : Expr} {es : List Expr} {f g : D} (he : ESound C q n sg e f) (hg : BSound C q n sg .And (e' :: es) g) : BSound C q n sg .And (e :: e' :: es) (dAnd f g) := fun A s sc rest ι μ pos hs hA hI hne => by
  show wpAny _ A (eval e sc.env >>= fun v => standAt pos >>= fun _ => holding [v] (truthy v) >>= fun t => match BoolOp.And, t with | .And, false | .Or, true => pure v | _, _ => boolOp pos .And (evalEach (e' :: es) sc.env)) _ _ s
  refine wpAny_bind (then_ he hs hA hI hne fun v μ₁ ι₁ x s₁ e1 g1 r1 hne1 => wpAny_bind (wpAny_standAt (wpAny_bind (wpAny_holding ?_))))
  cases v with
  | bool b =>
    obtain rfl := r1.bool_inv
    refine wpAny_truthy_bool ?_
    cases b with
    | false => exact wpAny_pure ⟨.bool false, μ₁, ι₁, by unfold dAnd; first | (rw [e1]; done) | (rw [e1]; rfl), g1, .bool _⟩
    | true =>
      have E : dAnd f g sc.ρ μ = g sc.ρ μ₁ := by unfold dAnd; first | (rw [e1]; done) | (rw [e1]; rfl)
      show wpAny _ A (boolOp pos .And (evalEach (e' :: es) sc.env)) _ _ s₁
      rw [E]
      exact wpAny_mono (hg A s₁ sc rest ι₁ μ₁ pos hs hA g1.inv hne1) (fun _ _ p => p.after g1) fun _ _ p => p.after g1
  | _ => exact absurd rfl hne1
theorem bs_or {e e' : Expr} {es : List Expr} {f g : D} (he : ESound C q n sg e f) (hg : BSound C q n sg .Or (e' :: es) g) : BSound C q n sg .Or (e :: e' :: es) (dOr f g) := fun A s sc rest ι μ pos hs hA hI hne => by
  show wpAny _ A (eval e sc.env >>= fun v => standAt pos >>= fun _ => holding [v] (truthy v) >>= fun t => match BoolOp.Or, t with | .And, false | .Or, true => pure v | _, _ => boolOp pos .Or (evalEach (e' :: es) sc.env)) _ _ s
  refine wpAny_bind (then_ he hs hA hI hne fun v μ₁ ι₁ x s₁ e1 g1 r1 hne1 => wpAny_bind (wpAny_standAt (wpAny_bind (wpAny_holding ?_))))
  cases v with
  | bool b =>
    obtain rfl := r1.bool_inv
    refine wpAny_truthy_bool ?_
    cases b with
    | true => exact wpAny_pure ⟨.bool true, μ₁, ι₁, by unfold dOr; first | (rw [e1]; done) | (rw [e1]; rfl), g1, .bool _⟩
    | false =>
      have E : dOr f g sc.ρ μ = g sc.ρ μ₁ := by unfold dOr; first | (rw [e1]; done) | (rw [e1]; rfl)
      show wpAny _ A (boolOp pos .Or (evalEach (e' :: es) sc.env)) _ _ s₁
      rw [E]
      exact wpAny_mono (hg A s₁ sc rest ι₁ μ₁ pos hs hA g1.inv hne1) (fun _ _ p => p.after g1) fun _ _ p => p.after g1
  | _ => exact absurd rfl hne1
theorem snd_boolop {op : BoolOp} {es : List Expr} {pos : Pos} {f : D} (h : BSound C q n sg op es f) : ESound C q n sg (.BoolOp op es pos) f := fun A s sc rest ι μ hs hA hI hne => h A s sc rest ι μ pos hs hA hI hne

theorem bt_one {op : BoolOp} {e : Expr} {f : D} (he : TSound C q n sg e f) : BTSound C q n sg op [e] f := fun A s sc rest ι μ hs hA hI hne hb => by
  cases op with
  | And =>
    refine wpAny_allTrue_And_cons (wpAny_mono (he A s sc rest ι μ hs hA hI hne hb) (fun b s₁ p => ?_) fun _ _ p => p)
    cases b
    · exact p
    · exact wpAny_allTrue_And_nil p
  | Or =>
    refine wpAny_allTrue_Or_cons (wpAny_mono (he A s sc rest ι μ hs hA hI hne hb) (fun b s₁ p => ?_) fun _ _ p => p)
    cases b
    · exact wpAny_allTrue_Or_nil p
    · exact p
theorem bt_and {e e' : Expr} {es : List Expr} {f g : D} (he : TSound C q n sg e f) (hg : BTSound C q n sg .And (e' :: es) g) : BTSound C q n sg .And (e :: e' :: es) (dAnd f g) := fun A s sc rest ι μ hs hA hI hne hb => by
  have hne1 : f sc.ρ μ ≠ .stuck := bind_ne hne
  refine wpAny_allTrue_And_cons (wpAny_mono (he A s sc rest ι μ hs hA hI hne1 fun v μ' e => ?_) (fun b s₁ p => ?_) fun x s₁ p => p.bind)
  · cases v with
    | bool b => exact ⟨b, rfl⟩
    | _ => exact absurd (by unfold dAnd; first | (rw [e]; done) | (rw [e]; rfl)) hne
  · obtain ⟨μ₁, ι₁, e1, g1⟩ := p
    cases b with
    | false => exact ⟨μ₁, ι₁, by unfold dAnd; first | (rw [e1]; done) | (rw [e1]; rfl), g1⟩
    | true =>
      have E : dAnd f g sc.ρ μ = g sc.ρ μ₁ := by unfold dAnd; first | (rw [e1]; done) | (rw [e1]; rfl)
      rw [E] at hne hb ⊢
      exact wpAny_mono (hg A s₁ sc rest ι₁ μ₁ hs hA g1.inv hne hb) (fun _ _ p => p.after g1) fun _ _ p => p.after g1
theorem bt_or {e e' : Expr} {es : List Expr} {f g : D} (he : TSound C q n sg e f) (hg : BTSound C q n sg .Or (e' :: es) g) : BTSound C q n sg .Or (e :: e' :: es) (dOr f g) := fun A s sc rest ι μ hs hA hI hne hb => by
  have hne1 : f sc.ρ μ ≠ .stuck := bind_ne hne
  refine wpAny_allTrue_Or_cons (wpAny_mono (he A s sc rest ι μ hs hA hI hne1 fun v μ' e => ?_) (fun b s₁ p => ?_) fun x s₁ p => p.bind)
  · cases v with
    | bool b => exact ⟨b, rfl⟩
    | _ => exact absurd (by unfold dOr; first | (rw [e]; done) | (rw [e]; rfl)) hne
  · obtain ⟨μ₁, ι₁, e1, g1⟩ := p
    cases b with
    | true => exact ⟨μ₁, ι₁, by unfold dOr; first | (rw [e1]; done) | (rw [e1]; rfl), g1⟩
    | false =>
      have E : dOr f g sc.ρ μ = g sc.ρ μ₁ := by unfold dOr; first | (rw [e1]; done) | (rw [e1]; rfl)
      rw [E] at hne hb ⊢
      exact wpAny_mono (hg A s₁ sc rest ι₁ μ₁ hs hA g1.inv hne hb) (fun _ _ p => p.after g1) fun _ _ p => p.after g1
theorem tst_boolop {op : BoolOp} {es : List Expr} {pos : Pos} {f : D} (h : BTSound C q n sg op es f) : TSound C q n sg (.BoolOp op es pos) f := fun A s sc rest ι μ hs hA hI hne hb => wpAny_isTrue_BoolOp (h A s sc rest ι μ hs hA hI hne hb)

/-! a if t else b -/
noncomputable def dIf (t a b : D) : D := fun ρ μ => (t ρ μ).bind fun v μ => match v with | .bool true => a ρ μ | .bool false => b ρ μ | _ => .stuck
theorem snd_ifexp {t a b : Expr} {pos : Pos} {ft fa fb : D} (ht : TSound C q n sg t ft) (ha : ESound C q n sg a fa) (hb : ESound C q n sg b fb) : ESound C q n sg (.IfExp t a b pos) (dIf ft fa fb) := fun A s sc rest ι μ hs hA hI hne => by
  have hne1 : ft sc.ρ μ ≠ .stuck := bind_ne hne
  refine wpAny_IfExp (wpAny_mono (ht A s sc rest ι μ hs hA hI hne1 fun v μ' e => ?_) (fun c s₁ p => ?_) fun x s₁ p => p.bind)
  · cases v with
    | bool b => exact ⟨b, rfl⟩
    | _ => exact absurd (by unfold dIf; first | (rw [e]; done) | (rw [e]; rfl)) hne
  · obtain ⟨μ₁, ι₁, e1, g1⟩ := p
    cases c with
    | true =>
      have E : dIf ft fa fb sc.ρ μ = fa sc.ρ μ₁ := by unfold dIf; first | (rw [e1]; done) | (rw [e1]; rfl)
      rw [E] at hne ⊢
      exact wpAny_mono (ha A s₁ sc rest ι₁ μ₁ hs hA g1.inv hne) (fun _ _ p => p.after g1) fun _ _ p => p.after g1
    | false =>
      have E : dIf ft fa fb sc.ρ μ = fb sc.ρ μ₁ := by unfold dIf; first | (rw [e1]; done) | (rw [e1]; rfl)
      rw [E] at hne ⊢
      exact wpAny_mono (hb A s₁ sc rest ι₁ μ₁ hs hA g1.inv hne) (fun _ _ p => p.after g1) fun _ _ p => p.after g1

/-! several in a row -/
noncomputable def LSound (C : Cx) (q : Bool) (n : Nat) (sg : Sg) (es : List Expr) (f : DL) : Prop :=
  ∀ (A : Around) (s : Shared) (sc : Sc) (rest : List Sc) (ι : List Addr) (μ : MH), SgOk sg sc → AOk q n (sc :: rest) A → Inv C.h₀ (sc :: rest) ι μ s.heap → f sc.ρ μ ≠ .stuck →
    wpAny (model C.prog C.w) A (spliced (es.map fun e => (false, eval e sc.env))) (fun xs s₁ => xs.length = es.length ∧ LPost C ι s (sc :: rest) (f sc.ρ μ) xs s₁) (XPost C ι s (sc :: rest) (f sc.ρ μ)) s
noncomputable def dNil : DL := fun _ μ => .ok [] μ
noncomputable def dCons (f : D) (g : DL) : DL := fun ρ μ => (f ρ μ).bind fun v μ => (g ρ μ).bind fun vs μ => .ok (v :: vs) μ
theorem snds_nil : LSound C q n sg [] dNil := fun A s sc rest ι μ hs hA hI hne => Calls.spliced_nil ⟨rfl, [], μ, ι, rfl, Go.refl hI, .nil⟩
theorem snds_cons {e : Expr} {es : List Expr} {f : D} {g : DL} (he : ESound C q n sg e f) (hg : LSound C q n sg es g) : LSound C q n sg (e :: es) (dCons f g) := fun A s sc rest ι μ hs hA hI hne => by
  refine Calls.spliced_cons (then_ he hs hA hI hne fun v μ₁ ι₁ x s₁ e1 g1 r1 hne1 => ?_)
  have E1 : (f sc.ρ μ).bind (fun v μ => (g sc.ρ μ).bind fun vs μ => .ok (v :: vs) μ) = (g sc.ρ μ₁).bind fun vs μ => .ok (v :: vs) μ := by rw [e1]; rfl
  have E2 : dCons f g sc.ρ μ = (g sc.ρ μ₁).bind fun vs μ => .ok (v :: vs) μ := E1
  rw [E2]
  refine wpAny_mono (hg A s₁ sc rest ι₁ μ₁ hs hA g1.inv (bind_ne hne1)) (fun xs s₂ p => ?_) fun _ _ p => (p.bind).after g1
  obtain ⟨hlen, vs, μ₂, ι₂, e2, g2, r2⟩ := p
  refine ⟨by rw [List.length_cons, List.length_cons, hlen], v :: vs, μ₂, ι₂, by rw [e2]; rfl, g1.trans g2, .cons (r1.mono g2.pre g2.keep) r2⟩

/-- no starred item among them -/
noncomputable def NoStar (es : List Expr) : Prop := ∀ env, starEach es env = es.map fun e => (false, eval e env)
theorem backTo_plain {es : List Expr} (h : NoStar es) (pos : Pos) (env : Env) : backTo pos (starEach es env) = es.map fun e => (false, eval e env) := by
  rw [h env]
  unfold backTo
  rw [List.map_map]
  rfl

noncomputable def dTup (f : DL) : D := fun ρ μ => (f ρ μ).bind fun vs μ => .ok (.tup vs) μ
theorem snd_tuple {es : List Expr} {k : Nat} {pos : Pos} {f : DL} (h : LSound C q n sg es f) (hns : NoStar es) (hl : es.length ≤ sizeLine) : ESound C q n sg (.Tuple es k pos) (dTup f) := fun A s sc rest ι μ hs hA hI hne => by
  refine wpAny_Tuple ?_
  rw [backTo_plain hns]
  refine wpAny_mono (h A s sc rest ι μ hs hA hI (bind_ne hne)) (fun xs s₁ p => ?_) fun _ _ p => p.bind
  obtain ⟨hlen, vs, μ₁, ι₁, e1, g1, r1⟩ := p
  refine ⟨by rw [hlen]; exact hl, .tup vs, μ₁, ι₁, by unfold dTup; first | (rw [e1]; done) | (rw [e1]; rfl), ?_, .tup (IsT.new _ _) (r1.keep (Keep.push _ _))⟩
  obtain ⟨hh, tk, rfl⟩ := g1.sh
  exact ⟨⟨_, _, rfl⟩, g1.pre, g1.inv.push _, g1.keep.trans (Keep.push _ _)⟩

noncomputable def dList (f : DL) : D := fun ρ μ => (f ρ μ).bind fun vs μ => .ok (.lst μ.length) (μ ++ [vs])
theorem Go.list {ι ι₁ : List Addr} {s s₁ : Shared} {fs : List Sc} {μ₁ : MH} (g1 : Go C ι s fs ι₁ μ₁ s₁) {vs : List MV} {xs : List Value} (r : RelAll C.h₀ ι₁ s₁.heap vs xs) :
    Go C ι s fs (ι₁ ++ [s₁.heap.objs.size]) (μ₁ ++ [vs]) { s₁ with heap := s₁.heap.push { cls := .type "list", data := .seq xs.toArray } } ∧ Rel C.h₀ (ι₁ ++ [s₁.heap.objs.size]) (s₁.heap.push { cls := .type "list", data := .seq xs.toArray }) (.lst μ₁.length) (.ref s₁.heap.objs.size) := by
  obtain ⟨hh, tk, rfl⟩ := g1.sh
  refine ⟨⟨⟨_, _, rfl⟩, g1.pre.trans (List.prefix_append ..), g1.inv.newList r, g1.keep.trans (Keep.push _ _)⟩, .lst ?_⟩
  rw [← g1.inv.hp.len]
  simp
theorem snd_list {es : List Expr} {pos : Pos} {f : DL} (h : LSound C q n sg es f) (hns : NoStar es) (hl : es.length ≤ sizeLine) : ESound C q n sg (.List es pos) (dList f) := fun A s sc rest ι μ hs hA hI hne => by
  refine wpAny_List ?_
  rw [backTo_plain hns]
  refine wpAny_mono (h A s sc rest ι μ hs hA hI (bind_ne hne)) (fun xs s₁ p => ?_) fun _ _ p => p.bind
  obtain ⟨hlen, vs, μ₁, ι₁, e1, g1, r1⟩ := p
  obtain ⟨g2, r2⟩ := g1.list r1
  exact ⟨by rw [hlen]; exact hl, .lst μ₁.length, _, _, by unfold dList; first | (rw [e1]; done) | (rw [e1]; rfl), g2, r2⟩
end
end Mine

set_option linter.unusedVariables false
namespace Mine
open PySem

section
variable {C : Cx} {q : Bool} {n : Nat}

/-! + -/
noncomputable def addM : MV → MV → MH → Out MV
  | .int a, .int b, μ => .ok (.int (a + b)) μ
  | .str x, .str y, μ => if x.length + y.length ≤ sizeLine then .ok (.str (x ++ y)) μ else .stuck
  | .tup xs, .tup ys, μ => if xs.length + ys.length ≤ sizeLine then .ok (.tup (xs ++ ys)) μ else .stuck
  | .lst i, .lst j, μ => match μ[i]?, μ[j]? with
    | some xs, some ys => if xs.length + ys.length ≤ sizeLine then .ok (.lst μ.length) (μ ++ [xs ++ ys]) else .stuck
    | _, _ => .stuck
  | _, _, _ => .stuck

theorem addM_lst (i j : Nat) (μ : MH) : addM (.lst i) (.lst j) μ = (match μ[i]?, μ[j]? with | some xs, some ys => if xs.length + ys.length ≤ sizeLine then .ok (.lst μ.length) (μ ++ [xs ++ ys]) else .stuck | _, _ => .stuck) := (rfl)
theorem EPost.same {ι : List Addr} {s : Shared} {fs : List Sc} {μ : MH} {v : MV} {x : Value} {tk : Nat} (hI : Inv C.h₀ fs ι μ s.heap) (r : Rel C.h₀ ι s.heap v x) : EPost C ι s fs (.ok v μ) x { s with toks := tk } :=
  ⟨v, μ, ι, rfl, (Go.refl hI).toks _, r⟩
theorem EPost.here {ι : List Addr} {s : Shared} {fs : List Sc} {μ : MH} {v : MV} {x : Value} (hI : Inv C.h₀ fs ι μ s.heap) (r : Rel C.h₀ ι s.heap v x) : EPost C ι s fs (.ok v μ) x s :=
  ⟨v, μ, ι, rfl, Go.refl hI, r⟩
theorem EPost.tuple {ι : List Addr} {s : Shared} {fs : List Sc} {μ : MH} {xs : List MV} {vs : List Value} (hI : Inv C.h₀ fs ι μ s.heap) (r : RelAll C.h₀ ι s.heap xs vs) :
    EPost C ι s fs (.ok (.tup xs) μ) (.ref s.heap.objs.size) { s with heap := s.heap.push { cls := .type "tuple", data := .seq vs.toArray } } :=
  ⟨.tup xs, μ, ι, rfl, ⟨⟨_, _, rfl⟩, List.prefix_refl _, hI.push _, Keep.push _ _⟩, .tup (IsT.new _ _) (r.keep (Keep.push _ _))⟩
theorem EPost.list {ι : List Addr} {s : Shared} {fs : List Sc} {μ : MH} {xs : List MV} {vs : List Value} (hI : Inv C.h₀ fs ι μ s.heap) (r : RelAll C.h₀ ι s.heap xs vs) :
    EPost C ι s fs (.ok (.lst μ.length) (μ ++ [xs])) (.ref s.heap.objs.size) { s with heap := s.heap.push { cls := .type "list", data := .seq vs.toArray } } := by
  obtain ⟨g, r'⟩ := (Go.refl hI).list r
  exact ⟨.lst μ.length, _, _, rfl, g, r'⟩

theorem op_add : Op2 C q n (binaryOp .Add) addM := fun A s fs ι μ a b x y hA hI ra rb hne => by
  cases a with
  | int i => cases b with
    | int j =>
      obtain ⟨t⟩ := ra.int_inv
      obtain ⟨u⟩ := rb.int_inv
      exact P.add_int (EPost.same hI (.int _ _))
    | _ => exact absurd rfl hne
  | str i => cases b with
    | str j =>
      obtain ⟨t⟩ := ra.str_inv
      obtain ⟨u⟩ := rb.str_inv
      by_cases hl : i.length + j.length ≤ sizeLine
      · refine PyProof.Rows.add_str (fun t' tk => ?_) hl
        have : addM (.str i) (.str j) μ = .ok (.str (i ++ j)) μ := if_pos hl
        rw [this]
        exact EPost.same hI (.str _ _)
      · exact absurd (if_neg hl) hne
    | _ => exact absurd rfl hne
  | tup xs1 => cases b with
    | tup xs2 =>
      obtain ⟨a1, vs1, n1, ht, rt⟩ := ra.tup_inv
      obtain ⟨a2, vs2, n2, hu, ru⟩ := rb.tup_inv
      by_cases hl : xs1.length + xs2.length ≤ sizeLine
      · have e : addM (.tup xs1) (.tup xs2) μ = .ok (.tup (xs1 ++ xs2)) μ := if_pos hl
        rw [e]
        have l1 := rt.length
        have l2 := ru.length
        by_cases h1 : vs1.toArray.isEmpty = true
        · have hv : vs1 = [] := by simpa using h1
          subst hv
          cases rt
          refine concat_meets ⟨_, ht, rfl⟩ ⟨_, hu, rfl⟩ noFill_tuple_add seq_tuple_add F.slot_tuple_add F.entry_tuple_add (F.args_tuple_add_2 _ _) (AutoSeq1.tuple___add___tuple_tuple_0 a1 _ n1 a2 _ n2 h1) ⟨ht, hu, ?_⟩
          exact EPost.here hI (.tup hu ru)
        · by_cases h2 : vs2.toArray.isEmpty = true
          · have hv : vs2 = [] := by simpa using h2
            subst hv
            cases ru
            refine concat_meets ⟨_, ht, rfl⟩ ⟨_, hu, rfl⟩ noFill_tuple_add seq_tuple_add F.slot_tuple_add F.entry_tuple_add (F.args_tuple_add_2 _ _) (AutoSeq1.tuple___add___tuple_tuple_1 a1 _ n1 a2 _ n2 h1 h2) ⟨ht, hu, ?_⟩
            rw [List.append_nil]
            exact EPost.here hI (.tup ht rt)
          · refine P.add_tuple ht hu h1 h2 ?_ (by simpa [l1, l2] using hl)
            have := EPost.tuple hI (rt.append ru)
            simpa using this
      · exact absurd (if_neg hl) hne
    | _ => exact absurd rfl hne
  | lst k1 => cases b with
    | lst k2 =>
      obtain ⟨a1, hk⟩ := ra.lst_inv
      obtain ⟨a2, hj⟩ := rb.lst_inv
      cases e1 : μ[k1]? with
      | none => exact absurd (by rw [addM_lst, e1]) hne
      | some xs1 => cases e2 : μ[k2]? with
        | none => exact absurd (by rw [addM_lst, e1, e2]) hne
        | some xs2 =>
          by_cases hl : xs1.length + xs2.length ≤ sizeLine
          · have e : addM (.lst k1) (.lst k2) μ = .ok (.lst μ.length) (μ ++ [xs1 ++ xs2]) := by rw [addM_lst, e1, e2]; exact if_pos hl
            rw [e]
            obtain ⟨b1, vs1, n1, p1, p2, p3⟩ := hI.hp.at_ k1 xs1 e1
            obtain ⟨b2, vs2, n2, q1, q2, q3⟩ := hI.hp.at_ k2 xs2 e2
            rw [hk] at p1; cases p1
            rw [hj] at q1; cases q1
            have l1 := p3.length
            have l2 := q3.length
            refine P.add_list p2 q2 ?_ (by simpa [l1, l2] using hl)
            have := EPost.list hI (p3.append q3)
            simpa using this
          · exact absurd (by rw [addM_lst, e1, e2]; exact if_neg hl) hne
    | _ => exact absurd rfl hne
  | _ => exact absurd rfl hne

/-! ints alone -/
noncomputable def intM (f : Int → Int → Option MV) : MV → MV → MH → Out MV
  | .int a, .int b, μ => match f a b with | some v => .ok v μ | none => .stuck
  | _, _, _ => .stuck
theorem op_int {t : Value → Value → Sem Value} {f : Int → Int → Option MV}
    (h : ∀ (A : Around) (s : Shared) (i j : Int) (u w : Tok) (v : MV) (E : Value → Shared → Prop) (Q : Value → Shared → Prop), f i j = some v → (∀ (x : Value) (tk : Nat), (∀ (h₀ h : Heap) (ι : List Addr), Rel h₀ ι h v x) → Q x { s with toks := tk }) → wpAny (model C.prog C.w) A (t (.int i u) (.int j w)) Q E s) :
    Op2 C q n t (intM f) := fun A s fs ι μ a b x y hA hI ra rb hne => by
  cases a with
  | int i => cases b with
    | int j =>
      obtain ⟨u⟩ := ra.int_inv
      obtain ⟨w⟩ := rb.int_inv
      have E : intM f (.int i) (.int j) μ = (match f i j with | some v => .ok v μ | none => .stuck) := rfl
      cases e : f i j with
      | none => exact absurd (by rw [E, e]) hne
      | some v =>
        refine h A s i j u w v _ _ e fun z tk hz => ?_
        rw [E, e]
        exact EPost.same hI (hz _ _ _)
    | _ => exact absurd rfl hne
  | _ => exact absurd rfl hne
noncomputable def subM := intM fun a b => some (.int (a - b))
noncomputable def fdivM := intM fun a b => if 0 < b ∧ b < 2 ^ 30 then some (.int (a.fdiv b)) else none
noncomputable def fmodM := intM fun a b => if b = 0 then none else some (.int (a.fmod b))
noncomputable def ltM := intM fun a b => some (.bool (decide (a < b)))
noncomputable def leM := intM fun a b => some (.bool (decide (a ≤ b)))
noncomputable def gtM := intM fun a b => some (.bool (decide (a > b)))
noncomputable def geM := intM fun a b => some (.bool (decide (a ≥ b)))
theorem op_sub : Op2 C q n (binaryOp .Sub) subM := op_int fun A s i j u w v E Q e k => by cases e; exact P.sub_int (k _ _ fun _ _ _ => .int _ _)
theorem op_fdiv : Op2 C q n (binaryOp .FloorDiv) fdivM := op_int fun A s i j u w v E Q e k => by
  by_cases hj : 0 < j ∧ j < 2 ^ 30
  · rw [if_pos hj] at e; cases e; exact PyProof.Rows.floordiv_int (by omega) (k _ _ fun _ _ _ => .int _ _) (Or.inl (PyProof.noPylong_small (by omega)))
  · rw [if_neg hj] at e; cases e
theorem op_fmod : Op2 C q n (binaryOp .Mod) fmodM := op_int fun A s i j u w v E Q e k => by
  by_cases hj : j = 0
  · simp [hj] at e
  · simp [hj] at e; subst e; exact PyProof.Rows.mod_int' hj (k _ _ fun _ _ _ => .int _ _)
theorem op_lt : Op2 C q n (compareOp .Lt) ltM := op_int fun A s i j u w v E Q e k => by cases e; exact P.lt_int (k _ s.toks fun _ _ _ => .bool _)
theorem op_le : Op2 C q n (compareOp .LtE) leM := op_int fun A s i j u w v E Q e k => by cases e; exact P.le_int (k _ s.toks fun _ _ _ => .bool _)
theorem op_gt : Op2 C q n (compareOp .Gt) gtM := op_int fun A s i j u w v E Q e k => by cases e; exact P.gt_int (k _ s.toks fun _ _ _ => .bool _)
theorem op_ge : Op2 C q n (compareOp .GtE) geM := op_int fun A s i j u w v E Q e k => by cases e; exact P.ge_int (k _ s.toks fun _ _ _ => .bool _)

/-! data as trees -/
noncomputable def toPy (μ : MH) : Nat → MV → Option PyData
  | _, .none => some .none
  | _, .bool b => some (.bool b)
  | _, .int i => some (.int i)
  | _, .str s => some (.str s)
  | d + 1, .tup xs => (xs.mapM (toPy μ d)).map .tuple
  | d + 1, .lst k => match μ[k]? with
    | some xs => (xs.mapM (toPy μ d)).map .list
    | none => none
  | _, _ => none

theorem reads_all {h₀ h : Heap} {ι : List Addr} {μ : MH} {d : Nat} (ih : ∀ v x p, Rel h₀ ι h v x → toPy μ d v = some p → ∃ as, Reads h x p as)
    (xs : List MV) : ∀ (vs : List Value) (ps : List PyData), RelAll h₀ ι h xs vs → xs.mapM (toPy μ d) = some ps → ∃ as, ReadsAll h vs ps as := by
  induction xs with
  | nil =>
    intro vs ps r e
    rw [r.nil_inv]
    cases e; exact ⟨_, .nil⟩
  | cons x xs ih2 =>
    intro vs ps r e
    obtain ⟨v, us, rfl, r1, rs⟩ := r.cons_inv
    simp only [List.mapM_cons, Option.bind_eq_bind, Option.pure_def, Option.bind_eq_some_iff, Option.some.injEq] at e
    obtain ⟨p, e1, ps', e2, rfl⟩ := e
    obtain ⟨as, ra⟩ := ih x _ p r1 e1
    obtain ⟨bs, rb⟩ := ih2 _ ps' rs e2
    exact ⟨_, .cons ra rb⟩

theorem reads_of {h₀ h : Heap} {ι : List Addr} {μ : MH} (H : HpOk h₀ ι μ h) (d : Nat) : ∀ (v : MV) (x : Value) (p : PyData), Rel h₀ ι h v x → toPy μ d v = some p → ∃ as, Reads h x p as := by
  induction d with
  | zero =>
    intro v x p r e
    cases v with
    | none => rw [r.none_inv]; cases e; exact ⟨_, .none⟩
    | bool b => rw [r.bool_inv]; cases e; exact ⟨_, .bool b⟩
    | int i => obtain ⟨t⟩ := r.int_inv; cases e; exact ⟨_, .int i t⟩
    | str i => obtain ⟨t⟩ := r.str_inv; cases e; exact ⟨_, .str i t⟩
    | _ => cases e
  | succ d ih =>
    intro v x p r e
    cases v with
    | none => rw [r.none_inv]; cases e; exact ⟨_, .none⟩
    | bool b => rw [r.bool_inv]; cases e; exact ⟨_, .bool b⟩
    | int i => obtain ⟨t⟩ := r.int_inv; cases e; exact ⟨_, .int i t⟩
    | str i => obtain ⟨t⟩ := r.str_inv; cases e; exact ⟨_, .str i t⟩
    | tup xs =>
      obtain ⟨a, vs, n, ht, rt⟩ := r.tup_inv
      obtain ⟨ps, e1, rfl⟩ := Option.map_eq_some_iff.mp e
      obtain ⟨as, q⟩ := reads_all ih xs _ ps rt e1
      exact ⟨as, .tuple ht rfl rfl (by simpa using q)⟩
    | lst k =>
      obtain ⟨a, hk⟩ := r.lst_inv
      have e' : (match μ[k]? with | some xs => (xs.mapM (toPy μ d)).map PyData.list | none => none) = some p := e
      cases ek : μ[k]? with
      | none => rw [ek] at e'; cases e'
      | some xs =>
        rw [ek] at e'
        obtain ⟨ps, e1, rfl⟩ := Option.map_eq_some_iff.mp e'
        obtain ⟨a, vs, n, p1, p2, p3⟩ := H.at_ k xs ek
        rw [hk] at p1; cases p1
        obtain ⟨as, q⟩ := reads_all ih xs _ ps p3 e1
        exact ⟨_, .list p2 rfl rfl (by simpa using q)⟩
    | _ => cases e

theorem depth_all {μ : MH} {d : Nat} (ih : ∀ v p, toPy μ d v = some p → p.depth ≤ d) : ∀ (xs : List MV) (ps : List PyData), xs.mapM (toPy μ d) = some ps → PyData.depthAll ps ≤ d
  | [], ps, e => by simp at e; subst e; simp [PyData.depthAll]
  | x :: xs, ps, e => by
    simp only [List.mapM_cons, Option.bind_eq_bind, Option.pure_def, Option.bind_eq_some_iff, Option.some.injEq] at e
    obtain ⟨p, e1, ps', e2, rfl⟩ := e
    have h1 := ih x p e1
    have h2 := depth_all ih xs ps' e2
    simp only [PyData.depthAll]
    omega
theorem depth_of {μ : MH} (d : Nat) : ∀ (v : MV) (p : PyData), toPy μ d v = some p → p.depth ≤ d := by
  have h0 : PyData.depth .none = 0 ∧ (∀ b, PyData.depth (.bool b) = 0) ∧ (∀ b, PyData.depth (.int b) = 0) ∧ ∀ b, PyData.depth (.str b) = 0 := ⟨rfl, fun _ => rfl, fun _ => rfl, fun _ => rfl⟩
  obtain ⟨h1, h2, h3, h4⟩ := h0
  induction d with
  | zero =>
    intro v p e
    cases v with
    | none => cases e; rw [h1]; exact Nat.zero_le _
    | bool b => cases e; rw [h2]; exact Nat.zero_le _
    | int i => cases e; rw [h3]; exact Nat.zero_le _
    | str i => cases e; rw [h4]; exact Nat.zero_le _
    | _ => cases e
  | succ d ih =>
    intro v p e
    cases v with
    | none => cases e; rw [h1]; exact Nat.zero_le _
    | bool b => cases e; rw [h2]; exact Nat.zero_le _
    | int i => cases e; rw [h3]; exact Nat.zero_le _
    | str i => cases e; rw [h4]; exact Nat.zero_le _
    | tup xs =>
      obtain ⟨ps, e1, rfl⟩ := Option.map_eq_some_iff.mp e
      have := depth_all ih xs ps e1
      simp only [PyData.depth]; omega
    | lst k =>
      have e' : (match μ[k]? with | some xs => (xs.mapM (toPy μ d)).map PyData.list | none => none) = some p := e
      cases ek : μ[k]? with
      | none => rw [ek] at e'; cases e'
      | some xs =>
        rw [ek] at e'
        obtain ⟨ps, e1, rfl⟩ := Option.map_eq_some_iff.mp e'
        have := depth_all ih xs ps e1
        simp only [PyData.depth]; omega
    | _ => cases e

/-! ==, != -/
noncomputable def eqM (a b : MV) (μ : MH) : Out MV := match toPy μ 8 a, toPy μ 8 b with
  | some p, some p' => if p.canLay0 && p'.canLay0 then .ok (.bool (PyData.eqv p p')) μ else .stuck
  | _, _ => .stuck
noncomputable def neM (a b : MV) (μ : MH) : Out MV := match toPy μ 8 a, toPy μ 8 b with
  | some p, some p' => if p.canLay0 && p'.canLay0 then .ok (.bool (!PyData.eqv p p')) μ else .stuck
  | _, _ => .stuck
theorem op_eq : Op2 C q n (compareOp .Eq) eqM := fun A s fs ι μ a b x y hA hI ra rb hne => by
  cases e1 : toPy μ 8 a with
  | none => exact absurd (by simp [eqM, e1]) hne
  | some p => cases e2 : toPy μ 8 b with
    | none => exact absurd (by simp [eqM, e1, e2]) hne
    | some p' =>
      by_cases hc : (p.canLay0 && p'.canLay0) = true
      · obtain ⟨as, r1⟩ := reads_of hI.hp 8 a x p ra e1
        obtain ⟨bs, r2⟩ := reads_of hI.hp 8 b y p' rb e2
        have hc' := Bool.and_eq_true_iff.mp hc
        have d1 := depth_of 8 a p e1
        have hu := hA.units
        refine SeqAt.compareEq_reads r1 r2 hc'.1 hc'.2 (by omega) ?_
        have : eqM a b μ = .ok (.bool (PyData.eqv p p')) μ := by simp [eqM, e1, e2, hc'.1, hc'.2]
        rw [this]
        exact EPost.here hI (.bool _)
      · exact absurd (by simp only [eqM, e1, e2, hc]; rfl) hne
theorem op_ne : Op2 C q n (compareOp .NotEq) neM := fun A s fs ι μ a b x y hA hI ra rb hne => by
  cases e1 : toPy μ 8 a with
  | none => exact absurd (by simp [neM, e1]) hne
  | some p => cases e2 : toPy μ 8 b with
    | none => exact absurd (by simp [neM, e1, e2]) hne
    | some p' =>
      by_cases hc : (p.canLay0 && p'.canLay0) = true
      · obtain ⟨as, r1⟩ := reads_of hI.hp 8 a x p ra e1
        obtain ⟨bs, r2⟩ := reads_of hI.hp 8 b y p' rb e2
        have hc' := Bool.and_eq_true_iff.mp hc
        have d1 := depth_of 8 a p e1
        have hu := hA.units
        have : neM a b μ = .ok (.bool (!PyData.eqv p p')) μ := by simp [neM, e1, e2, hc'.1, hc'.2]
        rw [this]
        exact SeqAt.neOverData C.prog C.w A _ s x y p p' as bs _ r1 r2 hc'.1 hc'.2 (by omega) (EPost.here hI (.bool _))
      · exact absurd (by simp only [neM, e1, e2, hc]; rfl) hne

/-! in, not in a list or a tuple -/
noncomputable def anyEq (a c : MV) (μ : MH) : Option Bool := match toPy μ 8 a, toPy μ 8 c with
  | some p, some (.list ps) => if p.canLay0 && PyData.canLayAll0 ps then some (ps.any fun y => PyData.eqv y p) else none
  | some p, some (.tuple ps) => if p.canLay0 && PyData.canLayAll0 ps then some (ps.any fun y => PyData.eqv y p) else none
  | _, _ => none
noncomputable def notInM (a c : MV) (μ : MH) : Out MV := match anyEq a c μ with | some b => .ok (.bool (!b)) μ | none => .stuck
theorem op_notIn : Op2 C q n (compareOp .NotIn) notInM := fun A s fs ι μ a c x y hA hI ra rc hne => by
  cases e : anyEq a c μ with
  | none => exact absurd (by simp [notInM, e]) hne
  | some b =>
    have : notInM a c μ = .ok (.bool (!b)) μ := by simp [notInM, e]
    rw [this]
    have hu := hA.units
    unfold anyEq at e
    split at e
    · rename_i p ps e1 e2
      split at e
      · rename_i hc
        cases e
        obtain ⟨as, r1⟩ := reads_of hI.hp 8 a x p ra e1
        obtain ⟨bs, r2⟩ := reads_of hI.hp 8 c y _ rc e2
        have hc' := Bool.and_eq_true_iff.mp hc
        have d1 := depth_of 8 a p e1
        exact SeqAt.notIn_list_reads r2 r1 hc'.2 hc'.1 (by omega) (EPost.here hI (.bool _))
      · cases e
    · rename_i p ps e1 e2
      split at e
      · rename_i hc
        cases e
        obtain ⟨as, r1⟩ := reads_of hI.hp 8 a x p ra e1
        obtain ⟨bs, r2⟩ := reads_of hI.hp 8 c y _ rc e2
        have hc' := Bool.and_eq_true_iff.mp hc
        have d1 := depth_of 8 a p e1
        exact SeqAt.notIn_tuple_reads r2 r1 hc'.2 hc'.1 (by omega) (EPost.here hI (.bool _))
      · cases e
    · cases e
end
end Mine

set_option linter.unusedVariables false
namespace Mine
open PySem

section
variable {C : Cx} {q : Bool} {n : Nat} {sg : Sg}

/-! items -/
noncomputable def pick {α : Type} (xs : List α) (i : Int) : Option α :=
  if 0 ≤ i ∧ i < 2 ^ 62 then xs[i.toNat]? else if -(2 ^ 62) ≤ i ∧ i < 0 ∧ -(xs.length : Int) ≤ i then xs[(i + xs.length).toNat]? else none
theorem pick_seq {α : Type} {xs : List α} {i : Int} {v : α} (h : pick xs i = some v) : ∃ j, seqIndex? i xs.length = some j ∧ xs[j]? = some v ∧ -(2 ^ 62) ≤ i ∧ i < 2 ^ 62 ∧ (0 ≤ i → j = i.toNat) ∧ (i < 0 → j = (i + xs.length).toNat ∧ -(xs.length : Int) ≤ i) := by
  unfold pick at h
  split at h
  · rename_i hc
    have hl := (List.getElem?_eq_some_iff.mp h).1
    refine ⟨i.toNat, ?_, h, by omega, hc.2, fun _ => rfl, fun q => by omega⟩
    unfold seqIndex?
    simp only [show ¬ i < 0 by omega, if_false]
    rw [if_pos (by simp only [Bool.and_eq_true, decide_eq_true_eq]; omega)]
  · split at h
    · rename_i hc
      refine ⟨(i + xs.length).toNat, seqIndex_neg hc.2.1 hc.2.2, h, hc.1, by omega, fun q => by omega, fun _ => ⟨rfl, hc.2.2⟩⟩
    · cases h
noncomputable def optOut (o : Option MV) (μ : MH) : Out MV := match o with | some v => .ok v μ | none => .stuck
noncomputable def idxM : MV → MV → MH → Out MV
  | .lst k, .int i, μ => match μ[k]? with | some xs => optOut (pick xs i) μ | none => .stuck
  | .tup xs, .int i, μ => optOut (pick xs i) μ
  | .scr ns, .int i, μ => optOut ((pick ns i).map .int) μ
  | _, _, _ => .stuck

theorem idxM_lst (k : Nat) (i : Int) (μ : MH) : idxM (.lst k) (.int i) μ = (match μ[k]? with | some xs => optOut (pick xs i) μ | none => .stuck) := (rfl)
theorem getItem_L {A : Around} {E : Value → Shared → Prop} {s : Shared} {a : Addr} {vs : List Value} {m : Nat} {i : Int} {t : Tok} {j : Nat} {v : Value} {Q : Value → Shared → Prop} (hl : IsL s.heap a vs.toArray m)
    (hj : vs[j]? = some v) (h1 : -(2 ^ 62) ≤ i) (h2 : i < 2 ^ 62) (h3 : 0 ≤ i → j = i.toNat) (h4 : i < 0 → j = (i + vs.length).toNat ∧ -(vs.length : Int) ≤ i) (h : Q v s) : wpAny (model C.prog C.w) A (getItem (.ref a) (.int i t)) Q E s := by
  by_cases h0 : 0 ≤ i
  · exact wpAny_getItem_list hl.isList h0 (by omega) (by have e := h3 h0; subst e; simpa using hj) h
  · exact wpAny_getItem_list_neg hl.isList (by omega) (by have := (h4 (by omega)).2; simpa using this) (by omega) (by have e := (h4 (by omega)).1; subst e; simpa using hj) h

theorem op_idx {value slice : Expr} (hs : ∀ o i, subscripted slice false o i = operate [o, i] (getItem o i)) : Op2 C q n (PyProof.Rows.subscriptTail value slice) idxM := fun A s fs ι μ a b x y hA hI ra rb hne => by
  cases b with
  | int i =>
    obtain ⟨t⟩ := rb.int_inv
    cases a with
    | lst k =>
      obtain ⟨ad, hk⟩ := ra.lst_inv
      cases e1 : μ[k]? with
      | none => exact absurd (by rw [idxM_lst, e1]) hne
      | some xs => cases e2 : pick xs i with
        | none => exact absurd (by rw [idxM_lst, e1]; show optOut (pick xs i) μ = _; rw [e2]; rfl) hne
        | some v =>
          have e : idxM (.lst k) (.int i) μ = .ok v μ := by rw [idxM_lst, e1]; show optOut (pick xs i) μ = _; rw [e2]; rfl
          rw [e]
          obtain ⟨a', vs, m, p1, p2, p3⟩ := hI.hp.at_ k xs e1
          rw [hk] at p1; cases p1
          obtain ⟨j, j1, j2, j3, j4, j5, j6⟩ := pick_seq e2
          obtain ⟨cv, c1, c2⟩ := p3.get j2
          have hl := p3.length
          exact PyProof.Rows.tail_any ⟨_, p2, rfl⟩ slot_list_getitem.lookup (getItem_L p2 c1 j3 j4 j5 (by rw [hl]; exact j6) (EPost.here hI c2)) (hs _ _)
    | tup xs =>
      obtain ⟨ad, vs, m, ht, rt⟩ := ra.tup_inv
      have E : idxM (.tup xs) (.int i) μ = optOut (pick xs i) μ := rfl
      cases e2 : pick xs i with
      | none => exact absurd (by rw [E, e2]; rfl) hne
      | some v =>
        rw [E, e2]
        obtain ⟨j, j1, j2, j3, j4, j5, j6⟩ := pick_seq e2
        obtain ⟨cv, c1, c2⟩ := rt.get j2
        have hl := rt.length
        refine PyProof.Rows.tail_any ⟨_, ht, rfl⟩ F.slot_tuple_getitem.lookup (P.getItem_tuple ht (by omega) (by omega) (by simpa [hl] using j1) (by simpa using c1) (EPost.here hI c2)) (hs _ _)
    | scr ns =>
      obtain ⟨ad, vs, m, hl, hn, hi⟩ := ra.scr_inv
      have E : idxM (.scr ns) (.int i) μ = optOut ((pick ns i).map .int) μ := rfl
      cases e2 : pick ns i with
      | none => exact absurd (by rw [E, e2]; rfl) hne
      | some v =>
        rw [E, e2]
        obtain ⟨j, j1, j2, j3, j4, j5, j6⟩ := pick_seq e2
        obtain ⟨tk, c1⟩ := hi j v j2
        exact PyProof.Rows.tail_any ⟨_, hI.hp.base _ _ hl, rfl⟩ slot_list_getitem.lookup (getItem_L (hI.hp.base _ _ hl) c1 j3 j4 j5 (by rw [hn]; exact j6) (EPost.here hI (.int _ _))) (hs _ _)
    | _ => exact absurd rfl hne
  | _ => cases a <;> exact absurd rfl hne
theorem snd_idx {v i : Expr} {pos : Pos} {fv fi : D} (hv : ESound C q n sg v fv) (hi : ESound C q n sg i fi) (hs : ∀ o j, subscripted i false o j = operate [o, j] (getItem o j)) : ESound C q n sg (.Subscript v i pos) (dBin idxM fv fi) :=
  fun A s sc rest ι μ hsg hA hI hne => PyProof.Rows.Subscript_ (two_ hv hi (op_idx hs) hsg hA hI hne)

/-! cuts of lists and tuples: [a:], [:b] with a, b no less than nought -/
theorem slicePick_nat (items : List Value) (a : Nat) : slicePick items.toArray (some (a : Int)) none none = (items.drop a).toArray := by rw [slicePick_from']
theorem slicePick_nat' (items : List Value) (a : Nat) : slicePick items.toArray none (some (a : Int)) none = (items.take a).toArray := by rw [slicePick_upto']

theorem sliceApplied_nn {A : Around} {E : Value → Shared → Prop} {s : Shared} {sl : Addr} {vl vu : Value} {lo hi : Option Int} {m : Nat} {Q : Int × Int × Nat → Shared → Prop} (hs : s.heap.IsSliceOf sl vl vu .none) (pl : IsPart vl lo) (pu : IsPart vu hi)
    (h : Q ((Builtin.Slice.sliceAdjust lo hi 1 (m : Int)).1, 1, Builtin.Slice.slicePlaces (Builtin.Slice.sliceAdjust lo hi 1 (m : Int)).1 (Builtin.Slice.sliceAdjust lo hi 1 (m : Int)).2 1) s) :
    wpAny (model C.prog C.w) A (Builtin.Slice.sliceApplied (.ref sl) (pure (m : Int))) Q E s := by
  obtain ⟨os, hos, hcs, hds⟩ := id hs
  have part : ∀ {v : Value} {o : Option Int} {Q' : Option Int → Shared → Prop}, IsPart v o → Q' o s → wpAny (model C.prog C.w) A (Builtin.Slice.slicePartIndex v) Q' E s := fun hp hq => by
    cases hp with
    | none => exact PyProof.Rows.slicePart_none hq
    | int i t => exact PyProof.Rows.slicePart_int hq
  unfold Builtin.Slice.sliceApplied Builtin.Slice.sliceFields
  refine wpAny_bind (wpAny_bind (wpAny_field hos hds (x := vl) rfl (wpAny_bind (wpAny_field hos hds (x := vu) rfl (wpAny_bind (wpAny_field hos hds (x := .none) rfl (wpAny_pure ?_)))))))
  refine wpAny_bind (PyProof.Rows.slicePart_none ?_)
  show wpAny _ _ (if ((1 : Int) == 0) = true then _ else _) _ _ s
  rw [if_neg (by decide)]
  refine wpAny_bind (part pl (wpAny_bind (part pu (wpAny_bind (wpAny_pure ?_)))))
  exact wpAny_pure h

theorem pick_count (xs : List Value) (a k : Nat) : ((List.range k).filterMap fun (j : Nat) => xs.toArray[((a : Int) + (j : Int) * 1).toNat]?).toArray = ((xs.drop a).take k).toArray := by
  have e : (fun (j : Nat) => xs.toArray[((a : Int) + (j : Int) * 1).toNat]?) = fun j => xs.toArray[a + j]? := by
    funext j
    have : ((a : Int) + (j : Int) * 1).toNat = a + j := by omega
    rw [this]
  rw [e]
  have := pick_run xs.toArray a k
  rw [List.filterMap_map] at this
  exact congrArg List.toArray this

/-- a tuple's cut -/
theorem getItem_T_slice {A : Around} {E : Value → Shared → Prop} {s : Shared} {t sl : Addr} {xs : List Value} {m : Nat} {vl vu : Value} {lo hi : Option Int} {a k : Nat} {Q : Value → Shared → Prop} (ht : IsT s.heap t xs.toArray m) (hs : s.heap.IsSliceOf sl vl vu .none) (pl : IsPart vl lo) (pu : IsPart vu hi)
    (ha : Builtin.Slice.sliceAdjust lo hi 1 (xs.length : Int) = ((a : Int), ((a + k : Nat) : Int))) (hsz : xs.length ≤ sizeLine)
    (h0 : (xs.drop a).take k = xs → Q (.ref t) s)
    (h : Q (.ref s.heap.objs.size) { s with heap := s.heap.push { cls := .type "tuple", data := .seq ((xs.drop a).take k).toArray } }) : wpAny (model C.prog C.w) A (getItem (.ref t) (.ref sl)) Q E s := by
  have hdrop : sizeOk (.seq ((xs.drop a).take k).toArray) := by
    show ((xs.drop a).take k).toArray.size ≤ sizeLine
    rw [List.size_toArray, List.length_take, List.length_drop]
    omega
  have ht' : PyProof.Rows.IsTup s.heap t xs.toArray := ⟨_, ht, rfl, m, rfl⟩
  obtain ⟨os, hos, hcs, hds⟩ := id hs
  have hTs : s.TypeIs (.ref sl) "slice" := ⟨os, hos, hcs⟩
  have hpl : Builtin.Slice.slicePlaces (a : Int) ((a + k : Nat) : Int) 1 = k := by
    unfold Builtin.Slice.slicePlaces
    simp only [show (1 : Int) > 0 by decide, if_true, Int.ediv_one]
    split <;> omega
  unfold getItem
  try with_reducible refine wpAny_holding ?_
  first | refine wpAny_bind (wpAny_pure ?_) | skip
  refine wpAny_bind (wpAny_sequenceKey ht'.typeIs (by decide) ?_)
  refine wpAny_bind (wpAny_callSpecial?_slot (name := Str.ofString "__getitem__") ht'.typeIs PyProof.Rows.slot_tuple_getitem
    (wpAny_call_entry PyProof.Rows.slot_tuple_getitem ht'.typeIs PyProof.Rows.entry_tuple_getitem ?_ (PyProof.Rows.args_tuple_getitem _ _)))
  show wpAny _ _ (Builtin.Tuple.tupleItemsOf (.ref t) >>= _) _ _ s
  refine wpAny_bind (PyProof.Rows.tupleItemsOf_ ht' ?_)
  refine wpAny_bind (wpAny_typeOf hTs ?_)
  rw [if_pos (by decide)]
  refine wpAny_bind (sliceApplied_nn (m := xs.toArray.size) hs pl pu ?_)
  rw [List.size_toArray, ha, hpl]
  show wpAny _ _ (if ((a : Int) == 0 && (1 : Int) == 1 && k == xs.toArray.size) = true then _ else _) _ _ s
  by_cases hw : ((a : Int) == 0 && (1 : Int) == 1 && k == xs.toArray.size) = true
  · rw [if_pos hw]
    have hw' : a = 0 ∧ k = xs.length := by
      simp only [Bool.and_eq_true, beq_iff_eq, List.size_toArray] at hw
      omega
    have e : (xs.drop a).take k = xs := by rw [hw'.1, hw'.2]; simp
    unfold Builtin.Tuple.tupleIsExact
    refine wpAny_bind (wpAny_bind (wpAny_typeOf ht'.typeIs (wpAny_pure ?_)))
    rw [if_pos (by decide)]
    refine wpAny_bind (wpAny_rule ?_)
    first
      | exact wpAny_pure ⟨_, rfl, wpAny_pure (h0 e)⟩
      | exact wpAny_bind (wpAny_pure (wpAny_pure ⟨_, rfl, wpAny_pure (h0 e)⟩))
  · rw [if_neg hw, pick_count xs a k]
    first
      | exact wpAny_bind (m := Builtin.Tuple.tupleExact _) (wpAny_newObj_type (wpAny_pure ⟨_, rfl, wpAny_pure h⟩) hdrop)
      | exact wpAny_bind (m := Builtin.Tuple.tupleExact _) (wpAny_newObj_type (wpAny_bind (wpAny_pure (wpAny_pure ⟨_, rfl, wpAny_pure h⟩))) hdrop)
      | exact wpAny_bind (wpAny_bind (m := Builtin.Tuple.tupleExact _) (wpAny_newObj_type (wpAny_pure (wpAny_pure ⟨_, rfl, wpAny_pure h⟩)) hdrop))
      | exact wpAny_bind (wpAny_bind (m := Builtin.Tuple.tupleExact _) (wpAny_newObj_type (wpAny_pure ⟨_, rfl, wpAny_pure h⟩) hdrop))

theorem adjust_from (m a : Nat) : Builtin.Slice.sliceAdjust (some (a : Int)) none 1 (m : Int) = (((min a m : Nat) : Int), ((min a m + (m - min a m) : Nat) : Int)) := by
  unfold Builtin.Slice.sliceAdjust
  simp only [show ¬ ((1 : Int) < 0) by decide, show ¬ ((a : Int) < 0) by omega, if_false]
  congr 1 <;> omega
theorem adjust_upto (m b : Nat) : Builtin.Slice.sliceAdjust none (some (b : Int)) 1 (m : Int) = (((0 : Nat) : Int), ((0 + min b m : Nat) : Int)) := by
  unfold Builtin.Slice.sliceAdjust
  simp only [show ¬ ((1 : Int) < 0) by decide, show ¬ ((b : Int) < 0) by omega, if_false]
  congr 1; omega
theorem drop_min {α : Type} (xs : List α) (a : Nat) : (xs.drop (min a xs.length)).take (xs.length - min a xs.length) = xs.drop a := by
  rw [List.take_of_length_le (by simp)]
  by_cases h : a ≤ xs.length
  · rw [Nat.min_eq_left h]
  · rw [Nat.min_eq_right (by omega), List.drop_length, List.drop_of_length_le (by omega)]
theorem take_min {α : Type} (xs : List α) (b : Nat) : (xs.drop 0).take (min b xs.length) = xs.take b := by
  rw [List.drop_zero]
  by_cases h : b ≤ xs.length
  · rw [Nat.min_eq_left h]
  · rw [Nat.min_eq_right (by omega), List.take_length, List.take_of_length_le (by omega)]

noncomputable def cutFrom : MV → MV → MH → Out MV
  | .lst k, .int a, μ => match μ[k]? with
    | some xs => if 0 ≤ a ∧ xs.length ≤ sizeLine then .ok (.lst μ.length) (μ ++ [xs.drop a.toNat]) else .stuck
    | none => .stuck
  | .tup xs, .int a, μ => if 0 ≤ a ∧ xs.length ≤ sizeLine then .ok (.tup (xs.drop a.toNat)) μ else .stuck
  | _, _, _ => .stuck
noncomputable def cutTo : MV → MV → MH → Out MV
  | .lst k, .int a, μ => match μ[k]? with
    | some xs => if 0 ≤ a ∧ xs.length ≤ sizeLine then .ok (.lst μ.length) (μ ++ [xs.take a.toNat]) else .stuck
    | none => .stuck
  | .tup xs, .int a, μ => if 0 ≤ a ∧ xs.length ≤ sizeLine then .ok (.tup (xs.take a.toNat)) μ else .stuck
  | _, _, _ => .stuck

theorem cutFrom_at (k : Nat) (a : Int) (μ : MH) : cutFrom (.lst k) (.int a) μ = (match μ[k]? with | some xs => if 0 ≤ a ∧ xs.length ≤ sizeLine then .ok (.lst μ.length) (μ ++ [xs.drop a.toNat]) else .stuck | none => .stuck) := (rfl)
theorem cutTo_at (k : Nat) (a : Int) (μ : MH) : cutTo (.lst k) (.int a) μ = (match μ[k]? with | some xs => if 0 ≤ a ∧ xs.length ≤ sizeLine then .ok (.lst μ.length) (μ ++ [xs.take a.toNat]) else .stuck | none => .stuck) := (rfl)
/-- a slice made, then read -/
theorem cut_ {value slice : Expr} {A : Around} {s : Shared} {fs : List Sc} {ι : List Addr} {μ : MH} {a : MV} {x y1 y2 : Value} {lo hi : Option Int} {f : Nat → Nat × Nat} {o : Out MV} {g : ∀ {α : Type}, List α → List α}
    (hg : ∀ {α : Type} (xs : List α), (xs.drop (f xs.length).1).take (f xs.length).2 = g xs) (hr : ∀ {h₀ h : Heap} {ι : List Addr} {xs : List MV} {vs : List Value}, RelAll h₀ ι h xs vs → RelAll h₀ ι h (g xs) (g vs))
    (hadj : ∀ m : Nat, Builtin.Slice.sliceAdjust lo hi 1 (m : Int) = (((f m).1 : Int), (((f m).1 + (f m).2 : Nat) : Int))) (hlst : ∀ vs : List Value, slicePick vs.toArray lo hi none = (g vs).toArray)
    (hs : ∀ o i, subscripted slice false o i = operate [i, o] (getItem o i)) (hI : Inv C.h₀ fs ι μ s.heap) (ra : Rel C.h₀ ι s.heap a x) (p1 : IsPart y1 lo) (p2 : IsPart y2 hi)
    (ho : (∃ k xs, a = .lst k ∧ μ[k]? = some xs ∧ xs.length ≤ sizeLine ∧ o = .ok (.lst μ.length) (μ ++ [g xs])) ∨ (∃ xs, a = .tup xs ∧ xs.length ≤ sizeLine ∧ o = .ok (.tup (g xs)) μ)) :
    wpAny (model C.prog C.w) A (PyProof.Rows.subscriptTail value slice x (.ref s.heap.objs.size)) (EPost C ι s fs o) (XPost C ι s fs o) { s with heap := s.heap.push { cls := .type "slice", data := .fields #[y1, y2, .none] } } := by
  have g0 : Go C ι s fs ι μ { s with heap := s.heap.push { cls := .type "slice", data := .fields #[y1, y2, .none] } } := ⟨⟨_, _, rfl⟩, List.prefix_refl _, hI.push _, Keep.push _ _⟩
  have hsl := Heap.IsSliceOf.new s.heap y1 y2 .none
  rcases ho with ⟨k, xs, rfl, ek, hl, rfl⟩ | ⟨xs, rfl, hl, rfl⟩
  · obtain ⟨ad, hk⟩ := ra.lst_inv
    · obtain ⟨a', vs, m, q1, q2, q3⟩ := g0.inv.hp.at_ k xs ek
      rw [hk] at q1; cases q1
      have hlen := q3.length
      refine PyProof.Rows.tail_any ⟨_, q2, rfl⟩ slot_list_getitem.lookup (wpAny_getItem_list_slice q2.isList hsl p1 p2 .none (by simp) ?_ (by simpa [hlen] using hl)) (hs _ _)
      rw [hlst]
      exact (EPost.list g0.inv (hr q3)).after g0
  · obtain ⟨ad, vs, m, ht, rt⟩ := ra.tup_inv
    · have hlen := rt.length
      have ht' := IsT.push ht { cls := .type "slice", data := .fields #[y1, y2, .none] }
      refine PyProof.Rows.tail_any ⟨_, ht', rfl⟩ F.slot_tuple_getitem.lookup (getItem_T_slice (a := (f vs.length).1) (k := (f vs.length).2) ht' hsl p1 p2 (hadj _) (by rw [hlen]; exact hl) (fun e => ?_) ?_) (hs _ _)
      · rw [hg] at e
        have r' := hr rt
        rw [e] at r'
        exact EPost.after g0 (EPost.here g0.inv (.tup ht' (r'.keep (Keep.push _ _))))
      · rw [hg]
        exact (EPost.tuple g0.inv ((hr rt).keep (Keep.push _ _))).after g0

theorem snd_from {v a : Expr} {p pos : Pos} {fv fa : D} (hv : ESound C q n sg v fv) (ha : ESound C q n sg a fa) : ESound C q n sg (.Subscript v (.Slice (some a) none none p) pos) (dBin cutFrom fv fa) := fun A s sc rest ι μ hs hA hI hne => by
  refine PyProof.Rows.Subscript_ (then_ hv hs hA hI hne fun w μ₁ ι₁ x s₁ e1 g1 r1 hne1 => ?_)
  have E1 : dBin cutFrom fv fa sc.ρ μ = (fa sc.ρ μ₁).bind fun b μ => cutFrom w b μ := by unfold dBin; first | (rw [e1]; done) | (rw [e1]; rfl)
  rw [E1]
  refine wpAny_Slice ?_
  rw [evalPart_some]
  refine wpAny_mono (then_ ha hs hA g1.inv hne1 (Q := fun y s₂ => wpAny (model C.prog C.w) A (evalPart none sc.env) (fun u s₂ => wpAny (model C.prog C.w) A (evalPart none sc.env) (fun st s₃ =>
      wpAny (model C.prog C.w) A (PyProof.Rows.subscriptTail v (.Slice (some a) none none p) x (.ref s₃.heap.objs.size)) (EPost C ι s (sc :: rest) ((fa sc.ρ μ₁).bind fun b μ => cutFrom w b μ)) (XPost C ι s (sc :: rest) ((fa sc.ρ μ₁).bind fun b μ => cutFrom w b μ)) { s₃ with heap := s₃.heap.push { cls := .type "slice", data := .fields #[y, u, st] } }) (XPost C ι s (sc :: rest) ((fa sc.ρ μ₁).bind fun b μ => cutFrom w b μ)) s₂) (XPost C ι s (sc :: rest) ((fa sc.ρ μ₁).bind fun b μ => cutFrom w b μ)) s₂) fun b μ₂ ι₂ y s₂ e2 g2 r2 hne2 => ?_) (fun _ _ p => p) fun e s₂ p => p.after g1
  rw [evalPart_none]
  refine wpAny_pure (wpAny_pure ?_)
  have E2 : ((fa sc.ρ μ₁).bind fun b μ => cutFrom w b μ) = cutFrom w b μ₂ := by simp only [e2, Out.bind_ok]
  rw [E2]
  cases b with
  | int i =>
    obtain ⟨t⟩ := r2.int_inv
    by_cases hi : 0 ≤ i
    · obtain ⟨j, rfl⟩ := Int.eq_ofNat_of_zero_le hi
      refine wpAny_mono (cut_ (C := C) (f := fun m => (min j m, m - min j m)) (g := fun xs => xs.drop j) (o := cutFrom w (.int j) μ₂) (fun xs => drop_min xs j) (fun r => r.drop j) (fun m => adjust_from m j) (fun vs => slicePick_nat vs j) (fun _ _ => rfl) g2.inv (r1.mono g2.pre g2.keep) (.int _ t) .none ?_) (fun z s₃ p => p.after (g1.trans g2)) fun z s₃ p => p.after (g1.trans g2)
      cases w with
      | lst k =>
        cases ek : μ₂[k]? with
        | none => exact absurd (by rw [cutFrom_at, ek]) hne2
        | some xs =>
          by_cases hl : 0 ≤ (j : Int) ∧ xs.length ≤ sizeLine
          · exact .inl ⟨k, xs, rfl, ek, hl.2, by rw [cutFrom_at, ek]; exact if_pos hl⟩
          · exact absurd (by rw [cutFrom_at, ek]; exact if_neg hl) hne2
      | tup xs =>
        by_cases hl : 0 ≤ (j : Int) ∧ xs.length ≤ sizeLine
        · exact .inr ⟨xs, rfl, hl.2, if_pos hl⟩
        · exact absurd (if_neg hl) hne2
      | _ => exact absurd rfl hne2
    · exfalso
      apply hne2
      cases w with
      | lst k =>
        cases ek : μ₂[k]? with
        | none => rw [cutFrom_at, ek]
        | some xs => rw [cutFrom_at, ek]; exact if_neg fun h => hi h.1
      | tup xs => exact if_neg fun h => hi h.1
      | _ => rfl
  | _ => cases w <;> exact absurd rfl hne2
theorem snd_upto {v a : Expr} {p pos : Pos} {fv fa : D} (hv : ESound C q n sg v fv) (ha : ESound C q n sg a fa) : ESound C q n sg (.Subscript v (.Slice none (some a) none p) pos) (dBin cutTo fv fa) := fun A s sc rest ι μ hs hA hI hne => by
  refine PyProof.Rows.Subscript_ (then_ hv hs hA hI hne fun w μ₁ ι₁ x s₁ e1 g1 r1 hne1 => ?_)
  have E1 : dBin cutTo fv fa sc.ρ μ = (fa sc.ρ μ₁).bind fun b μ => cutTo w b μ := by unfold dBin; first | (rw [e1]; done) | (rw [e1]; rfl)
  rw [E1]
  refine wpAny_Slice ?_
  rw [evalPart_some, evalPart_none]
  refine wpAny_pure ?_
  refine wpAny_mono (then_ ha hs hA g1.inv hne1 (Q := fun y s₂ => wpAny (model C.prog C.w) A (pure Value.none) (fun st s₃ =>
      wpAny (model C.prog C.w) A (PyProof.Rows.subscriptTail v (.Slice none (some a) none p) x (.ref s₃.heap.objs.size)) (EPost C ι s (sc :: rest) ((fa sc.ρ μ₁).bind fun b μ => cutTo w b μ)) (XPost C ι s (sc :: rest) ((fa sc.ρ μ₁).bind fun b μ => cutTo w b μ)) { s₃ with heap := s₃.heap.push { cls := .type "slice", data := .fields #[.none, y, st] } }) (XPost C ι s (sc :: rest) ((fa sc.ρ μ₁).bind fun b μ => cutTo w b μ)) s₂) fun b μ₂ ι₂ y s₂ e2 g2 r2 hne2 => ?_) (fun _ _ p => p) fun e s₂ p => p.after g1
  refine wpAny_pure ?_
  have E2 : ((fa sc.ρ μ₁).bind fun b μ => cutTo w b μ) = cutTo w b μ₂ := by simp only [e2, Out.bind_ok]
  rw [E2]
  cases b with
  | int i =>
    obtain ⟨t⟩ := r2.int_inv
    by_cases hi : 0 ≤ i
    · obtain ⟨j, rfl⟩ := Int.eq_ofNat_of_zero_le hi
      refine wpAny_mono (cut_ (C := C) (f := fun m => (0, min j m)) (g := fun xs => xs.take j) (o := cutTo w (.int j) μ₂) (fun xs => take_min xs j) (fun r => r.take j) (fun m => adjust_upto m j) (fun vs => slicePick_nat' vs j) (fun _ _ => rfl) g2.inv (r1.mono g2.pre g2.keep) .none (.int _ t) ?_) (fun z s₃ p => p.after (g1.trans g2)) fun z s₃ p => p.after (g1.trans g2)
      cases w with
      | lst k =>
        cases ek : μ₂[k]? with
        | none => exact absurd (by rw [cutTo_at, ek]) hne2
        | some xs =>
          by_cases hl : 0 ≤ (j : Int) ∧ xs.length ≤ sizeLine
          · exact .inl ⟨k, xs, rfl, ek, hl.2, by rw [cutTo_at, ek]; exact if_pos hl⟩
          · exact absurd (by rw [cutTo_at, ek]; exact if_neg hl) hne2
      | tup xs =>
        by_cases hl : 0 ≤ (j : Int) ∧ xs.length ≤ sizeLine
        · exact .inr ⟨xs, rfl, hl.2, if_pos hl⟩
        · exact absurd (if_neg hl) hne2
      | _ => exact absurd rfl hne2
    · exfalso
      apply hne2
      cases w with
      | lst k =>
        cases ek : μ₂[k]? with
        | none => rw [cutTo_at, ek]
        | some xs => rw [cutTo_at, ek]; exact if_neg fun h => hi h.1
      | tup xs => exact if_neg fun h => hi h.1
      | _ => rfl
  | _ => cases w <;> exact absurd rfl hne2
end
end Mine

set_option linter.unusedVariables false
namespace Mine
open PySem

section
variable {C : Cx} {q : Bool} {n : Nat} {sg : Sg}

/-! * , **, - , is -/
open Classical in
noncomputable def mulM : MV → MV → MH → Out MV
  | .int a, .int b, μ => if IntMulOk a b then .ok (.int (a * b)) μ else .stuck
  | .lst k, .int j, μ => match μ[k]? with
    | some xs => if 0 ≤ j ∧ j < 2 ^ 62 ∧ xs.length * j.toNat ≤ 2 ^ 24 then .ok (.lst μ.length) (μ ++ [(List.replicate j.toNat xs).flatten]) else .stuck
    | none => .stuck
  | .str x, .int j, μ => if MulOk x j then .ok (.str (Txt.mul x j)) μ else .stuck
  | _, _, _ => .stuck
theorem mulM_lst (k : Nat) (j : Int) (μ : MH) : mulM (.lst k) (.int j) μ = (match μ[k]? with | some xs => if 0 ≤ j ∧ j < 2 ^ 62 ∧ xs.length * j.toNat ≤ 2 ^ 24 then .ok (.lst μ.length) (μ ++ [(List.replicate j.toNat xs).flatten]) else .stuck | none => .stuck) := (rfl)
theorem RelAll.repeat {h₀ h : Heap} {ι : List Addr} {xs : List MV} {vs : List Value} (r : RelAll h₀ ι h xs vs) : ∀ j : Nat, RelAll h₀ ι h (List.replicate j xs).flatten (List.replicate j vs).flatten
  | 0 => .nil
  | j + 1 => by
    rw [List.replicate_succ, List.replicate_succ, List.flatten_cons, List.flatten_cons]
    exact r.append (RelAll.repeat r j)
theorem op_mul : Op2 C q n (binaryOp .Mult) mulM := fun A s fs ι μ a b x y hA hI ra rb hne => by
  cases a with
  | int i => cases b with
    | int j =>
      obtain ⟨t⟩ := ra.int_inv
      obtain ⟨u⟩ := rb.int_inv
      by_cases hm : IntMulOk i j
      · have e : mulM (.int i) (.int j) μ = .ok (.int (i * j)) μ := if_pos hm
        rw [e]
        exact P.mul_int (EPost.same hI (.int _ _)) hm
      · exact absurd (if_neg hm) hne
    | _ => exact absurd rfl hne
  | lst k => cases b with
    | int j =>
      obtain ⟨ad, hk⟩ := ra.lst_inv
      obtain ⟨u⟩ := rb.int_inv
      cases e1 : μ[k]? with
      | none => exact absurd (by rw [mulM_lst, e1]) hne
      | some xs =>
        by_cases hc : 0 ≤ j ∧ j < 2 ^ 62 ∧ xs.length * j.toNat ≤ 2 ^ 24
        · have e : mulM (.lst k) (.int j) μ = .ok (.lst μ.length) (μ ++ [(List.replicate j.toNat xs).flatten]) := by rw [mulM_lst, e1]; exact if_pos hc
          rw [e]
          obtain ⟨a', vs, m, p1, p2, p3⟩ := hI.hp.at_ k xs e1
          rw [hk] at p1; cases p1
          have hl := p3.length
          refine wpAny_binaryOp_repeat_ref (T := "list") (U := "int") (by decide) ⟨_, p2, rfl⟩ (fun s' => typeIs_int s' j u) noFill_list_mul F.fills_int_mul F.slot_int_rmul repeat_list F.slot_int_index.lookup
            (call_meets F.slot_int_rmul (typeIs_int s j u) F.entry_int_rmul (F.args_int_rmul_2 _ _) (int___rmul___int_list j u _ _ m)
              ⟨p2, rfl, ⟨_, p2, rfl⟩, call_meets F.slot_list_mul ⟨_, p2, rfl⟩ F.entry_list_mul (F.args_list_mul_2 _ _)
                (AutoListH.list___mul___list_int_3 _ _ m j u (by simp [Builtin.List.listFitsIndex]; omega) (by simp [hl]; omega) (by simp [Builtin.List.listTooLong, sizeLine, hl]; omega))
                ⟨p2, ?_⟩⟩)
          have := EPost.list hI (p3.repeat j.toNat)
          rw [PyProof.Rows.listMul_foldl_if]
          exact this
        · exact absurd (by rw [mulM_lst, e1]; exact if_neg hc) hne
    | _ => exact absurd rfl hne
  | str x => cases b with
    | int j =>
      obtain ⟨t⟩ := ra.str_inv
      obtain ⟨u⟩ := rb.int_inv
      by_cases hm : MulOk x j
      · have e : mulM (.str x) (.int j) μ = .ok (.str (Txt.mul x j)) μ := if_pos hm
        rw [e]
        exact SB.mul hm fun t' k => EPost.same hI (.str _ _)
      · exact absurd (if_neg hm) hne
    | _ => exact absurd rfl hne
  | _ => exact absurd rfl hne

noncomputable def powM := intM fun a b => if 0 ≤ b ∧ (Builtin.Int.intBits a : Int) * b ≤ 2 ^ 27 then some (.int (a ^ b.toNat)) else none
theorem op_pow : Op2 C q n (binaryOp .Pow) powM := op_int fun A s i j u w v E Q e k => by
  by_cases hj : 0 ≤ j ∧ (Builtin.Int.intBits i : Int) * j ≤ 2 ^ 27
  · rw [if_pos hj] at e; cases e; exact PyProof.Rows.pow_int hj.1 hj.2 (k _ _ fun _ _ _ => .int _ _)
  · rw [if_neg hj] at e; cases e

noncomputable def dNeg (f : D) : D := fun ρ μ => (f ρ μ).bind fun v μ => match v with | .int i => .ok (.int (-i)) μ | _ => .stuck
theorem snd_neg {e : Expr} {pos : Pos} {f : D} (he : ESound C q n sg e f) : ESound C q n sg (.UnaryOp .USub e pos) (dNeg f) := fun A s sc rest ι μ hs hA hI hne => by
  refine wpAny_UnaryOp (then_ he hs hA hI hne fun v μ₁ ι₁ x s₁ e1 g1 r1 hne1 => ?_)
  cases v with
  | int i =>
    obtain ⟨t⟩ := r1.int_inv
    exact P.neg_int ⟨.int (-i), μ₁, ι₁, by unfold dNeg; first | (rw [e1]; done) | (rw [e1]; rfl), g1.toks _, .int _ _⟩
  | _ => exact absurd rfl hne1

/-! methods of lists -/
theorem IsL.upd {h : Heap} {a : Addr} {vs : List Value} {m : Nat} (x : IsL h a vs.toArray m) (f : Array Value → Array Value) (us : List Value) (e : f vs.toArray = us.toArray) : ∃ m', IsL (h.update a (Obj.mapSeq f)) a us.toArray m' :=
  ⟨_, by have := x.update f; rw [e] at this; exact this⟩
/-- a list of ours is changed in place -/
theorem Go.upd {ι ι₁ : List Addr} {s s₁ : Shared} {fs : List Sc} {μ₁ : MH} (g : Go C ι s fs ι₁ μ₁ s₁) {k : Nat} {a : Addr} {vs us : List Value} {m : Nat} {f : Array Value → Array Value} {ys : List MV} (hk : ι₁[k]? = some a) (hl : IsL s₁.heap a vs.toArray m)
    (e : f vs.toArray = us.toArray) (r : RelAll C.h₀ ι₁ s₁.heap ys us) : Go C ι s fs ι₁ (μ₁.set k ys) { s₁ with heap := s₁.heap.update a (Obj.mapSeq f) } := by
  obtain ⟨m', hl'⟩ := IsL.upd hl f us e
  obtain ⟨I, K⟩ := g.inv.setList hk hl hl' (Heap.SameBut.update ..) r
  obtain ⟨hh, tk, rfl⟩ := g.sh
  exact ⟨⟨_, _, rfl⟩, g.pre, I, g.keep.trans K⟩
noncomputable def dAppend (fo fe : D) : D := fun ρ μ => (fo ρ μ).bind fun o μ => match o with
  | .lst k => (fe ρ μ).bind fun v μ => match μ[k]? with
    | some xs => if xs.length ≤ sizeLine then .ok .none (μ.set k (xs ++ [v])) else .stuck
    | none => .stuck
  | _ => .stuck
theorem snd_append {o e : Expr} {apos pos : Pos} {fo fe : D} (ho : ESound C q n sg o fo) (he : ESound C q n sg e fe)
    (hbase : ∀ env, attributeBase o (Str.ofString "append") env (eval o env) = eval o env) (hline : (apos.endLine == pos.line) = true) (hns : NoStar [e]) :
    ESound C q n sg (.Call (.Attribute o (Str.ofString "append") apos) [e] [] pos) (dAppend fo fe) := fun A s sc rest ι μ hs hA hI hne => by
  refine wpAny_Call_method (T := "list") (id := "list.append") (hbase _) (by rw [backTo_plain hns]; rfl) hline F.plainAttrs_list F.slot_list_append F.type_list_append ?_
  refine then_ ho hs hA hI hne fun w μ₁ ι₁ x s₁ e1 g1 r1 hne1 => ?_
  cases w with
  | lst k =>
    obtain ⟨a, hk⟩ := r1.lst_inv
    have hlt : k < μ₁.length := by rw [← g1.inv.hp.len]; exact (List.getElem?_eq_some_iff.mp hk).1
    obtain ⟨a', vs, m, p1, p2, p3⟩ := g1.inv.hp.at_ k (μ₁[k]'hlt) (List.getElem?_eq_getElem hlt)
    rw [hk] at p1; cases p1
    refine ⟨⟨_, p2, rfl⟩, fun b eb => by cases eb; exact ⟨_, p2, rfl⟩, ?_⟩
    rw [backTo_plain hns]
    have E1 : dAppend fo fe sc.ρ μ = (fe sc.ρ μ₁).bind fun v μ => match μ[k]? with
      | some xs => if xs.length ≤ sizeLine then .ok .none (μ.set k (xs ++ [v])) else .stuck
      | none => .stuck := by unfold dAppend; first | (rw [e1]; done) | (rw [e1]; rfl)
    rw [E1]
    refine P.append_list (wpAny_mono (then_ he hs hA g1.inv hne1 (Q := fun v s₂ => ∃ items n, items.size ≤ sizeLine ∧ IsL s₂.heap a items n ∧ EPost C ι s (sc :: rest) ((fe sc.ρ μ₁).bind fun v μ => match μ[k]? with
      | some xs => if xs.length ≤ sizeLine then .ok .none (μ.set k (xs ++ [v])) else .stuck
      | none => .stuck) .none { s₂ with heap := s₂.heap.update a (Obj.mapSeq fun xs => xs.push v) }) fun v μ₂ ι₂ y s₂ e2 g2 r2 hne2 => ?_) (fun _ _ p => p) fun e s₂ p => p.after g1)
    have E2 : ((fe sc.ρ μ₁).bind fun v μ => match μ[k]? with
      | some xs => if xs.length ≤ sizeLine then .ok .none (μ.set k (xs ++ [v])) else .stuck
      | none => .stuck) = (match μ₂[k]? with
      | some xs => if xs.length ≤ sizeLine then .ok .none (μ₂.set k (xs ++ [v])) else .stuck
      | none => .stuck : Out MV) := by simp only [e2, Out.bind_ok]
    rw [E2]
    cases ek : μ₂[k]? with
    | none => rw [ek] at hne2; exact absurd rfl hne2
    | some xs =>
      rw [ek] at hne2
      by_cases hl : xs.length ≤ sizeLine
      · obtain ⟨a', vs', m', p1', p2', p3'⟩ := g2.inv.hp.at_ k xs ek
        have hk2 : ι₂[k]? = some a := by
          obtain ⟨t, rfl⟩ := g2.pre
          rw [List.getElem?_append_left (List.getElem?_eq_some_iff.mp hk).1]; exact hk
        rw [hk2] at p1'; cases p1'
        have hlen := p3'.length
        refine ⟨vs'.toArray, m', by simpa [hlen] using hl, p2', .none, μ₂.set k (xs ++ [v]), ι₂, by simp [hl], ?_, .none⟩
        exact (g1.trans g2).upd (us := vs' ++ [y]) hk2 p2' (by simp) (p3'.append (.one r2))
      · exact absurd (by simp [hl]) hne2
  | _ => exact absurd rfl hne1

/-- xs.pop(0) -/
noncomputable def dPop0 (fo : D) : D := fun ρ μ => (fo ρ μ).bind fun o μ => match o with
  | .lst k => match μ[k]? with
    | some (x :: xs) => if xs.length < sizeLine then .ok x (μ.set k xs) else .stuck
    | _ => .stuck
  | _ => .stuck
theorem snd_pop0 {o : Expr} {kk : Nat} {cp apos pos : Pos} {fo : D} (ho : ESound C q n sg o fo)
    (hbase : ∀ env, attributeBase o (Str.ofString "pop") env (eval o env) = eval o env) (hline : (apos.endLine == pos.line) = true) :
    ESound C q n sg (.Call (.Attribute o (Str.ofString "pop") apos) [.Constant (.int 0) kk cp] [] pos) (dPop0 fo) := fun A s sc rest ι μ hs hA hI hne => by
  have hns : NoStar [.Constant (.int 0) kk cp] := fun _ => rfl
  refine wpAny_Call_method (T := "list") (id := "list.pop") (hbase _) (by rw [backTo_plain hns]; rfl) hline F.plainAttrs_list F.slot_list_pop F.type_list_pop ?_
  refine then_ ho hs hA hI hne fun w μ₁ ι₁ x s₁ e1 g1 r1 hne1 => ?_
  cases w with
  | lst k =>
    obtain ⟨a, hk⟩ := r1.lst_inv
    cases ek : μ₁[k]? with
    | none => exact absurd (by simp only [ek]) hne1
    | some l =>
      cases l with
      | nil => exact absurd (by simp only [ek]) hne1
      | cons v xs =>
        by_cases hl : xs.length < sizeLine
        · obtain ⟨a', vs, m, p1, p2, p3⟩ := g1.inv.hp.at_ k (v :: xs) ek
          rw [hk] at p1; cases p1
          refine ⟨⟨_, p2, rfl⟩, fun b eb => by cases eb; exact ⟨_, p2, rfl⟩, ?_⟩
          rw [backTo_plain hns]
          cases p3 with
          | cons rv rs =>
            rename_i y ys
            have hlen := rs.length
            refine P.pop_at_list (wpAny_Constant_int ⟨(y :: ys).toArray, m, 0, s₁.toks, 0, y, by simp [hlen]; omega, rfl, p2, by decide, by simp [seqIndex?], by simp, ?_⟩)
            have g2 := (g1.toks (s₁.toks + 1)).upd (f := fun xs => xs.eraseIdxIfInBounds 0) (us := ys) (ys := xs) hk p2 (by simp [Array.eraseIdxIfInBounds]) rs
            refine ⟨v, μ₁.set k xs, ι₁, by simp [dPop0, e1, ek, hl], g2, ?_⟩
            obtain ⟨m', hl'⟩ := IsL.upd p2 (fun xs => xs.eraseIdxIfInBounds 0) ys (by simp [Array.eraseIdxIfInBounds])
            exact rv.keep (g1.inv.setList hk p2 hl' (Heap.SameBut.update ..) rs).2
        · exact absurd (by simp [ek, hl]) hne1
  | _ => exact absurd rfl hne1
end
end Mine

set_option linter.unusedVariables false
namespace Mine
open PySem

noncomputable def Sc.at (f : Sc) (ρ : Rho) : Sc := { f with ρ := ρ }
theorem SgOk.at {sg : Sg} {f : Sc} (x : SgOk sg f) (ρ : Rho) : SgOk sg (f.at ρ) := ⟨x.1, x.2, x.3, x.4, x.5, x.6, x.7⟩
theorem AOk.at {q : Bool} {n : Nat} {f : Sc} {r : List Sc} {A : Around} (x : AOk q n (f :: r) A) (ρ : Rho) : AOk q n (f.at ρ :: r) A := by
  refine ⟨?_, x.depth, x.units, x.hand, x.guards, x.stk, .inr (by rcases x.top with h | h; · cases h
                                                                  · exact h)⟩
  rw [x.frames]
  show some _ = some _
  simp only [List.filter_cons, Sc.at]
  split <;> rfl
@[simp] theorem Sc.at_env (f : Sc) (ρ : Rho) : (f.at ρ).env = f.env := rfl
@[simp] theorem Sc.at_rho (f : Sc) (ρ : Rho) : (f.at ρ).ρ = ρ := rfl
@[simp] theorem Sc.at_at (f : Sc) (ρ ρ' : Rho) : (f.at ρ).at ρ' = f.at ρ' := rfl
@[simp] theorem Sc.at_self (f : Sc) : f.at f.ρ = f := rfl

section
variable {C : Cx} {q : Bool} {n : Nat} {sg : Sg}

inductive FlRel (h₀ : Heap) (ι : List Addr) (h : Heap) : Fl → Flow → Prop
  | next : FlRel h₀ ι h .next .next
  | brk : FlRel h₀ ι h .brk .brk
  | ret {v : MV} {x : Value} : Rel h₀ ι h v x → FlRel h₀ ι h (.ret v) (.ret x)

inductive SPost (C : Cx) (ι : List Addr) (s : Shared) (sc : Sc) (rest : List Sc) (o : Out (Fl × Rho)) (fl : Flow) (s₁ : Shared) : Prop
  | mk (F : Fl) (ρ' : Rho) (μ₁ : MH) (ι₁ : List Addr) (e : o = .ok (F, ρ') μ₁) (r : FlRel C.h₀ ι₁ s₁.heap F fl) (g : Go C ι s (sc.at ρ' :: rest) ι₁ μ₁ s₁) : SPost C ι s sc rest o fl s₁
inductive SXPost (C : Cx) (ι : List Addr) (s : Shared) (sc : Sc) (rest : List Sc) (o : Out (Fl × Rho)) (e : Value) (s₁ : Shared) : Prop
  | mk (c : Str) (μ₁ : MH) (ι₁ : List Addr) (ρ' : Rho) (e1 : o = .exc c μ₁) (g : Go C ι s (sc.at ρ' :: rest) ι₁ μ₁ s₁) (f : Fly C c e s₁.heap) : SXPost C ι s sc rest o e s₁

/-- a block, a statement -/
noncomputable def SSound (C : Cx) (q : Bool) (n : Nat) (sg : Sg) (b : List Stmt) (f : DS) : Prop :=
  ∀ (A : Around) (s : Shared) (sc : Sc) (rest : List Sc) (ι : List Addr) (μ : MH), SgOk sg sc → AOk q n (sc :: rest) A → Inv C.h₀ (sc :: rest) ι μ s.heap → f sc.ρ μ ≠ .stuck →
    wpAny (model C.prog C.w) A (execs b sc.env) (SPost C ι s sc rest (f sc.ρ μ)) (SXPost C ι s sc rest (f sc.ρ μ)) s
noncomputable def S1Sound (C : Cx) (q : Bool) (n : Nat) (sg : Sg) (b : Stmt) (f : DS) : Prop :=
  ∀ (A : Around) (s : Shared) (sc : Sc) (rest : List Sc) (ι : List Addr) (μ : MH), SgOk sg sc → AOk q n (sc :: rest) A → Inv C.h₀ (sc :: rest) ι μ s.heap → f sc.ρ μ ≠ .stuck →
    wpAny (model C.prog C.w) A (exec b sc.env) (SPost C ι s sc rest (f sc.ρ μ)) (SXPost C ι s sc rest (f sc.ρ μ)) s

theorem SPost.after {ι ι₁ : List Addr} {s s₁ s₂ : Shared} {sc : Sc} {ρ' : Rho} {rest : List Sc} {μ₁ : MH} {o : Out (Fl × Rho)} {fl : Flow} (g : Go C ι s (sc.at ρ' :: rest) ι₁ μ₁ s₁) (p : SPost C ι₁ s₁ (sc.at ρ') rest o fl s₂) : SPost C ι s sc rest o fl s₂ := by
  obtain ⟨F, ρ₂, μ₂, ι₂, e, r, g'⟩ := p
  exact ⟨F, ρ₂, μ₂, ι₂, e, r, g.trans g'⟩
theorem SXPost.after {ι ι₁ : List Addr} {s s₁ s₂ : Shared} {sc : Sc} {ρ' : Rho} {rest : List Sc} {μ₁ : MH} {o : Out (Fl × Rho)} {e : Value} (g : Go C ι s (sc.at ρ' :: rest) ι₁ μ₁ s₁) (p : SXPost C ι₁ s₁ (sc.at ρ') rest o e s₂) : SXPost C ι s sc rest o e s₂ := by
  obtain ⟨c, μ₂, ι₂, ρ₂, e, g', r⟩ := p
  exact ⟨c, μ₂, ι₂, ρ₂, e, g.trans g', r⟩
theorem SXPost.of {α : Type} {ι : List Addr} {s s₁ : Shared} {sc : Sc} {rest : List Sc} {o : Out α} {f : α → MH → Out (Fl × Rho)} {e : Value} (p : XPost C ι s (sc :: rest) o e s₁) : SXPost C ι s sc rest (o.bind f) e s₁ := by
  obtain ⟨c, μ₂, ι₂, e, g', r⟩ := p
  exact ⟨c, μ₂, ι₂, sc.ρ, by rw [e]; rfl, g', r⟩
theorem SXPost.bind {ι : List Addr} {s s₁ : Shared} {sc : Sc} {rest : List Sc} {o : Out (Fl × Rho)} {f : Fl × Rho → MH → Out (Fl × Rho)} {e : Value} (p : SXPost C ι s sc rest o e s₁) : SXPost C ι s sc rest (o.bind f) e s₁ := by
  obtain ⟨c, μ₂, ι₂, ρ₂, e, g', r⟩ := p
  exact ⟨c, μ₂, ι₂, ρ₂, by rw [e]; rfl, g', r⟩

/-- an expression within a statement -/
theorem thenS {A : Around} {s : Shared} {sc : Sc} {rest : List Sc} {ι : List Addr} {μ : MH} {e : Expr} {f : D} {g : MV → MH → Out (Fl × Rho)} {Q : Value → Shared → Prop}
    (he : ESound C q n sg e f) (hs : SgOk sg sc) (hA : AOk q n (sc :: rest) A) (hI : Inv C.h₀ (sc :: rest) ι μ s.heap) (hne : (f sc.ρ μ).bind g ≠ .stuck)
    (k : ∀ v μ₁ ι₁ x s₁, f sc.ρ μ = .ok v μ₁ → Go C ι s (sc :: rest) ι₁ μ₁ s₁ → Rel C.h₀ ι₁ s₁.heap v x → g v μ₁ ≠ .stuck → Q x s₁) :
    wpAny (model C.prog C.w) A (eval e sc.env) Q (SXPost C ι s sc rest ((f sc.ρ μ).bind g)) s := by
  refine wpAny_mono (he A s sc rest ι μ hs hA hI (bind_ne hne)) (fun x s₁ p => ?_) fun x s₁ p => .of p
  obtain ⟨v, μ₁, ι₁, e1, g1, r1⟩ := p
  refine k v μ₁ ι₁ x s₁ e1 g1 r1 fun e2 => hne ?_
  rw [e1]; exact e2

noncomputable def dSkip : DS := fun ρ μ => .ok (.next, ρ) μ
noncomputable def dSeq (f g : DS) : DS := fun ρ μ => (f ρ μ).bind fun r μ => match r.1 with | .next => g r.2 μ | _ => .ok r μ
theorem ss_nil : SSound C q n sg [] dSkip := fun A s sc rest ι μ hs hA hI hne => wpAny_execs_nil ⟨.next, sc.ρ, μ, ι, rfl, .next, Go.refl hI⟩
theorem ss_cons {st : Stmt} {b : List Stmt} {f g : DS} (h1 : S1Sound C q n sg st f) (h2 : SSound C q n sg b g) : SSound C q n sg (st :: b) (dSeq f g) := fun A s sc rest ι μ hs hA hI hne => by
  refine wpAny_execs_cons (wpAny_mono (h1 A s sc rest ι μ hs hA hI (bind_ne hne)) (fun fl s₁ p => ?_) fun _ _ p => p.bind)
  obtain ⟨F, ρ', μ₁, ι₁, e, r, g1⟩ := p
  cases r with
  | next =>
    have E : dSeq f g sc.ρ μ = g ρ' μ₁ := by unfold dSeq; first | (rw [e]; done) | (rw [e]; rfl)
    rw [E] at hne ⊢
    exact wpAny_mono (h2 A s₁ (sc.at ρ') rest ι₁ μ₁ (hs.at _) (hA.at _) g1.inv hne) (fun _ _ p => p.after g1) fun _ _ p => p.after g1
  | brk => exact ⟨.brk, ρ', μ₁, ι₁, by unfold dSeq; first | (rw [e]; done) | (rw [e]; rfl), .brk, g1⟩
  | ret r => exact ⟨.ret _, ρ', μ₁, ι₁, by unfold dSeq; first | (rw [e]; done) | (rw [e]; rfl), .ret r, g1⟩

/-! return, break, pass -/
noncomputable def dRet (f : D) : DS := fun ρ μ => (f ρ μ).bind fun v μ => .ok (.ret v, ρ) μ
theorem s_ret {e : Expr} {pos : Pos} {f : D} (he : ESound C q n sg e f) : S1Sound C q n sg (.Return (some e) pos) (dRet f) := fun A s sc rest ι μ hs hA hI hne =>
  wpAny_Return_some (thenS he hs hA hI hne fun v μ₁ ι₁ x s₁ e1 g1 r1 hne1 => ⟨.ret v, sc.ρ, μ₁, ι₁, by unfold dRet; first | (rw [e1]; done) | (rw [e1]; rfl), .ret r1, g1⟩)
noncomputable def dRetNone : DS := fun ρ μ => .ok (.ret .none, ρ) μ
theorem s_retNone {pos : Pos} : S1Sound C q n sg (.Return none pos) dRetNone := fun A s sc rest ι μ hs hA hI hne =>
  wpAny_Return_none ⟨.ret .none, sc.ρ, μ, ι, rfl, .ret .none, Go.refl hI⟩
/-! an expression alone -/
noncomputable def dExpr (f : D) : DS := fun ρ μ => (f ρ μ).bind fun _ μ => .ok (.next, ρ) μ
theorem s_expr {e : Expr} {pos : Pos} {f : D} (he : ESound C q n sg e f) (hsw : ∀ env, swapsWith e none pos.line env = pure false) : S1Sound C q n sg (.Expr e pos) (dExpr f) := fun A s sc rest ι μ hs hA hI hne => by
  refine wpAny_Expr_any (thenS he hs hA hI hne fun v μ₁ ι₁ x s₁ e1 g1 r1 hne1 => ?_) (by unfold interactive; rw [hs.kind]; rfl) (hsw _)
  exact ⟨.next, sc.ρ, μ₁, ι₁, by unfold dExpr; first | (rw [e1]; done) | (rw [e1]; rfl), .next, g1⟩

/-! a name is bound -/
theorem store_ {A : Around} {s s₁ : Shared} {sc : Sc} {rest : List Sc} {ι ι₁ : List Addr} {μ₁ : MH} {x : Str} {i : Nat} {v : MV} {cv : Value} {E : Value → Shared → Prop} {Q : Unit → Shared → Prop} (hs : SgOk sg sc) (V : VarsOk sg.vars) (hx : (x, i) ∈ sg.vars)
    (hk : sg.names.lookup x = some .local ∨ (sg.names.lookup x = some .cell ∧ sg.fr = true)) (g : Go C ι s (sc :: rest) ι₁ μ₁ s₁) (r : Rel C.h₀ ι₁ s₁.heap v cv)
    (k : ∀ s₂, Go C ι s (sc.at (sc.ρ.set i v) :: rest) ι₁ μ₁ s₂ → (Keep s₁.heap s₂.heap) → Q () s₂) : wpAny (model C.prog C.w) A (storeName sc.env x cv) Q E s₁ := by
  have V' : VarsOk sc.vars := by rw [hs.vars]; exact V
  have hx' : (x, i) ∈ sc.vars := by rw [hs.vars]; exact hx
  obtain ⟨hh, tk, e⟩ := g.sh
  rcases hk with hk | ⟨hk, hfr⟩
  · have hk' := (hs.kindOf x).trans hk
    obtain ⟨m, hm, _⟩ := (g.inv.sc sc List.mem_cons_self).loc
    refine wpAny_storeName_local hk' hm (fun h' hn hsb => ?_) (by rw [hs.kind]; rfl)
    obtain ⟨I, K⟩ := g.inv.setLocal V' hx' hk' hm hn hsb r
    exact k _ ⟨⟨h', s₁.toks + 1, by rw [e]⟩, g.pre, I, g.keep.trans K⟩ K
  · have hk' := (hs.kindOf x).trans hk
    obtain ⟨c, ov, hc, hcell, _⟩ := (g.inv.sc sc List.mem_cons_self).cel x i hx' hk'
    refine wpAny_storeName_cell hs.kind hk' hc hcell fun h' hn hsb => ?_
    obtain ⟨I, K⟩ := g.inv.setCell V' (hs.fr.trans hfr) (hs.cap (hs.fr.trans hfr)) hx' hk' hc hcell hn hsb r
    exact k _ ⟨⟨h', s₁.toks, by rw [e]⟩, g.pre, I, g.keep.trans K⟩ K

noncomputable def dAssign (i : Nat) (f : D) : DS := fun ρ μ => (f ρ μ).bind fun v μ => .ok (.next, ρ.set i v) μ
theorem s_assign {x : Str} {i : Nat} {e : Expr} {p pos : Pos} {f : D} (he : ESound C q n sg e f) (V : VarsOk sg.vars) (hx : (x, i) ∈ sg.vars)
    (hk : sg.names.lookup x = some .local ∨ (sg.names.lookup x = some .cell ∧ sg.fr = true)) (hsw : ∀ env : Env, env.scope.names = sg.names → env.scope.kind = .function → swapsWith e (some (.Name x p)) pos.line env = pure false) :
    S1Sound C q n sg (.Assign [.Name x p] e pos) (dAssign i f) := fun A s sc rest ι μ hs hA hI hne => by
  refine wpAny_Assign_Name (thenS he hs hA hI hne fun v μ₁ ι₁ y s₁ e1 g1 r1 hne1 => store_ hs V hx hk g1 r1 fun s₂ g2 _ => ?_) (hsw _ hs.names hs.kind)
  exact ⟨.next, sc.ρ.set i v, μ₁, ι₁, by unfold dAssign; first | (rw [e1]; done) | (rw [e1]; rfl), .next, g2⟩

/-! an item is stored: value first, then the list, then the place -/
noncomputable def dSetItem (fv fo fi : D) : DS := fun ρ μ => (fv ρ μ).bind fun v μ => (fo ρ μ).bind fun o μ => (fi ρ μ).bind fun i μ => match o, i with
  | .lst k, .int j => match μ[k]? with
    | some xs => if 0 ≤ j ∧ j < 2 ^ 62 ∧ j < xs.length then .ok (.next, ρ) (μ.set k (xs.set j.toNat v)) else .stuck
    | none => .stuck
  | _, _ => .stuck
theorem setItem_L {A : Around} {E : Value → Shared → Prop} {s : Shared} {a : Addr} {vs : List Value} {m : Nat} {k : Int} {t : Tok} {v : Value} {Q : Unit → Shared → Prop} (hl : IsL s.heap a vs.toArray m)
    (h0 : 0 ≤ k) (hfit : k < 2 ^ 63) (hn : k < vs.length) (hQ : ∀ m', IsL (s.heap.update a (Obj.mapSeq (·.setIfInBounds k.toNat v))) a (vs.set k.toNat v).toArray m' → Q () { s with heap := s.heap.update a (Obj.mapSeq (·.setIfInBounds k.toNat v)) }) :
    wpAny (model C.prog C.w) A (setItem (.ref a) (.int k t) v) Q E s := by
  have hT : s.TypeIs (.ref a) "list" := ⟨_, hl, rfl⟩
  obtain ⟨m', hl'⟩ := IsL.upd hl (·.setIfInBounds k.toNat v) (vs.set k.toNat v) (by simp)
  have hq := hQ m' hl'
  unfold setItem
  try with_reducible refine wpAny_holding ?_
  first | refine wpAny_bind (wpAny_pure ?_) | skip
  refine wpAny_bind (wpAny_sequenceKey hT (by decide) ?_)
  refine wpAny_bind (wpAny_callSpecial?_slot (name := Str.ofString "__setitem__") hT slot_list_setitem
    (wpAny_call_entry slot_list_setitem hT entry_list_setitem ?_ (args_list_setitem _ _ _)))
  show wpAny _ _ (Builtin.List.listSubscript? (.int k t) >>= _) _ _ s
  refine wpAny_bind (wpAny_listSubscript_int (fitsIndex_of h0 hfit) ?_)
  clear hfit
  obtain ⟨j, rfl⟩ := Int.eq_ofNat_of_zero_le h0
  have hj : j < vs.length := by omega
  have hx' : vs.toArray[j]? = some vs[j] := by simp [hj]
  show wpAny _ _ ((seqItemAt a j >>= fun r => pure (r.map (j, ·))) >>= _) _ _ s
  refine wpAny_bind (wpAny_bind (wpAny_seqItemAt hl rfl (wpAny_pure ?_)))
  rw [hx']
  show wpAny _ _ (setSeqItemAt a j v >>= _) _ _ s
  refine wpAny_bind (wpAny_setSeqItemAt hl rfl ?_)
  first
    | exact wpAny_bind (wpAny_pure (wpAny_pure ⟨.none, rfl, wpAny_pure hq⟩))
    | exact wpAny_pure ⟨.none, rfl, wpAny_pure hq⟩

theorem s_setitem {e o i : Expr} {p pos : Pos} {fv fo fi : D} (he : ESound C q n sg e fv) (ho : ESound C q n sg o fo) (hi : ESound C q n sg i fi)
    (hsw : ∀ env, swapsWith e (some (.Subscript o i p)) pos.line env = pure false) : S1Sound C q n sg (.Assign [.Subscript o i p] e pos) (dSetItem fv fo fi) := fun A s sc rest ι μ hs hA hI hne => by
  refine wpAny_Assign_Subscript (thenS he hs hA hI hne fun v μ₁ ι₁ x s₁ e1 g1 r1 hne1 => ?_) (hsw _)
  have E1 : dSetItem fv fo fi sc.ρ μ = (fo sc.ρ μ₁).bind fun o μ => (fi sc.ρ μ).bind fun i μ => match o, i with
    | .lst k, .int j => match μ[k]? with
      | some xs => if 0 ≤ j ∧ j < 2 ^ 62 ∧ j < xs.length then .ok (.next, sc.ρ) (μ.set k (xs.set j.toNat v)) else .stuck
      | none => .stuck
    | _, _ => .stuck := by unfold dSetItem; first | (rw [e1]; done) | (rw [e1]; rfl)
  rw [E1]
  have hX : ∀ {α : Type} {o : Out (Fl × Rho)} {e : Value} {s₂ : Shared}, SXPost C ι₁ s₁ sc rest o e s₂ → SXPost C ι s sc rest o e s₂ := fun {α o e s₂} p => SXPost.after (sc := sc) (ρ' := sc.ρ) g1 p
  refine wpAny_mono (thenS ho hs hA g1.inv hne1 (Q := fun ov s₂ => wpAny (model C.prog C.w) A (eval i sc.env) (fun iv s₃ => wpAny (model C.prog C.w) A (setItem ov iv x) (fun _ => SPost C ι s sc rest ((fo sc.ρ μ₁).bind fun o μ => (fi sc.ρ μ).bind fun i μ => match o, i with
    | .lst k, .int j => match μ[k]? with
      | some xs => if 0 ≤ j ∧ j < 2 ^ 62 ∧ j < xs.length then .ok (.next, sc.ρ) (μ.set k (xs.set j.toNat v)) else .stuck
      | none => .stuck
    | _, _ => .stuck) .next) (SXPost C ι s sc rest ((fo sc.ρ μ₁).bind fun o μ => (fi sc.ρ μ).bind fun i μ => match o, i with
    | .lst k, .int j => match μ[k]? with
      | some xs => if 0 ≤ j ∧ j < 2 ^ 62 ∧ j < xs.length then .ok (.next, sc.ρ) (μ.set k (xs.set j.toNat v)) else .stuck
      | none => .stuck
    | _, _ => .stuck)) s₃) (SXPost C ι s sc rest ((fo sc.ρ μ₁).bind fun o μ => (fi sc.ρ μ).bind fun i μ => match o, i with
    | .lst k, .int j => match μ[k]? with
      | some xs => if 0 ≤ j ∧ j < 2 ^ 62 ∧ j < xs.length then .ok (.next, sc.ρ) (μ.set k (xs.set j.toNat v)) else .stuck
      | none => .stuck
    | _, _ => .stuck)) s₂) fun ov μ₂ ι₂ y s₂ e2 g2 r2 hne2 => ?_) (fun _ _ p => p) fun e s₂ p => hX (α := Unit) p
  have E2 : ((fo sc.ρ μ₁).bind fun o μ => (fi sc.ρ μ).bind fun i μ => match o, i with
    | .lst k, .int j => match μ[k]? with
      | some xs => if 0 ≤ j ∧ j < 2 ^ 62 ∧ j < xs.length then .ok (.next, sc.ρ) (μ.set k (xs.set j.toNat v)) else .stuck
      | none => .stuck
    | _, _ => .stuck) = (fi sc.ρ μ₂).bind fun i μ => match ov, i with
    | .lst k, .int j => match μ[k]? with
      | some xs => if 0 ≤ j ∧ j < 2 ^ 62 ∧ j < xs.length then .ok (.next, sc.ρ) (μ.set k (xs.set j.toNat v)) else .stuck
      | none => .stuck
    | _, _ => (.stuck : Out (Fl × Rho)) := by simp only [e2, Out.bind_ok]
  rw [E2]
  have g12 := g1.trans g2
  refine wpAny_mono (thenS hi hs hA g2.inv hne2 (Q := fun iv s₃ => wpAny (model C.prog C.w) A (setItem y iv x) (fun _ => SPost C ι s sc rest ((fi sc.ρ μ₂).bind fun i μ => match ov, i with
    | .lst k, .int j => match μ[k]? with
      | some xs => if 0 ≤ j ∧ j < 2 ^ 62 ∧ j < xs.length then .ok (.next, sc.ρ) (μ.set k (xs.set j.toNat v)) else .stuck
      | none => .stuck
    | _, _ => .stuck) .next) (SXPost C ι s sc rest ((fi sc.ρ μ₂).bind fun i μ => match ov, i with
    | .lst k, .int j => match μ[k]? with
      | some xs => if 0 ≤ j ∧ j < 2 ^ 62 ∧ j < xs.length then .ok (.next, sc.ρ) (μ.set k (xs.set j.toNat v)) else .stuck
      | none => .stuck
    | _, _ => .stuck)) s₃) fun iv μ₃ ι₃ z s₃ e3 g3 r3 hne3 => ?_) (fun _ _ p => p) fun e s₃ p => SXPost.after (sc := sc) (ρ' := sc.ρ) g12 p
  have g123 := g12.trans g3
  simp only [e3, Out.bind_ok] at hne3 ⊢
  have r2' := r2.mono g3.pre g3.keep
  cases iv with
  | int j =>
    obtain ⟨t⟩ := r3.int_inv
    cases ov with
    | lst k =>
      obtain ⟨a, hk⟩ := r2'.lst_inv
      cases ek : μ₃[k]? with
      | none => simp only [ek] at hne3; exact absurd rfl hne3
      | some xs =>
        simp only [ek] at hne3 ⊢
        by_cases hc : 0 ≤ j ∧ j < 2 ^ 62 ∧ j < xs.length
        · rw [if_pos hc]
          obtain ⟨a', vs, m, p1, p2, p3⟩ := g3.inv.hp.at_ k xs ek
          rw [hk] at p1; cases p1
          have hlen := p3.length
          refine setItem_L p2 hc.1 (by omega) (by rw [hlen]; exact hc.2.2) fun m' hl' => ?_
          have rv := r1.mono (g2.trans g3).pre (g2.trans g3).keep
          have g4 := g123.upd (f := (·.setIfInBounds j.toNat x)) (us := vs.set j.toNat x) (ys := xs.set j.toNat v) hk p2 (by simp) (p3.set j.toNat rv)
          exact ⟨.next, sc.ρ, _, ι₃, rfl, .next, g4⟩
        · rw [if_neg hc] at hne3; exact absurd rfl hne3
    | _ => exact absurd rfl hne3
  | _ => cases ov <;> exact absurd rfl hne3

/-! if -/
noncomputable def dIfS (t : D) (a b : DS) : DS := fun ρ μ => (t ρ μ).bind fun v μ => match v with | .bool true => a ρ μ | .bool false => b ρ μ | _ => .stuck
theorem s_if {t : Expr} {a b : List Stmt} {pos : Pos} {ft : D} {fa fb : DS} (ht : TSound C q n sg t ft) (ha : SSound C q n sg a fa) (hb : SSound C q n sg b fb) : S1Sound C q n sg (.If t a b pos) (dIfS ft fa fb) := fun A s sc rest ι μ hs hA hI hne => by
  have hne1 : ft sc.ρ μ ≠ .stuck := bind_ne hne
  refine wpAny_If (wpAny_mono (ht A s sc rest ι μ hs hA hI hne1 fun v μ' e => ?_) (fun c s₁ p => ?_) fun x s₁ p => .of p)
  · cases v with
    | bool b => exact ⟨b, rfl⟩
    | _ => exact absurd (by unfold dIfS; first | (rw [e]; done) | (rw [e]; rfl)) hne
  · obtain ⟨μ₁, ι₁, e1, g1⟩ := p
    cases c with
    | true =>
      have E : dIfS ft fa fb sc.ρ μ = fa sc.ρ μ₁ := by unfold dIfS; first | (rw [e1]; done) | (rw [e1]; rfl)
      rw [E] at hne ⊢
      exact wpAny_mono (ha A s₁ sc rest ι₁ μ₁ hs hA g1.inv hne) (fun _ _ p => SPost.after (sc := sc) (ρ' := sc.ρ) g1 p) fun _ _ p => SXPost.after (sc := sc) (ρ' := sc.ρ) g1 p
    | false =>
      have E : dIfS ft fa fb sc.ρ μ = fb sc.ρ μ₁ := by unfold dIfS; first | (rw [e1]; done) | (rw [e1]; rfl)
      rw [E] at hne ⊢
      exact wpAny_mono (hb A s₁ sc rest ι₁ μ₁ hs hA g1.inv hne) (fun _ _ p => SPost.after (sc := sc) (ρ' := sc.ρ) g1 p) fun _ _ p => SXPost.after (sc := sc) (ρ' := sc.ρ) g1 p
end
end Mine

set_option linter.unusedVariables false
namespace Mine
open PySem

section
variable {C : Cx} {q : Bool} {n : Nat} {sg : Sg}

/-- what a raise's notes leave of the state: the frames' slots and some records turn -/
theorem Inv.noted {h₀ h h' : Heap} {fs : List Sc} {ι : List Addr} {μ : MH} (I : Inv h₀ fs ι μ h) (H : List Addr) (hn : ∀ b ∈ H, h₀.get? b = none) (hk : ∀ b o, h.get? b = some o → b ∉ H → h'.get? b = some o)
    (hH : ∀ b ∈ H, ∀ o, h.get? b = some o → (∃ es m, o.data = .dict es m ∧ ∃ o', h'.get? b = some o' ∧ o'.data = o.data) ∨ (¬ Frozen o ∧ (∃ vs, o.data = .fields vs) ∧ ∃ o' vs', h'.get? b = some o' ∧ o'.cls = o.cls ∧ o'.dict = o.dict ∧ o'.data = .fields vs')) :
    Inv h₀ fs ι μ h' ∧ Keep h h' := by
  have hns : ∀ a m, h.Ns a m → h'.Ns a m := fun a m hm => by
    obtain ⟨o, es, ep, ho, hd, r⟩ := hm
    by_cases ha : a ∈ H
    · rcases hH a ha o ho with ⟨es', m', hd', o', ho', hd''⟩ | ⟨_, ⟨vs, hv⟩, _⟩
      · exact ⟨o', es, ep, ho', hd''.trans hd, r⟩
      · rw [hd] at hv; cases hv
    · exact ⟨o, es, ep, hk a o ho ha, hd, r⟩
  have hce : ∀ c v, h.IsCell c v → h'.IsCell c v := fun c v hc => by
    obtain ⟨o, ho, hd⟩ := hc
    refine ⟨o, hk c o ho fun ha => ?_, hd⟩
    rcases hH c ha o ho with ⟨_, _, hd', _⟩ | ⟨_, ⟨vs, hv⟩, _⟩
    · rw [hd] at hd'; cases hd'
    · rw [hd] at hv; cases hv
  have K : Keep h h' := by
    refine ⟨fun a o e f => hk a o e fun ha => ?_, fun a o e f => ?_⟩
    · rcases hH a ha o e with ⟨_, _, hd', _⟩ | ⟨hf, _⟩
      · exact (not_frozen_dict hd').1 f
      · exact hf f
    · by_cases ha : a ∈ H
      · rcases hH a ha o e with ⟨_, _, hd', _⟩ | ⟨_, _, o', vs', h1, h2, h2', h3⟩
        · exact absurd f (not_frozen_dict hd').2
        · exact ⟨o', h1, h2, h2', vs', h3⟩
      · exact ⟨o, hk a o e ha, rfl, rfl, f.2⟩
  refine ⟨⟨⟨fun b o e => hk b o (I.hp.base b o e) fun hb => (by rw [hn b hb] at e; cases e), I.hp.len, I.hp.nd, I.hp.new, fun k xs hk' => ?_⟩, fun g hg => ?_, I.ap, I.nw⟩, K⟩
  · obtain ⟨a, vs, m, e1, e2, e3⟩ := I.hp.at_ k xs hk'
    refine ⟨a, vs, m, e1, hk a _ e2 fun ha => ?_, e3.keep K⟩
    rcases hH a ha _ e2 with ⟨_, _, hd', _⟩ | ⟨_, ⟨vs, hv⟩, _⟩
    · cases hd'
    · cases hv
  · exact (I.sc g hg).mono (List.prefix_refl _) K (fun m hm => hns _ m hm) fun c ov _ hc => hce c ov hc

theorem stk_frame {fs : List Sc} (h : StkOk fs) : ∀ f ∈ fs, f.fr = true → f.env.frame = some f.env.locals := by
  induction fs with
  | nil => intro f hf; exact absurd hf List.not_mem_nil
  | cons g r ih =>
    have h1 := h.1
    have h3 := h.2.2
    intro f hf hfr
    rcases List.mem_cons.mp hf with rfl | hf
    · rw [h1, topL, if_pos hfr]
    · exact ih h3 f hf hfr

/-- the frames on the stack, for the library's rules -/
theorem funFrames {h₀ h : Heap} {ι : List Addr} {μ : MH} : ∀ {fs : List Sc}, (∀ f ∈ fs, ScOk h₀ f ι h ∧ h₀.get? f.env.locals = none) → StkOk fs → h.FunFrames h₀ ((fs.filter (·.fr)).map (·.env))
  | [], _, _ => trivial
  | f :: r, hi, hs => by
    have ih := funFrames (fs := r) (μ := μ) (fun g hg => hi g (List.mem_cons_of_mem _ hg)) hs.2.2
    rw [List.filter_cons]
    split
    · rename_i hfr
      obtain ⟨m, hm, _⟩ := (hi f List.mem_cons_self).1.loc
      exact .cons (by rw [hs.2.1]; decide) (stk_frame hs f List.mem_cons_self hfr) hm (hi f List.mem_cons_self).2 ih
    · exact ih

/-- the frame at hand -/
theorem top_frame : ∀ {fs : List Sc} {L : Addr}, topL fs = some L → ∃ f outer, f ∈ fs ∧ f.fr = true ∧ f.env.locals = L ∧ (fs.filter (·.fr)).map (·.env) = f.env :: outer
  | f :: r, L, h => by
    rw [topL] at h
    split at h
    · rename_i hfr
      cases h
      exact ⟨f, (r.filter (·.fr)).map (·.env), List.mem_cons_self, hfr, rfl, by rw [List.filter_cons, if_pos hfr]; rfl⟩
    · rename_i hfr
      obtain ⟨g, outer, h1, h2, h3, h4⟩ := top_frame h
      exact ⟨g, outer, List.mem_cons_of_mem _ h1, h2, h3, by rw [List.filter_cons, if_neg hfr]; exact h4⟩

theorem noteFrame_env {e : Value} {env env' : Env} (h : env.frame = env'.frame) : noteFrame e env = noteFrame e env' := by
  unfold noteFrame frameOf
  rw [h]

/-- a new entry in the traceback: what it leaves -/
theorem entry_ {M : Model} {A : Around} {E : Value → Shared → Prop} {s : Shared} {base : Heap} {env : Env} {outer : List Env} {L e : Addr} {oe : Obj} {vs : Array Value} {head : Value} {hadNext : Bool} {Q : Unit → Shared → Prop}
    (hfr : A.frames = some (env :: outer)) (hl : s.heap.FunFrames base (env :: outer)) (hf : env.frame = some L)
    (he : s.heap.get? e = some oe) (hd : oe.data = .fields vs) (hsz : 1 < vs.size)
    (h : ∀ h₁ ts, Heap.SlotsOnly ((env :: outer).filterMap (·.frame)) s.heap h₁ → 3 < ts.size → ts[3]? = some (rawInt L) →
      Q () { s with heap := (h₁.push { cls := .type "traceback", dict := none, data := .fields ts }).update e (Obj.mapFields (·.setIfInBounds 1 (Value.ref h₁.objs.size))) }) :
    wpAny M A (do let a ← frameOf env; let pl ← entryPlaceOf L hadNext; let b ← EntryCells.newEntry head a .none (rawInt L) .none pl; setField (.ref e) 1 b) Q E s := by
  have hene : e ∉ (env :: outer).filterMap (·.frame) := fun hm => by
    obtain ⟨_, o, ho, hnf⟩ := hl.mem hm
    rw [he] at ho; injection ho with ho; subst ho; exact hnf vs hd
  refine wpAny_bind (wpAny_frameOf_fun hfr hl hf fun h₁ hs₁ => ?_)
  refine wpAny_bind (wpAny_entryPlaceOf fun pl hpl => ?_)
  unfold EntryCells.newEntry newFields
  refine wpAny_bind (wpAny_newObj_type ?_ (hpl.sizeOk5 _ _ _ _ _))
  have he₁ : h₁.get? e = some oe := (hs₁.2.1 e hene).trans he
  have he₂ := Heap.get?_push_of_some (h := h₁) { cls := .type "traceback", dict := none, data := .fields ([head, .ref L, .none, rawInt L, .none] ++ (if pl.isEmpty then List.replicate 6 Value.none else pl)).toArray } he₁
  refine wpAny_setField he₂ hd hsz (h h₁ _ hs₁ ?_ ?_)
  · simp only [List.size_toArray, List.length_append, List.length_cons, List.length_nil]; omega
  · simp

theorem dict_mapFields (o : Obj) (f : Array Value → Array Value) : (Obj.mapFields f o).dict = o.dict := by
  obtain ⟨c, d, dt, sl⟩ := o
  cases dt <;> rfl

/-- an exception on its way with a traceback whose head stands at fl -/
structure FlyT (C : Cx) (c : Str) (e : Value) (fl : Value) (h : Heap) : Prop where
  it : ∃ a oe vs T oT ts, e = .ref a ∧ C.h₀.get? a = none ∧ h.get? a = some oe ∧ (∃ k, ClsAt C.h₀ c k ∧ oe.cls = .ref k) ∧ oe.dict = none ∧ oe.data = .fields vs ∧ VsOk c vs ∧
    vs[1]? = some (.ref T) ∧ C.h₀.get? T = none ∧ T ≠ a ∧ h.get? T = some oT ∧ oT.cls = .type "traceback" ∧ oT.data = .fields ts ∧ ts[3]? = some fl
theorem FlyT.fly {c : Str} {e fl : Value} {h : Heap} (x : FlyT C c e fl h) : Fly C c e h := by
  obtain ⟨a, oe, vs, T, oT, ts, h1, h2, h3, h4, h4', h5, h6, h7, h8, h9, h10, h11, h12, h13⟩ := x.it
  exact ⟨a, oe, vs, h1, h2, h3, h4, h4', h5, h6, .inr ⟨T, oT, ts, h7, h8, h9, h10, h11, h12, (Array.getElem?_eq_some_iff.mp h13).1⟩⟩

theorem exc_not_frozen {o : Obj} {c : Addr} (h : o.cls = .ref c) : ¬ Frozen o := by
  rintro (⟨e, _⟩ | ⟨n, e, _⟩) <;> (rw [h] at e; cases e)
theorem tb_not_frozen {o : Obj} {ts : Array Value} (h : o.cls = .type "traceback") (hd : o.data = .fields ts) : ¬ Frozen o := by
  rintro (⟨e, _⟩ | ⟨n, e, h1, _⟩)
  · rw [h] at e; injection e with e; exact absurd e (by decide)
  · rw [h] at e; injection e with e; exact h1 e.symm

/-- the flight's place is written -/
theorem flight_ {A : Around} {E : Value → Shared → Prop} {s : Shared} {fs : List Sc} {ι : List Addr} {μ : MH} {c : Str} {e fl : Value} {fr : Option Addr} {Q : Unit → Shared → Prop} (hI : Inv C.h₀ fs ι μ s.heap) (hx : FlyT C c e fl s.heap)
    (k : ∀ s₁, Go C ι s fs ι μ s₁ → FlyT C c e (fr.elim .none fun f => rawInt f) s₁.heap → Q () s₁) : wpAny (model C.prog C.w) A (setFlight e fr) Q E s := by
  obtain ⟨a, oe, vs, T, oT, ts, rfl, h2, h3, h4, h4', h5, h6, h7, h8, h9, h10, h11, h12, h13⟩ := hx.it
  unfold setFlight
  refine wpAny_bind (wpAny_field h3 h5 h7 ?_)
  rw [if_pos (show (Value.ref T != Value.none) = true from by simp)]
  have h3s := (Array.getElem?_eq_some_iff.mp h13).1
  refine wpAny_setField h10 h12 h3s ?_
  have other : ∀ b, b ≠ T → (s.heap.update T (Obj.mapFields (·.setIfInBounds 3 (fr.elim Value.none fun f => rawInt f)))).get? b = s.heap.get? b := fun b hb => Heap.get?_update_other _ _ (Ne.symm hb)
  have hd' := Obj.data_mapFields h12 (·.setIfInBounds 3 (fr.elim Value.none fun f => rawInt f))
  have hT' := Heap.get?_update_self (Obj.mapFields (·.setIfInBounds 3 (fr.elim Value.none fun f => rawInt f))) h10 (Obj.isFreed_of_fields hd')
  obtain ⟨I, K⟩ := hI.noted (h' := s.heap.update T (Obj.mapFields (·.setIfInBounds 3 (fr.elim Value.none fun f => rawInt f)))) [T] (fun b hb => by rw [List.mem_singleton.mp hb]; exact h8)
    (fun b o hb hne => (other b fun q => hne (by rw [q]; exact List.mem_singleton.mpr rfl)).trans hb) fun b hb o ho => by
      rw [List.mem_singleton.mp hb] at ho ⊢
      rw [h10] at ho; cases ho
      exact .inr ⟨tb_not_frozen h11 h12, ⟨_, h12⟩, _, _, hT', Obj.cls_mapFields _ _, dict_mapFields _ _, hd'⟩
  exact k _ ⟨⟨_, _, rfl⟩, List.prefix_refl _, I, K⟩ ⟨a, oe, vs, T, _, _, rfl, h2, (other a (Ne.symm h9)).trans h3, h4, h4', h5, h6, h7, h8, h9, hT', (Obj.cls_mapFields _ _).trans h11, hd', by simp [h3s]⟩

/-- the frame at hand is noted -/
theorem note_ {A : Around} {E : Value → Shared → Prop} {s : Shared} {sc : Sc} {rest : List Sc} {ι : List Addr} {μ : MH} {c : Str} {e : Value} {L : Addr} {Q : Unit → Shared → Prop} (hfr : A.frames = some (((sc :: rest).filter (·.fr)).map (·.env))) (hstk : StkOk (sc :: rest))
    (hL : topL (sc :: rest) = some L) (hI : Inv C.h₀ (sc :: rest) ι μ s.heap) (hx : Fly C c e s.heap)
    (k : ∀ s₁, Go C ι s (sc :: rest) ι μ s₁ → FlyT C c e (rawInt L) s₁.heap → Q () s₁) : wpAny (model C.prog C.w) A (noteFrame e sc.env) Q E s := by
  obtain ⟨a, oe, vs, rfl, x2, x3, ⟨kc, xk, x4⟩, x4', x5, x6, x7⟩ := hx.it
  obtain ⟨f, outer, f1, f2, f3, f4⟩ := top_frame hL
  have hff := stk_frame hstk f f1 f2
  have hse : sc.env.frame = f.env.frame := by rw [hstk.1, hL, hff, f3]
  have hfL : f.env.frame = some L := by rw [hff, f3]
  rw [noteFrame_env hse]
  rw [f4] at hfr
  have FF : ∀ {h : Heap} {μ' : MH}, Inv C.h₀ (sc :: rest) ι μ' h → h.FunFrames C.h₀ (f.env :: outer) := fun I => by
    have := funFrames (μ := μ) (fs := sc :: rest) (fun g hg => ⟨I.sc g hg, (I.nw g hg).1⟩) hstk
    rwa [f4] at this
  have hsz1 : 1 < vs.size := Nat.lt_trans (by decide) x6.sz
  -- what the new entry leaves
  have fin : ∀ (s₀ : Shared), Go C ι s (sc :: rest) ι μ s₀ → s₀.heap.get? a = some oe → ∀ h₁ ts, Heap.SlotsOnly ((f.env :: outer).filterMap (·.frame)) s₀.heap h₁ → 3 < ts.size → ts[3]? = some (rawInt L) →
      Q () { s₀ with heap := (h₁.push { cls := .type "traceback", dict := none, data := .fields ts }).update a (Obj.mapFields (·.setIfInBounds 1 (Value.ref h₁.objs.size))) } := by
    intro s₀ g₀ ha₀ h₁ ts hso h3 h3'
    have hFF := FF g₀.inv
    have hene : a ∉ (f.env :: outer).filterMap (·.frame) := fun hm => by
      obtain ⟨_, o, ho, hnf⟩ := hFF.mem hm
      rw [ha₀] at ho; injection ho with ho; subst ho; exact hnf vs x5
    have ha₁ : h₁.get? a = some oe := (hso.2.1 a hene).trans ha₀
    have ha₂ := Heap.get?_push_of_some (h := h₁) { cls := .type "traceback", dict := none, data := .fields ts } ha₁
    have hd' := Obj.data_mapFields x5 (·.setIfInBounds 1 (Value.ref h₁.objs.size))
    have ha₃ := Heap.get?_update_self (Obj.mapFields (·.setIfInBounds 1 (Value.ref h₁.objs.size))) ha₂ (Obj.isFreed_of_fields hd')
    have hTa : h₁.objs.size ≠ a := Nat.ne_of_gt (Heap.lt_size ha₁)
    have hT := (Heap.get?_update_other (h₁.push { cls := .type "traceback", dict := none, data := .fields ts }) (Obj.mapFields (·.setIfInBounds 1 (Value.ref h₁.objs.size))) (Ne.symm hTa)).trans (Heap.get?_push_size h₁ rfl)
    have keep : ∀ b o, b ≠ a → h₁.get? b = some o → ((h₁.push { cls := .type "traceback", dict := none, data := .fields ts }).update a (Obj.mapFields (·.setIfInBounds 1 (Value.ref h₁.objs.size)))).get? b = some o := fun b o hb ho => by
      rw [Heap.get?_update_other _ _ (Ne.symm hb)]
      exact Heap.get?_push_of_some _ ho
    have hT0 : C.h₀.get? h₁.objs.size = none := by rw [hso.1]; exact g₀.inv.hp.base.fresh
    obtain ⟨I, K⟩ := g₀.inv.noted (h' := (h₁.push { cls := .type "traceback", dict := none, data := .fields ts }).update a (Obj.mapFields (·.setIfInBounds 1 (Value.ref h₁.objs.size)))) (a :: (f.env :: outer).filterMap (·.frame)) (fun b hb => by
        rcases List.mem_cons.mp hb with rfl | hb
        · exact x2
        · exact (hFF.mem hb).1)
      (fun b o hb hne => keep b o (fun q => hne (by rw [q]; exact List.mem_cons_self)) ((hso.2.1 b fun hm => hne (List.mem_cons_of_mem _ hm)).trans hb)) fun b hb o ho => by
        rcases List.mem_cons.mp hb with rfl | hb
        · rw [ha₀] at ho; cases ho
          exact .inr ⟨exc_not_frozen x4, ⟨_, x5⟩, _, _, ha₃, Obj.cls_mapFields _ _, dict_mapFields _ _, hd'⟩
        · obtain ⟨env', he', hfe⟩ := List.mem_filterMap.mp hb
          rw [← f4] at he'
          obtain ⟨g, hg, rfl⟩ := List.mem_map.mp he'
          obtain ⟨hg1, hg2⟩ := List.mem_filter.mp hg
          have hgl : g.env.locals = b := by
            have := stk_frame hstk g hg1 hg2
            rw [hfe] at this; exact (Option.some.inj this).symm
          obtain ⟨m, hm, _⟩ := (g₀.inv.sc g hg1).loc
          obtain ⟨o', es, ep, ho', hd'', _⟩ := hm
          rw [hgl, ho] at ho'; cases ho'
          obtain ⟨sl, hsl⟩ := hso.2.2 b o ho
          have hba : b ≠ a := fun q => hene (q ▸ hb)
          exact .inl ⟨es, ep, hd'', _, keep b _ hba hsl, rfl⟩
    obtain ⟨hh, tk, e0⟩ := g₀.sh
    refine k _ ⟨⟨_, tk, by rw [e0]⟩, g₀.pre, I, g₀.keep.trans K⟩ ⟨a, _, _, h₁.objs.size, _, ts, rfl, x2, ha₃, ⟨kc, xk, (Obj.cls_mapFields _ _).trans x4⟩, (dict_mapFields _ _).trans x4', hd', ⟨by simpa using x6.sz, fun hp => by rw [Array.getElem?_setIfInBounds_ne (by decide)]; exact x6.cx hp⟩, by simp [hsz1], hT0, hTa, hT, rfl, rfl, h3'⟩
  rcases x7 with x7 | ⟨T, oT, ts, t1, t2, t3, t4, t5, t6, t7⟩
  · unfold noteFrame
    simp only [hfL]
    refine wpAny_bind (wpAny_field x3 x5 x7 ?_)
    rw [if_neg (by decide)]
    exact entry_ hfr (FF hI) hfL x3 x5 hsz1 (fin s (Go.refl hI) x3)
  · unfold noteFrame
    simp only [hfL]
    refine wpAny_bind (wpAny_field x3 x5 t1 ?_)
    rw [if_pos (show (Value.ref T != Value.none) = true from by simp)]
    have ht3 : ts[3]? = some ts[3] := Array.getElem?_eq_getElem t7
    refine wpAny_bind (wpAny_field t4 t6 ht3 ?_)
    by_cases hq : (ts[3] == rawInt L) = true
    · rw [if_pos hq]
      have hq' : ts[3] = rawInt L := eq_of_beq hq
      refine wpAny_pure (k s (Go.refl hI) ⟨a, oe, vs, T, oT, ts, rfl, x2, x3, ⟨kc, xk, x4⟩, x4', x5, x6, t1, t2, t3, t4, t5, t6, by rw [ht3, hq']⟩)
    · rw [if_neg hq]
      refine wpAny_bind (wpAny_setField t4 t6 t7 ?_)
      have other : ∀ b, b ≠ T → (s.heap.update T (Obj.mapFields (·.setIfInBounds 3 Value.none))).get? b = s.heap.get? b := fun b hb => Heap.get?_update_other _ _ (Ne.symm hb)
      have hd' := Obj.data_mapFields t6 (·.setIfInBounds 3 Value.none)
      have hT' := Heap.get?_update_self (Obj.mapFields (·.setIfInBounds 3 Value.none)) t4 (Obj.isFreed_of_fields hd')
      obtain ⟨I, K⟩ := hI.noted (h' := s.heap.update T (Obj.mapFields (·.setIfInBounds 3 Value.none))) [T] (fun b hb => by rw [List.mem_singleton.mp hb]; exact t2)
        (fun b o hb hne => (other b fun q => hne (by rw [q]; exact List.mem_singleton.mpr rfl)).trans hb) fun b hb o ho => by
          rw [List.mem_singleton.mp hb] at ho ⊢
          rw [t4] at ho; cases ho
          exact .inr ⟨tb_not_frozen t5 t6, ⟨_, t6⟩, _, _, hT', Obj.cls_mapFields _ _, dict_mapFields _ _, hd'⟩
      have g₀ : Go C ι s (sc :: rest) ι μ { s with heap := s.heap.update T (Obj.mapFields (·.setIfInBounds 3 Value.none)) } := ⟨⟨_, _, rfl⟩, List.prefix_refl _, I, K⟩
      have ha₀ : (s.heap.update T (Obj.mapFields (·.setIfInBounds 3 Value.none))).get? a = some oe := (other a (Ne.symm t3)).trans x3
      exact entry_ hfr (FF I) hfL ha₀ x5 hsz1 (fin _ g₀ ha₀)

/-- the exception leaves the frame -/
theorem leaving_ {A : Around} {E : Value → Shared → Prop} {s : Shared} {sc : Sc} {rest : List Sc} {ι : List Addr} {μ : MH} {c : Str} {e : Value} {L : Addr} {Q : Unit → Shared → Prop} (hfr : A.frames = some (((sc :: rest).filter (·.fr)).map (·.env))) (hstk : StkOk (sc :: rest))
    (hL : topL (sc :: rest) = some L) (hI : Inv C.h₀ (sc :: rest) ι μ s.heap) (hx : Fly C c e s.heap)
    (k : ∀ s₁, Go C ι s (sc :: rest) ι μ s₁ → FlyT C c e .none s₁.heap → Q () s₁) : wpAny (model C.prog C.w) A (leaving sc.env e) Q E s := by
  unfold leaving
  refine wpAny_bind (note_ hfr hstk hL hI hx fun s₁ g1 f1 => ?_)
  exact flight_ g1.inv f1 fun s₂ g2 f2 => k s₂ (g1.trans g2) f2
end
end Mine

set_option linter.unusedVariables false
namespace Mine
open PySem

/-- a def of the text, as the walk needs it -/
structure FnOk (C : Cx) (a : Addr) (fd : FuncData) (body : List Stmt) (ps : List Str) (sg : Sg) : Prop where
  ob : ∃ o, C.h₀.get? a = some o ∧ o.data = .func fd
  code : C.h₀.CodeRec fd.code fd.qualname
  body : fd.body = .stmts body
  clo : fd.closure = []
  names : fd.scope.names = sg.names
  fr : sg.fr = true
  gl : fd.globals = mainGlobals
  bl : fd.builtins = builtinsNs
  co : fd.scope.isCoroutine = false
  gen : fd.scope.isGenerator = false
  kind : fd.scope.kind = .function
  bind : ∀ vals : List Value, vals.length = ps.length → bindArgs fd ⟨vals, []⟩ = pure (ps.zip vals)
  V : VarsOk sg.vars
  par : ∀ (j : Nat) (x : Str), ps[j]? = some x → (x, j) ∈ sg.vars
  cln : ((cellsFrom 0 sg.names []).map (·.1)).Nodup
  cells : ∀ x i, (x, i) ∈ sg.vars → sg.names.lookup x = some .local ∨ (sg.names.lookup x = some .cell ∧ ∀ k, ((cellsFrom k sg.names []).lookup x).isSome = true)

noncomputable def dDef (k : Nat) (f : DS) : List MV → MH → Out MV := fun args μ =>
  if args.length = k then (f (fun i => args[i]?) μ).bind fun r μ => .ok (match r.1 with | .ret v => v | _ => .none) μ else .stuck

theorem bindL_skip (kindOf : Str → Option NameKind) (x : Str) : ∀ (l : List (Str × Value)) (m : Str → Option Value), (∀ p ∈ l, p.1 ≠ x) → bindL kindOf l m x = m x
  | [], m, _ => rfl
  | (y, v) :: r, m, h => by
    unfold bindL
    rw [bindL_skip kindOf x r _ fun p hp => h p (List.mem_cons_of_mem _ hp)]
    have hy : y ≠ x := h (y, v) List.mem_cons_self
    split
    · simp [Ne.symm hy]
    · rfl
theorem bindL_zip (kindOf : Str → Option NameKind) {x : Str} {v : Value} (hk : kindOf x = some .local) : ∀ (ps : List Str) (vals : List Value) (m : Str → Option Value) (j : Nat), ps.Nodup → ps[j]? = some x → vals[j]? = some v → bindL kindOf (ps.zip vals) m x = some v
  | [], _, _, _, _, h, _ => by simp at h
  | _ :: _, [], _, _, _, _, h => by simp at h
  | p :: ps, w :: vals, m, 0, hn, h1, h2 => by
    simp at h1 h2; subst h1 h2
    rw [List.zip_cons_cons]
    unfold bindL
    rw [bindL_skip, if_pos hk]
    · simp
    · rintro ⟨y, u⟩ hp rfl
      exact (List.nodup_cons.mp hn).1 (List.of_mem_zip hp).1
  | p :: ps, w :: vals, m, j + 1, hn, h1, h2 => by
    rw [List.zip_cons_cons]
    unfold bindL
    exact bindL_zip kindOf hk ps vals _ j (List.nodup_cons.mp hn).2 (by simpa using h1) (by simpa using h2)
theorem bindC_skip (kindOf : Str → Option NameKind) (x : Str) : ∀ (l : List (Str × Value)) (m : Str → Option Value), (∀ p ∈ l, p.1 ≠ x) → bindC kindOf l m x = m x
  | [], m, _ => rfl
  | (y, v) :: r, m, h => by
    unfold bindC
    rw [bindC_skip kindOf x r _ fun p hp => h p (List.mem_cons_of_mem _ hp)]
    have hy : y ≠ x := h (y, v) List.mem_cons_self
    split
    · rfl
    · simp [Ne.symm hy]
theorem bindC_zip (kindOf : Str → Option NameKind) {x : Str} {v : Value} (hk : kindOf x ≠ some .local) : ∀ (ps : List Str) (vals : List Value) (m : Str → Option Value) (j : Nat), ps.Nodup → ps[j]? = some x → vals[j]? = some v → bindC kindOf (ps.zip vals) m x = some v
  | [], _, _, _, _, h, _ => by simp at h
  | _ :: _, [], _, _, _, _, h => by simp at h
  | p :: ps, w :: vals, m, 0, hn, h1, h2 => by
    simp at h1 h2; subst h1 h2
    rw [List.zip_cons_cons]
    unfold bindC
    rw [bindC_skip, if_neg hk]
    · simp
    · rintro ⟨y, u⟩ hp rfl
      exact (List.nodup_cons.mp hn).1 (List.of_mem_zip hp).1
  | p :: ps, w :: vals, m, j + 1, hn, h1, h2 => by
    rw [List.zip_cons_cons]
    unfold bindC
    exact bindC_zip kindOf hk ps vals _ j (List.nodup_cons.mp hn).2 (by simpa using h1) (by simpa using h2)

theorem cf_names : ∀ (names : List (Str × NameKind)) (k k' : Nat) (acc acc' : List (Str × Addr)), acc.map (·.1) = acc'.map (·.1) → (cellsFrom k names acc).map (·.1) = (cellsFrom k' names acc').map (·.1)
  | [], _, _, _, _, h => h
  | (x, kd) :: r, k, k', acc, acc', h => by
    unfold cellsFrom
    split
    · exact cf_names r _ _ _ _ (by simp [h])
    · exact cf_names r _ _ _ _ h
theorem lookup_nodup {α : Type} : ∀ {l : List (Str × α)} {x : Str} {c : α}, (l.map (·.1)).Nodup → (x, c) ∈ l → l.lookup x = some c
  | (y, d) :: r, x, c, hn, hm => by
    rw [List.map_cons, List.nodup_cons] at hn
    rcases List.mem_cons.mp hm with e | hm
    · cases e; simp
    · have hxy : x ≠ y := fun e => hn.1 (e ▸ List.mem_map.mpr ⟨_, hm, rfl⟩)
      rw [List.lookup_cons, beq_eq_false_iff_ne.mpr hxy]
      exact lookup_nodup hn.2 hm
theorem nodup_of_idx {l : List Str} (h : ∀ (i j : Nat) (x : Str), l[i]? = some x → l[j]? = some x → i = j) : l.Nodup := by
  induction l with
  | nil => exact List.nodup_nil
  | cons y r ih =>
    refine List.nodup_cons.mpr ⟨fun hm => ?_, ih fun i j x h1 h2 => by have := h (i + 1) (j + 1) x (by simpa using h1) (by simpa using h2); omega⟩
    obtain ⟨i, hi, e⟩ := List.mem_iff_getElem.mp hm
    have := h 0 (i + 1) y (by simp) (by simp [List.getElem?_eq_getElem hi, e])
    omega

section
variable {C : Cx} {q : Bool} {n : Nat} {sg : Sg}

theorem Inv.drop {h₀ h : Heap} {f : Sc} {fs : List Sc} {ι : List Addr} {μ : MH} (I : Inv h₀ (f :: fs) ι μ h) : Inv h₀ fs ι μ h :=
  ⟨I.hp, fun g hg => I.sc g (List.mem_cons_of_mem _ hg), (List.pairwise_cons.mp I.ap).2, fun g hg => I.nw g (List.mem_cons_of_mem _ hg)⟩

theorem sc_lt {h₀ h : Heap} {f : Sc} {ι : List Addr} (S : ScOk h₀ f ι h) : f.env.locals < h.objs.size := let ⟨_, hm, _⟩ := S.loc; hm.lt

/-- the state of a call just entered -/
theorem enter_ {a : Addr} {fd : FuncData} {body : List Stmt} {ps : List Str} (K : FnOk C a fd body ps sg) {s s₁ : Shared} {fs : List Sc} {ι : List Addr} {μ : MH} {args : List MV} {vals : List Value} (hI : Inv C.h₀ fs ι μ s.heap) (hr : RelAll C.h₀ ι s.heap args vals) (hl : vals.length = ps.length)
    (X : InCallC s (callEnvC fd s.heap.objs.size a).locals (bindL (callEnvC fd s.heap.objs.size a).kindOf (ps.zip vals) fun _ => none) (callEnvC fd s.heap.objs.size a).cells (bindC (callEnvC fd s.heap.objs.size a).kindOf (ps.zip vals) fun _ => none) s₁) :
    Go C ι s (⟨callEnvC fd s.heap.objs.size a, sg.vars, fun i => args[i]?, true⟩ :: fs) ι μ s₁ ∧ SgOk sg ⟨callEnvC fd s.heap.objs.size a, sg.vars, fun i => args[i]?, true⟩ := by
  have hps : ps.Nodup := by
    exact nodup_of_idx fun i j x h1 h2 => (K.V _ _ _ _ (K.par i x h1) (K.par j x h2)).mp rfl
  have hkeep := X.toInCall.keep
  have hk : Keep s.heap s₁.heap := Keep.of_ext hkeep
  have hlen := hr.length
  have hname : ∀ x i, (x, i) ∈ sg.vars → ∀ v, args[i]? = some v → ps[i]? = some x := fun x i hx v hv => by
    have hi : i < ps.length := by rw [← hl, hlen]; exact (List.getElem?_eq_some_iff.mp hv).1
    have e1 := List.getElem?_eq_getElem hi
    have := (K.V _ _ _ _ hx (K.par i _ e1)).mpr rfl
    rw [e1, this]
  refine ⟨⟨X.toInCall.same, List.prefix_refl _, ⟨(hI.ext hkeep).hp, ?_, ?_, ?_⟩, hk⟩, ⟨K.names, K.kind, rfl, K.fr.symm, K.gl, K.bl, fun _ => X.apart⟩⟩
  · intro g hg
    rcases List.mem_cons.mp hg with rfl | hg
    · refine ⟨⟨_, X.toInCall.ns, fun x i v hx hkd hv => ?_⟩, fun x i hx hkd => ?_, fun c hc => ?_⟩
      · have hp := hname x i hx v hv
        obtain ⟨cv, e1, r1⟩ := hr.get hv
        exact ⟨cv, bindL_zip _ hkd ps vals _ i hps hp e1, r1.keep hk⟩
      · have hkd' : sg.names.lookup x = some .cell := by rw [← K.names]; exact hkd
        rcases K.cells x i hx with hc | ⟨_, hc⟩
        · rw [hc] at hkd'; cases hkd'
        · obtain ⟨c, hc⟩ := Option.isSome_iff_exists.mp (hc (s.heap.objs.size + 1))
          have hc' : (callEnvC fd s.heap.objs.size a).cells.lookup x = some c := by
            show (cellsFrom (s.heap.objs.size + 1) fd.scope.names []).lookup x = some c
            rw [K.names]; exact hc
          refine ⟨c, _, hc', X.cell x c hc', fun v hv => ?_⟩
          have hp := hname x i hx v hv
          obtain ⟨cv, e1, r1⟩ := hr.get hv
          refine ⟨cv, bindC_zip _ (fun e => ?_) ps vals _ i hps hp e1, r1.keep hk⟩
          have e' : fd.scope.names.lookup x = some .local := e
          rw [K.names, hkd'] at e'; cases e'
      · obtain ⟨⟨x, c'⟩, hm, rfl⟩ := List.mem_map.mp hc
        refine ⟨_, X.cell x c' (lookup_nodup ?_ hm)⟩
        show ((cellsFrom (s.heap.objs.size + 1) fd.scope.names []).map (·.1)).Nodup
        rw [K.names, cf_names sg.names _ 0 [] [] rfl]
        exact K.cln
    · exact (hI.ext hkeep).sc g hg
  · refine List.pairwise_cons.mpr ⟨fun g hg => ⟨?_, fun _ c hc hcg => ?_⟩, hI.ap⟩
    · exact Nat.ne_of_gt (sc_lt (hI.sc g hg))
    · obtain ⟨⟨x, c'⟩, hm, rfl⟩ := List.mem_map.mp hc
      have h1 := X.above x c' hm
      obtain ⟨ov, hov⟩ := (hI.sc g hg).all c' hcg
      have h2 : c' < s.heap.objs.size := hov.lt
      have h3 : s.heap.objs.size < c' := h1
      exact absurd h2 (Nat.lt_asymm h3)
  · intro g hg
    rcases List.mem_cons.mp hg with rfl | hg
    · refine ⟨hI.hp.base.fresh, fun c hc => ?_⟩
      obtain ⟨⟨x, c'⟩, hm, rfl⟩ := List.mem_map.mp hc
      have h1 : s.heap.objs.size < c' := X.above x c' hm
      cases hq : C.h₀.get? c' with
      | none => rfl
      | some o => exact absurd (Heap.lt_size (hI.hp.base c' o hq)) (Nat.lt_asymm h1)
    · exact hI.nw g hg

theorem Go.drop {ι ι₁ : List Addr} {s s₁ : Shared} {f : Sc} {fs : List Sc} {μ₁ : MH} (g : Go C ι s (f :: fs) ι₁ μ₁ s₁) : Go C ι s fs ι₁ μ₁ s₁ := ⟨g.sh, g.pre, g.inv.drop, g.keep⟩

/-- a def does what its body does -/
theorem def_sound (CO : CxOk C) {a : Addr} {fd : FuncData} {body : List Stmt} {ps : List Str} {f : DS} (K : FnOk C a fd body ps sg) (hb : SSound C q n sg body f) : OpL C q (n + 1) (fun vs => call (.ref a) vs) (dDef ps.length f) := fun A s fs ι μ args vals hA hI hr hne => by
  by_cases hl : args.length = ps.length
  · have hl' : vals.length = ps.length := by rw [hr.length, hl]
    have E : dDef ps.length f args μ = (f (fun i => args[i]?) μ).bind fun r μ => .ok (match r.1 with | .ret v => v | _ => .none) μ := by simp [dDef, hl]
    rw [E] at hne ⊢
    obtain ⟨o, ho, hdata⟩ := K.ob
    have hd := hA.depth
    refine wpAny_call (codeAny_call_cells (fd := fd) (body := body) (binds := ps.zip vals) (by omega) (hI.hp.base _ _ ho) hdata (CO.lim.keeps hI.hp.base) (K.code.keeps hI.hp.base) K.body (K.bind vals hl') K.clo ?_ (fun s₁ X => ?_) K.co K.gen K.kind)
    · rintro ⟨x, v⟩ hx
      have hxp := (List.of_mem_zip hx).1
      obtain ⟨j, hj, e⟩ := List.mem_iff_getElem.mp hxp
      have hv := K.par j x (by rw [List.getElem?_eq_getElem hj, e])
      rw [K.names]
      exact (K.cells x j hv).imp id fun h => ⟨h.1, h.2 _⟩
    · obtain ⟨g1, hsg⟩ := enter_ K hI hr hl' X
      have hA' : AOk q n (⟨callEnvC fd s.heap.objs.size a, sg.vars, fun i => args[i]?, true⟩ :: fs) (A.deeper (callEnvC fd s.heap.objs.size a)) := by
        refine ⟨?_, ?_, ?_, hA.hand, hA.guards, ⟨rfl, K.kind, hA.stk⟩, .inr rfl⟩
        · show A.frames.map _ = _
          rw [hA.frames]; rfl
        · show A.depth + 1 + n < recursionLimit
          omega
        · show A.units + 3 + 20 * n + 60 < cLine
          have := hA.units
          omega
      refine wpAny_mono (hb _ s₁ ⟨callEnvC fd s.heap.objs.size a, sg.vars, fun i => args[i]?, true⟩ fs ι μ hsg hA' g1.inv (bind_ne hne)) (fun fl s₂ p => ?_) fun e s₂ p => ?_
      · obtain ⟨F, ρ', μ₂, ι₂, e2, r2, g2⟩ := p
        have g3 := (g1.trans g2).drop
        cases r2 with
        | next => exact ⟨.none, μ₂, ι₂, by rw [e2]; rfl, g3, .none⟩
        | brk => exact ⟨.none, μ₂, ι₂, by rw [e2]; rfl, g3, .none⟩
        | ret r => exact ⟨_, μ₂, ι₂, by rw [e2]; rfl, g3, r⟩
      · obtain ⟨c, μ₂, ι₂, ρ', e2, g2, r2⟩ := p
        refine leaving_ (sc := Sc.at ⟨callEnvC fd s.heap.objs.size a, sg.vars, fun i => args[i]?, true⟩ ρ') (rest := fs) (hA'.at ρ').frames (hA'.at ρ').stk rfl g2.inv r2 fun s₃ g4 f4 => ?_
        exact ⟨c, μ₂, ι₂, by rw [e2]; rfl, ((g1.trans g2).trans g4).drop, f4.fly⟩
  · exact absurd (by simp [dDef, hl]) hne

/-! calls -/
noncomputable def dCall (g : List MV → MH → Out MV) (fa : DL) : D := fun ρ μ => (fa ρ μ).bind g

theorem args_ {e : Expr} {es : List Expr} {fa : DL} {g : List MV → MH → Out MV} (hL : LSound C q n sg (e :: es) fa) (hns : NoStar (e :: es)) {A : Around} {s : Shared} {sc : Sc} {rest : List Sc} {ι : List Addr} {μ : MH} {fv : Value} {pos : Pos} {Q : Args → Shared → Prop}
    (hs : SgOk sg sc) (hA : AOk q n (sc :: rest) A) (hI : Inv C.h₀ (sc :: rest) ι μ s.heap) (hne : (fa sc.ρ μ).bind g ≠ .stuck)
    (k : ∀ vs μ₁ ι₁ xs s₁, fa sc.ρ μ = .ok vs μ₁ → Go C ι s (sc :: rest) ι₁ μ₁ s₁ → RelAll C.h₀ ι₁ s₁.heap vs xs → g vs μ₁ ≠ .stuck → xs.length = (e :: es).length → Q ⟨xs, []⟩ s₁) :
    wpAny (model C.prog C.w) A (evalArgs fv true (backTo pos (starEach (e :: es) sc.env)) []) Q (XPost C ι s (sc :: rest) ((fa sc.ρ μ).bind g)) s := by
  rw [backTo_plain hns]
  refine Calls.evalArgs_plain (wpAny_mono (hL A s sc rest ι μ hs hA hI (bind_ne hne)) (fun xs s₁ p => ?_) fun _ _ p => p.bind)
  obtain ⟨hlen, vs, μ₁, ι₁, e1, g1, r1⟩ := p
  refine k vs μ₁ ι₁ xs s₁ e1 g1 r1 (fun e2 => hne ?_) hlen
  rw [e1]; exact e2

/-- a call of a def of the text by its name -/
theorem snd_call (CO : CxOk C) {x : Str} {a : Addr} {o : Obj} {fd : FuncData} {e : Expr} {es : List Expr} {np pos : Pos} {fa : DL} {g : List MV → MH → Out MV} (hg : OpL C q n (fun vs => call (.ref a) vs) g)
    (hk : sg.names.lookup x = some .globalImplicit) (hv : C.mg x = some (.ref a)) (hd : (x == ("__debug__" : Str)) = false) (ho : C.h₀.get? a = some o) (hdata : o.data = .func fd) (hL : LSound C q n sg (e :: es) fa) (hns : NoStar (e :: es)) :
    ESound C q n sg (.Call (.Name x np) (e :: es) [] pos) (dCall g fa) := fun A s sc rest ι μ hs hA hI hne => by
  refine wpAny_Call_NameR (name_glob CO hs hI hk (.inl hv) hd ?_)
  refine Calls.callWith_function (o := o) (fd := fd) (args_ hL hns hs hA hI hne fun vs μ₁ ι₁ xs s₁ e1 g1 r1 hne1 hlen => ⟨⟨g1.inv.hp.base _ _ ho, hdata⟩, ?_⟩)
  have E : dCall g fa sc.ρ μ = g vs μ₁ := by unfold dCall; first | (rw [e1]; done) | (rw [e1]; rfl)
  rw [E]
  exact wpAny_mono (hg A s₁ (sc :: rest) ι₁ μ₁ vs xs hA g1.inv r1 hne1) (fun _ _ p => p.after g1) fun _ _ p => p.after g1

/-- a call of a builtin function -/
theorem snd_callB (CO : CxOk C) {x : Str} {id : String} {e : Expr} {es : List Expr} {np pos : Pos} {fa : DL} {g : List MV → MH → Out MV} (hg : OpL C q n (fun vs => call (.builtin id) vs) g)
    (hk : sg.names.lookup x = some .globalImplicit) (hv : C.mg x = none ∧ C.mb x = some (.builtin id)) (hd : (x == ("__debug__" : Str)) = false) (hL : LSound C q n sg (e :: es) fa) (hns : NoStar (e :: es)) :
    ESound C q n sg (.Call (.Name x np) (e :: es) [] pos) (dCall g fa) := fun A s sc rest ι μ hs hA hI hne => by
  refine wpAny_Call_NameR (name_glob CO hs hI hk (.inr hv) hd ?_)
  refine Calls.callWith_builtin (by rw [backTo_plain hns]; simp) (args_ hL hns hs hA hI hne fun vs μ₁ ι₁ xs s₁ e1 g1 r1 hne1 hlen => ?_)
  have E : dCall g fa sc.ρ μ = g vs μ₁ := by unfold dCall; first | (rw [e1]; done) | (rw [e1]; rfl)
  rw [E]
  exact wpAny_mono (hg A s₁ (sc :: rest) ι₁ μ₁ vs xs hA g1.inv r1 hne1) (fun _ _ p => p.after g1) fun _ _ p => p.after g1
/-- a call of a builtin type -/
theorem snd_callT (CO : CxOk C) {x : Str} {T : String} {e : Expr} {es : List Expr} {np pos : Pos} {fa : DL} {g : List MV → MH → Out MV} (hg : OpL C q n (fun vs => call (.type T) vs) g)
    (hk : sg.names.lookup x = some .globalImplicit) (hv : C.mg x = none ∧ C.mb x = some (.type T)) (hd : (x == ("__debug__" : Str)) = false) (hL : LSound C q n sg (e :: es) fa) (hns : NoStar (e :: es)) :
    ESound C q n sg (.Call (.Name x np) (e :: es) [] pos) (dCall g fa) := fun A s sc rest ι μ hs hA hI hne => by
  refine wpAny_Call_NameR (name_glob CO hs hI hk (.inr hv) hd ?_)
  refine callWith_type (by rw [backTo_plain hns]; simp) (args_ hL hns hs hA hI hne fun vs μ₁ ι₁ xs s₁ e1 g1 r1 hne1 hlen => ?_)
  have E : dCall g fa sc.ρ μ = g vs μ₁ := by unfold dCall; first | (rw [e1]; done) | (rw [e1]; rfl)
  rw [E]
  exact wpAny_mono (hg A s₁ (sc :: rest) ι₁ μ₁ vs xs hA g1.inv r1 hne1) (fun _ _ p => p.after g1) fun _ _ p => p.after g1
end
end Mine

set_option linter.unusedVariables false
namespace Mine
open PySem

section
variable {C : Cx} {q : Bool} {n : Nat} {sg : Sg}

/-! len -/
noncomputable def lenI (k : Nat) (μ : MH) : Out MV := if k < 2 ^ 62 then .ok (.int (k : Int)) μ else .stuck
noncomputable def lenM : List MV → MH → Out MV
  | [.lst k], μ => match μ[k]? with | some xs => lenI xs.length μ | none => .stuck
  | [.tup xs], μ => lenI xs.length μ
  | [.str x], μ => lenI x.length μ
  | [.scr ns], μ => lenI ns.length μ
  | _, _ => .stuck
theorem lenM_lst (k : Nat) (μ : MH) : lenM [.lst k] μ = (match μ[k]? with | some xs => lenI xs.length μ | none => .stuck) := (rfl)
theorem op_len : OpL C q n (fun vs => call (.builtin "len") vs) lenM := fun A s fs ι μ args xs hA hI hr hne => by
  cases args with
  | nil => exact absurd rfl hne
  | cons w l => cases l with
    | cons _ _ => cases w <;> exact absurd rfl hne
    | nil =>
      obtain ⟨x, rfl, r⟩ := hr.one_inv
      cases w with
      | lst k =>
        obtain ⟨a, hk⟩ := r.lst_inv
        cases e1 : μ[k]? with
        | none => exact absurd (by rw [lenM_lst, e1]) hne
        | some ys =>
          by_cases hl : ys.length < 2 ^ 62
          · obtain ⟨a', vs, m, p1, p2, p3⟩ := hI.hp.at_ k ys e1
            rw [hk] at p1; cases p1
            have hlen := p3.length
            have e : lenM [.lst k] μ = .ok (.int ys.length) μ := by rw [lenM_lst, e1]; exact if_pos hl
            rw [e]
            refine Calls.call_len_list p2.isList (by simp [hlen]; omega) ?_
            simp only [List.size_toArray, hlen]
            exact EPost.same hI (.int _ _)
          · exact absurd (by rw [lenM_lst, e1]; exact if_neg hl) hne
      | tup ys =>
        obtain ⟨a, vs, m, ht, rt⟩ := r.tup_inv
        by_cases hl : ys.length < 2 ^ 62
        · have hlen := rt.length
          have e : lenM [.tup ys] μ = .ok (.int ys.length) μ := if_pos hl
          rw [e]
          refine P.len_tuple ht (by simp [hlen]; omega) ?_
          simp only [List.size_toArray, hlen]
          exact EPost.same hI (.int _ _)
        · exact absurd (if_neg hl) hne
      | str x =>
        obtain ⟨t⟩ := r.str_inv
        by_cases hl : x.length < 2 ^ 62
        · have e : lenM [.str x] μ = .ok (.int x.length) μ := if_pos hl
          rw [e]
          exact PyProof.Rows.len_str (by omega) (EPost.same hI (.int _ _))
        · exact absurd (if_neg hl) hne
      | scr ns =>
        obtain ⟨a, vs, m, hl0, hn, hi⟩ := r.scr_inv
        by_cases hl : ns.length < 2 ^ 62
        · have e : lenM [.scr ns] μ = .ok (.int ns.length) μ := if_pos hl
          rw [e]
          refine Calls.call_len_list (IsL.isList (hI.hp.base _ _ hl0)) (by simp [hn]; omega) ?_
          simp only [List.size_toArray, hn]
          exact EPost.same hI (.int _ _)
        · exact absurd (if_neg hl) hne
      | _ => exact absurd rfl hne

/-! isinstance against int, bool, str, list, tuple -/
inductive Ty where
  | int | bool | str | list | tuple
noncomputable def Ty.name : Ty → String
  | .int => "int" | .bool => "bool" | .str => "str" | .list => "list" | .tuple => "tuple"
noncomputable def Ty.has : Ty → MV → Option Bool
  | .int, .int _ | .int, .bool _ | .bool, .bool _ | .str, .str _ | .list, .lst _ | .list, .scr _ | .tuple, .tup _ => some true
  | _, .exc _ => none
  | _, _ => some false
noncomputable def isiM (T : Ty) (v : MV) (μ : MH) : Out MV := match T.has v with | some b => .ok (.bool b) μ | none => .stuck
theorem op_isi (T : Ty) : Op1 C q n (fun x => call (.builtin "isinstance") [x, .type T.name]) (isiM T) := fun A s fs ι μ a x hA hI ra hne => by
  cases a with
  | none => obtain rfl := ra.none_inv; cases T <;> first
    | exact IsiPair.NoneType_int (EPost.same hI (.bool _)) | exact IsiPair.NoneType_bool (EPost.same hI (.bool _)) | exact IsiPair.NoneType_str (EPost.same hI (.bool _)) | exact IsiPair.NoneType_list (EPost.same hI (.bool _)) | exact IsiPair.NoneType_tuple (EPost.same hI (.bool _))
  | bool b => obtain rfl := ra.bool_inv; cases T <;> first
    | exact IsiPair.bool_int (EPost.here hI (.bool _)) | exact IsiPair.bool_bool (EPost.here hI (.bool _)) | exact IsiPair.bool_str (EPost.same hI (.bool _)) | exact IsiPair.bool_list (EPost.same hI (.bool _)) | exact IsiPair.bool_tuple (EPost.same hI (.bool _))
  | int i => obtain ⟨t⟩ := ra.int_inv; cases T <;> first
    | exact IsiPair.int_int (EPost.here hI (.bool _)) | exact IsiPair.int_bool (EPost.same hI (.bool _)) | exact IsiPair.int_str (EPost.same hI (.bool _)) | exact IsiPair.int_list (EPost.same hI (.bool _)) | exact IsiPair.int_tuple (EPost.same hI (.bool _))
  | str i => obtain ⟨t⟩ := ra.str_inv; cases T <;> first
    | exact IsiPair.str_int (EPost.same hI (.bool _)) | exact IsiPair.str_bool (EPost.same hI (.bool _)) | exact IsiPair.str_str (EPost.here hI (.bool _)) | exact IsiPair.str_list (EPost.same hI (.bool _)) | exact IsiPair.str_tuple (EPost.same hI (.bool _))
  | tup ys => obtain ⟨ad, vs, m, ht, rt⟩ := ra.tup_inv; cases T <;> first
    | exact IsiPair.tuple_int ht rfl (EPost.same hI (.bool _)) | exact IsiPair.tuple_bool ht rfl (EPost.same hI (.bool _)) | exact IsiPair.tuple_str ht rfl (EPost.same hI (.bool _)) | exact IsiPair.tuple_list ht rfl (EPost.same hI (.bool _)) | exact IsiPair.tuple_tuple ht rfl (EPost.here hI (.bool _))
  | lst k =>
    obtain ⟨ad, hk⟩ := ra.lst_inv
    have hlt : k < μ.length := by rw [← hI.hp.len]; exact (List.getElem?_eq_some_iff.mp hk).1
    obtain ⟨a', vs, m, p1, p2, p3⟩ := hI.hp.at_ k (μ[k]'hlt) (List.getElem?_eq_getElem hlt)
    rw [hk] at p1; cases p1
    cases T <;> first
    | exact IsiPair.list_int p2 rfl (EPost.same hI (.bool _)) | exact IsiPair.list_bool p2 rfl (EPost.same hI (.bool _)) | exact IsiPair.list_str p2 rfl (EPost.same hI (.bool _)) | exact IsiPair.list_list p2 rfl (EPost.here hI (.bool _)) | exact IsiPair.list_tuple p2 rfl (EPost.same hI (.bool _))
  | scr ns =>
    obtain ⟨ad, vs, m, hl, hn, hi⟩ := ra.scr_inv
    have p2 := hI.hp.base _ _ hl
    cases T <;> first
    | exact IsiPair.list_int p2 rfl (EPost.same hI (.bool _)) | exact IsiPair.list_bool p2 rfl (EPost.same hI (.bool _)) | exact IsiPair.list_str p2 rfl (EPost.same hI (.bool _)) | exact IsiPair.list_list p2 rfl (EPost.here hI (.bool _)) | exact IsiPair.list_tuple p2 rfl (EPost.same hI (.bool _))
  | exc _ => cases T <;> exact absurd rfl hne

noncomputable def dOp1 (g : MV → MH → Out MV) (f : D) : D := fun ρ μ => (f ρ μ).bind g
/-- isinstance(e, T): the type's name stands there -/
theorem snd_isi (CO : CxOk C) (T : Ty) {x t : Str} {e : Expr} {np tp pos : Pos} {f : D} (he : ESound C q n sg e f) (hst : ∀ env, starEach [e, .Name t tp] env = [(false, eval e env), (false, eval (.Name t tp) env)])
    (hk : sg.names.lookup x = some .globalImplicit) (hv : C.mg x = none ∧ C.mb x = some (.builtin "isinstance")) (hd : (x == ("__debug__" : Str)) = false)
    (hk' : sg.names.lookup t = some .globalImplicit) (hv' : C.mg t = none ∧ C.mb t = some (.type T.name)) (hd' : (t == ("__debug__" : Str)) = false) :
    ESound C q n sg (.Call (.Name x np) [e, .Name t tp] [] pos) (dOp1 (isiM T) f) := fun A s sc rest ι μ hs hA hI hne => by
  have hns : NoStar [e, .Name t tp] := hst
  refine wpAny_Call_NameR (name_glob CO hs hI hk (.inr hv) hd ?_)
  refine Calls.callWith_builtin (by rw [backTo_plain hns]; simp) ?_
  rw [backTo_plain hns]
  refine Calls.evalArgs_plain (Calls.spliced_cons (then_ he hs hA hI hne fun v μ₁ ι₁ y s₁ e1 g1 r1 hne1 => ?_))
  refine Calls.spliced_cons (name_glob CO hs g1.inv hk' (.inr hv') hd' (Calls.spliced_nil ?_))
  have E : dOp1 (isiM T) f sc.ρ μ = isiM T v μ₁ := by unfold dOp1; first | (rw [e1]; done) | (rw [e1]; rfl)
  rw [E]
  exact wpAny_mono (op_isi T A s₁ (sc :: rest) ι₁ μ₁ v y hA g1.inv r1 hne1) (fun _ _ p => p.after g1) fun _ _ p => p.after g1

/-! list(xs), tuple(xs), int(b) -/
noncomputable def listM : List MV → MH → Out MV
  | [.lst k], μ => match μ[k]? with | some xs => if xs.length ≤ sizeLine then .ok (.lst μ.length) (μ ++ [xs]) else .stuck | none => .stuck
  | _, _ => .stuck
/-- a new list that was filled on its way -/
theorem Inv.newListAt {h₀ h h' : Heap} {fs : List Sc} {ι : List Addr} {μ : MH} {a : Addr} {m : Nat} (I : Inv h₀ fs ι μ h) (x : ∀ b o, h.get? b = some o → h'.get? b = some o) (hn : h.get? a = none) {xs : List MV} {vs : List Value} (hl : IsL h' a vs.toArray m) (r : RelAll h₀ ι h xs vs) :
    Inv h₀ fs (ι ++ [a]) (μ ++ [xs]) h' := by
  have K := Keep.of_ext x
  have I' := I.ext x
  have hfresh : a ∉ ι := fun hm => by
    obtain ⟨k, hk, e⟩ := List.mem_iff_getElem.mp hm
    have hk' : k < μ.length := by rw [← I.hp.len]; exact hk
    obtain ⟨a', us, n, e1, e2, _⟩ := I.hp.at_ k (μ[k]'hk') (List.getElem?_eq_getElem hk')
    rw [List.getElem?_eq_getElem hk, e] at e1
    cases e1
    rw [IsL, hn] at e2; cases e2
  refine ⟨⟨I'.hp.base, by simp [I.hp.len], ?_, ?_, fun k ys hk => ?_⟩, fun g hg => ?_, I.ap, I.nw⟩
  · refine List.nodup_append.mpr ⟨I.hp.nd, List.nodup_cons.mpr ⟨by simp, List.nodup_nil⟩, fun a' ha b hb => ?_⟩
    rw [List.mem_singleton.mp hb]; rintro rfl; exact hfresh ha
  · intro a' ha
    rcases List.mem_append.mp ha with ha | ha
    · exact I.hp.new a' ha
    · rw [List.mem_singleton.mp ha]
      cases hq : h₀.get? a with
      | none => rfl
      | some o => have := I.hp.base a o hq; rw [hn] at this; cases this
  · by_cases hlt : k < μ.length
    · rw [List.getElem?_append_left hlt] at hk
      obtain ⟨a', us, n, e1, e2, e3⟩ := I.hp.at_ k ys hk
      refine ⟨a', us, n, ?_, x _ _ e2, e3.mono (List.prefix_append ..) K⟩
      rw [List.getElem?_append_left (by rw [I.hp.len]; exact hlt)]; exact e1
    · have hlt' : k = μ.length := by
        have := (List.getElem?_eq_some_iff.mp hk).1
        simp at this; omega
      subst hlt'
      simp at hk; subst hk
      refine ⟨a, vs, m, ?_, hl, r.mono (List.prefix_append ..) K⟩
      rw [← I.hp.len]; simp
  · exact (I.sc g hg).mono (List.prefix_append ..) K (fun m hn => hn.keeps x) fun c ov _ hc => hc.keeps x
theorem listM_lst (k : Nat) (μ : MH) : listM [.lst k] μ = (match μ[k]? with | some xs => if xs.length ≤ sizeLine then .ok (.lst μ.length) (μ ++ [xs]) else .stuck | none => .stuck) := (rfl)
theorem op_list : OpL C q n (fun vs => call (.type "list") vs) listM := fun A s fs ι μ args xs hA hI hr hne => by
  cases args with
  | nil => exact absurd rfl hne
  | cons w l => cases l with
    | cons _ _ => cases w <;> exact absurd rfl hne
    | nil =>
      obtain ⟨x, rfl, r⟩ := hr.one_inv
      cases w with
      | lst k =>
        obtain ⟨a, hk⟩ := r.lst_inv
        cases e1 : μ[k]? with
        | none => exact absurd (by rw [listM_lst, e1]) hne
        | some ys =>
          by_cases hl : ys.length ≤ sizeLine
          · obtain ⟨a', vs, m, p1, p2, p3⟩ := hI.hp.at_ k ys e1
            rw [hk] at p1; cases p1
            have hlen := p3.length
            have e : listM [.lst k] μ = .ok (.lst μ.length) (μ ++ [ys]) := by rw [listM_lst, e1]; exact if_pos hl
            rw [e]
            refine call_list_seq _ (.inl rfl) p2 rfl rfl (fun h' c' hx hl' => ?_) (by simpa [hlen] using hl)
            have hnone : s.heap.get? s.heap.objs.size = none := by
              cases hq : s.heap.get? s.heap.objs.size with
              | none => rfl
              | some o => exact absurd (Heap.lt_size hq) (Nat.lt_irrefl _)
            have I' := hI.newListAt hx hnone hl' p3
            refine ⟨.lst μ.length, _, _, rfl, ⟨⟨_, _, rfl⟩, List.prefix_append .., I', Keep.of_ext hx⟩, .lst ?_⟩
            rw [← hI.hp.len]; simp
          · exact absurd (by rw [listM_lst, e1]; exact if_neg hl) hne
      | _ => exact absurd rfl hne
noncomputable def tupleM : List MV → MH → Out MV
  | [.lst k], μ => match μ[k]? with | some xs => if xs.length ≤ sizeLine then .ok (.tup xs) μ else .stuck | none => .stuck
  | _, _ => .stuck
theorem tupleM_lst (k : Nat) (μ : MH) : tupleM [.lst k] μ = (match μ[k]? with | some xs => if xs.length ≤ sizeLine then .ok (.tup xs) μ else .stuck | none => .stuck) := (rfl)
theorem op_tuple : OpL C q n (fun vs => call (.type "tuple") vs) tupleM := fun A s fs ι μ args xs hA hI hr hne => by
  cases args with
  | nil => exact absurd rfl hne
  | cons w l => cases l with
    | cons _ _ => cases w <;> exact absurd rfl hne
    | nil =>
      obtain ⟨x, rfl, r⟩ := hr.one_inv
      cases w with
      | lst k =>
        obtain ⟨a, hk⟩ := r.lst_inv
        cases e1 : μ[k]? with
        | none => exact absurd (by rw [tupleM_lst, e1]) hne
        | some ys =>
          by_cases hl : ys.length ≤ sizeLine
          · obtain ⟨a', vs, m, p1, p2, p3⟩ := hI.hp.at_ k ys e1
            rw [hk] at p1; cases p1
            have hlen := p3.length
            have e : tupleM [.lst k] μ = .ok (.tup ys) μ := by rw [tupleM_lst, e1]; exact if_pos hl
            rw [e]
            refine call_tuple_list p2.isList (fun h' hx => ?_) (by simpa [hlen] using hl)
            have K := Keep.of_ext hx
            have g1 : Go C ι s fs ι μ { s with heap := h' } := ⟨⟨_, _, rfl⟩, List.prefix_refl _, hI.ext hx, K⟩
            exact (EPost.tuple g1.inv (p3.keep K)).after g1
          · exact absurd (by rw [tupleM_lst, e1]; exact if_neg hl) hne
      | _ => exact absurd rfl hne
noncomputable def intOfM : List MV → MH → Out MV
  | [.bool b], μ => .ok (.int (if b then 1 else 0)) μ
  | _, _ => .stuck
theorem op_intOf : OpL C q n (fun vs => call (.type "int") vs) intOfM := fun A s fs ι μ args xs hA hI hr hne => by
  cases args with
  | nil => exact absurd rfl hne
  | cons w l => cases l with
    | cons _ _ => cases w <;> exact absurd rfl hne
    | nil =>
      obtain ⟨x, rfl, r⟩ := hr.one_inv
      cases w with
      | bool b =>
        obtain rfl := r.bool_inv
        exact call_int_bool (EPost.same hI (.int _ _))
      | _ => exact absurd rfl hne
end
end Mine

set_option linter.unusedVariables false
namespace Mine
open PySem

section
variable {h₀ h h' : Heap} {ι ι' : List Addr}
theorem Rel.monoT (T : ∀ a o, h.get? a = some o → (∃ vs n, o.data = .seq vs n) → h'.get? a = some o) (X : ∀ a o, h.get? a = some o → ExcLike o → h'.get? a = some o) {v : MV} {x : Value} (r : Rel h₀ ι h v x) : Rel h₀ ι h' v x :=
  r.gmono (fun _ _ e => e) (fun _ _ _ ht => T _ _ ht ⟨_, _, rfl⟩) (fun a o C vs e c q d => ⟨o, vs, X _ _ e ⟨⟨_, c⟩, _, d⟩, c, q, d⟩)
theorem RelAll.monoT (T : ∀ a o, h.get? a = some o → (∃ vs n, o.data = .seq vs n) → h'.get? a = some o) (X : ∀ a o, h.get? a = some o → ExcLike o → h'.get? a = some o) {xs : List MV} {vs : List Value} (r : RelAll h₀ ι h xs vs) : RelAll h₀ ι h' xs vs :=
  r.gmono (fun _ _ e => e) (fun _ _ _ ht => T _ _ ht ⟨_, _, rfl⟩) (fun a o C vs e c q d => ⟨o, vs, X _ _ e ⟨⟨_, c⟩, _, d⟩, c, q, d⟩)

/-- the iterators W alone were turned -/
theorem Inv.butW {fs : List Sc} {μ : MH} {W : List Addr} (I : Inv h₀ fs ι μ h) (hW0 : ∀ b ∈ W, h₀.get? b = none) (hWf : ∀ b ∈ W, ∀ o, h.get? b = some o → (∃ n, o.cls = .type n) ∧ ∃ vs, o.data = .fields vs)
    (hk : ∀ b o, b ∉ W → h.get? b = some o → h'.get? b = some o) : Inv h₀ fs ι μ h' := by
  have hd : ∀ b o, h.get? b = some o → (∀ vs, o.data ≠ .fields vs) → h'.get? b = some o := fun b o e hn => hk b o (fun hb => by obtain ⟨_, vs, hv⟩ := hWf b hb o e; exact hn vs hv) e
  have T : ∀ a o, h.get? a = some o → (∃ vs n, o.data = .seq vs n) → h'.get? a = some o := fun a o e ⟨vs, n, hv⟩ => hd a o e fun us q => by rw [hv] at q; cases q
  have X : ∀ a o, h.get? a = some o → ExcLike o → h'.get? a = some o := fun a o e ⟨⟨Cc, hc⟩, _⟩ => hk a o (fun hb => by obtain ⟨⟨n, hn⟩, _⟩ := hWf a hb o e; rw [hc] at hn; cases hn) e
  refine ⟨⟨fun b o e => hk b o (fun hb => by rw [hW0 b hb] at e; cases e) (I.hp.base b o e), I.hp.len, I.hp.nd, I.hp.new, fun k xs hk' => ?_⟩, fun g hg => ?_, I.ap, I.nw⟩
  · obtain ⟨a, vs, m, e1, e2, e3⟩ := I.hp.at_ k xs hk'
    exact ⟨a, vs, m, e1, hd a _ e2 fun us q => by (cases q), e3.monoT T X⟩
  · have S := I.sc g hg
    have hns : ∀ a m, h.Ns a m → h'.Ns a m := fun a m ⟨o, es, ep, ho, hdd, r⟩ => ⟨o, es, ep, hd a o ho (fun us q => by rw [hdd] at q; cases q), hdd, r⟩
    have hce : ∀ c v, h.IsCell c v → h'.IsCell c v := fun c v ⟨o, ho, hdd⟩ => ⟨o, hd c o ho (fun us q => by rw [hdd] at q; cases q), hdd⟩
    obtain ⟨m, h1, h2⟩ := S.loc
    refine ⟨⟨m, hns _ m h1, fun x i v hx hkd hv => ?_⟩, fun x i hx hkd => ?_, fun c hm => let ⟨ov, hc⟩ := S.all c hm; ⟨ov, hce c ov hc⟩⟩
    · obtain ⟨cv, e, r⟩ := h2 x i v hx hkd hv
      exact ⟨cv, e, r.monoT T X⟩
    · obtain ⟨c, ov, e, hcell, r⟩ := S.cel x i hx hkd
      refine ⟨c, ov, e, hce c ov hcell, fun v hv => ?_⟩
      obtain ⟨cv, e', r'⟩ := r v hv
      exact ⟨cv, e', r'.monoT T X⟩
theorem Keep.butW {hs : Heap} {W : List Addr} (K : Keep hs h) (hW : ∀ b ∈ W, hs.get? b = none) (hk : ∀ b o, b ∉ W → h.get? b = some o → h'.get? b = some o) : Keep hs h' := by
  refine ⟨fun a o e f => hk a o (fun hb => by rw [hW a hb] at e; cases e) (K.fro a o e f), fun a o e f => ?_⟩
  obtain ⟨o', e', c', q', d'⟩ := K.exc a o e f
  exact ⟨o', hk a o' (fun hb => by rw [hW a hb] at e; cases e) e', c', q', d'⟩
end

section
variable {C : Cx} {q : Bool} {n : Nat} {sg : Sg}

/-- what a for loop's head does at each turn: the next item, bound to the target -/
structure Stepper (C : Cx) (A : Around) (sg : Sg) (it : Value) (target : Expr) (its : List MV) (put : Rho → MV → Rho) (G : MH → Prop) (hs : Heap) (St : Nat → List Addr → Heap → Prop) : Prop where
  keep : ∀ i ι ι' h h', St i ι h → ι <+: ι' → Keep h h' → St i ι' h'
  self : ∀ (ι : List Addr) (s : Shared) (Q : Value → Shared → Prop) (E : Value → Shared → Prop), St 0 ι s.heap → Q it s → wpAny (model C.prog C.w) A (pyIter it) Q E s
  item : ∀ (i : Nat) (v : MV) (s : Shared) (sc : Sc) (rest : List Sc) (ι : List Addr) (μ : MH) (Q : Shared → Prop) (E₁ E₂ E₃ : Value → Shared → Prop), its[i]? = some v → SgOk sg sc → Inv C.h₀ (sc :: rest) ι μ s.heap → G μ → Keep hs s.heap → St i ι s.heap →
    (∀ s', (∃ h tk, s' = { s with heap := h, toks := tk }) → Inv C.h₀ (sc.at (put sc.ρ v) :: rest) ι μ s'.heap → Keep hs s'.heap → St (i + 1) ι s'.heap → Q s') →
    wpAny (model C.prog C.w) A (pyNext it) (fun r s₁ => match r with
      | none => False
      | some x => wpAny (model C.prog C.w) A (letOwnedTupleGo target it x) (fun _ s₁' => wpAny (model C.prog C.w) A (assign target sc.env x) (fun _ s₂ => Q s₂) E₃ s₁') E₂ s₁) E₁ s
  done : ∀ (s : Shared) (sc : Sc) (rest : List Sc) (ι : List Addr) (μ : MH) (Q : Shared → Prop) (E : Value → Shared → Prop), SgOk sg sc → Inv C.h₀ (sc :: rest) ι μ s.heap → G μ → Keep hs s.heap → St its.length ι s.heap →
    (∀ s', (∃ h tk, s' = { s with heap := h, toks := tk }) → Inv C.h₀ (sc :: rest) ι μ s'.heap → Keep hs s'.heap → Q s') →
    wpAny (model C.prog C.w) A (pyNext it) (fun r s₁ => match r with | none => Q s₁ | some _ => False) E s

open Classical in
noncomputable def loopM (G : MH → Prop) (put : Rho → MV → Rho) (f : DS) : List MV → Rho → MH → Out (Fl × Rho)
  | [], ρ, μ => if G μ then .ok (.next, ρ) μ else .stuck
  | v :: vs, ρ, μ => if G μ then (f (put ρ v) μ).bind fun r μ => match r.1 with
    | .next => loopM G put f vs r.2 μ
    | .brk => .ok (.next, r.2) μ
    | .ret x => .ok (.ret x, r.2) μ else .stuck

theorem loopM_nil (G : MH → Prop) (put : Rho → MV → Rho) (f : DS) (ρ : Rho) (μ : MH) : loopM G put f [] ρ μ = (open Classical in if G μ then .ok (.next, ρ) μ else .stuck) := (rfl)
theorem loopM_cons (G : MH → Prop) (put : Rho → MV → Rho) (f : DS) (v : MV) (vs : List MV) (ρ : Rho) (μ : MH) : loopM G put f (v :: vs) ρ μ = (open Classical in if G μ then (f (put ρ v) μ).bind fun r μ => match r.1 with
    | .next => loopM G put f vs r.2 μ
    | .brk => .ok (.next, r.2) μ
    | .ret x => .ok (.ret x, r.2) μ else .stuck) := (rfl)
/-- between two turns -/
inductive LoopI (C : Cx) (sc : Sc) (rest : List Sc) (ι₀ : List Addr) (s₀ : Shared) (hs : Heap) (St : Nat → List Addr → Heap → Prop) (G : MH → Prop) (put : Rho → MV → Rho) (f : DS) (its : List MV) (o : Out (Fl × Rho)) (m : Nat) (s' : Shared) : Prop
  | mk (i : Nat) (ρ' : Rho) (μ' : MH) (ι' : List Addr) (hm : m = its.length - i) (hi : i ≤ its.length) (sh : ∃ h tk, s' = { s₀ with heap := h, toks := tk }) (pre : ι₀ <+: ι') (inv : Inv C.h₀ (sc.at ρ' :: rest) ι' μ' s'.heap) (keep : Keep hs s'.heap) (st : St i ι' s'.heap) (e : loopM G put f (its.drop i) ρ' μ' = o) : LoopI C sc rest ι₀ s₀ hs St G put f its o m s'

theorem loop_ {A : Around} {s : Shared} {sc : Sc} {rest : List Sc} {ι : List Addr} {μ : MH} {it : Value} {target : Expr} {body : List Stmt} {its : List MV} {put : Rho → MV → Rho} {G : MH → Prop} {hs : Heap} {St : Nat → List Addr → Heap → Prop} {f : DS} {s₀ : Shared} {ι₀ : List Addr} {L : Addr} {o : Out (Fl × Rho)}
    (P : Stepper C A sg it target its put G hs St) (hb : SSound C q n sg body f) (hsg : SgOk sg sc) (hA : AOk q n (sc :: rest) A) (hL : topL (sc :: rest) = some L) (hI : Inv C.h₀ (sc :: rest) ι μ s.heap) (hK : Keep s₀.heap hs) (hK' : Keep hs s.heap) (hst : St 0 ι s.heap) (hpre : ι₀ <+: ι) (hsh : ∃ h tk, s = { s₀ with heap := h, toks := tk })
    (ho : loopM G put f its sc.ρ μ = o) (hne : o ≠ .stuck) :
    codeAny (model C.prog C.w) A (.forLoop target it body [] sc.env) (fun r s' => match r with | .ok fl => SPost C ι₀ s₀ sc rest o fl s' | .error e => cameBackBy (model C.prog C.w) A sc.env (SXPost C ι₀ s₀ sc rest o) e s') s := by
  refine codeAny_forLoop_any (LoopI C sc rest ι₀ s₀ hs St G put f its o) ?_ its.length ⟨0, sc.ρ, μ, ι, by omega, by omega, hsh, hpre, hI, hK', hst, by rw [List.drop_zero]; exact ho⟩
  rintro m s' ⟨i, ρ', μ', ι', rfl, hi, hsh', hpre', hI', hKs, hst', he⟩
  have gone : ∀ s₂ fs ι₂ μ₂, (∃ h tk, s₂ = { s' with heap := h, toks := tk }) → ι' <+: ι₂ → Inv C.h₀ fs ι₂ μ₂ s₂.heap → Keep hs s₂.heap → Go C ι₀ s₀ fs ι₂ μ₂ s₂ := fun s₂ fs ι₂ μ₂ hsh₂ hp₂ hI₂ hK₂ => by
    obtain ⟨h1, t1, rfl⟩ := hsh'
    obtain ⟨h2, t2, rfl⟩ := hsh₂
    exact ⟨⟨h2, t2, rfl⟩, hpre'.trans hp₂, hI₂, hK.trans hK₂⟩
  by_cases hlt : i < its.length
  · have hd : its.drop i = its[i] :: its.drop (i + 1) := List.drop_eq_getElem_cons hlt
    rw [hd, loopM_cons] at he
    by_cases hG : G μ'
    · rw [if_pos hG] at he
      refine wpAny_mono (P.item i its[i] s' (sc.at ρ') rest ι' μ' (fun s₂ => wpAny (model C.prog C.w) A (execs body sc.env) (fun fl s₃ => match fl with
            | .next | .cont => ∃ m', m' < its.length - i ∧ LoopI C sc rest ι₀ s₀ hs St G put f its o m' s₃
            | .brk => SPost C ι₀ s₀ sc rest o .next s₃
            | .ret v => SPost C ι₀ s₀ sc rest o (.ret v) s₃) (notedBy (model C.prog C.w) A sc.env fun e s' => cameBackBy (model C.prog C.w) A sc.env (SXPost C ι₀ s₀ sc rest o) e s') s₂)
          (notedBy (model C.prog C.w) A sc.env fun e s' => cameBackBy (model C.prog C.w) A sc.env (SXPost C ι₀ s₀ sc rest o) e s') (notedBy (model C.prog C.w) A sc.env fun e s' => cameBackBy (model C.prog C.w) A sc.env (SXPost C ι₀ s₀ sc rest o) e s') (notedBy (model C.prog C.w) A sc.env fun e s' => cameBackBy (model C.prog C.w) A sc.env (SXPost C ι₀ s₀ sc rest o) e s')
          (List.getElem?_eq_getElem hlt) (hsg.at _) hI' hG hKs hst' fun s₂ hsh₂ hI₂ hK₂ hst₂ => ?_) (fun r s₁ hr => ?_) fun _ _ x => x
      rotate_left 1
      · cases r with
        | none => exact hr.elim
        | some x => exact wpAny_mono hr (fun _ s₂ hr₂ => wpAny_mono hr₂ (fun _ s₃ hr₃ => wpAny_mono hr₃ (fun fl s₄ hf => by cases fl <;> exact hf) fun _ _ x => x) fun _ _ x => x) fun _ _ x => x
      · have hne2 : f (put ρ' its[i]) μ' ≠ .stuck := fun e2 => hne (by rw [← he]; exact congrArg (fun z : Out (Fl × Rho) => z.bind _) e2)
        refine wpAny_mono (hb A s₂ (sc.at (put ρ' its[i])) rest ι' μ' (hsg.at _) (hA.at _) hI₂ hne2) (fun fl s₃ p => ?_) fun e s₃ p => ?_
        · obtain ⟨F, ρ₃, μ₃, ι₃, e3, r3, g3⟩ := p
          have e3' : f (put ρ' its[i]) μ' = .ok (F, ρ₃) μ₃ := e3
          have hI₃ : Inv C.h₀ (sc.at ρ₃ :: rest) ι₃ μ₃ s₃.heap := g3.inv
          have hsh₃ : ∃ h tk, s₃ = { s' with heap := h, toks := tk } := by
            obtain ⟨h2, t2, rfl⟩ := hsh₂
            obtain ⟨h3, t3, e4⟩ := g3.sh
            exact ⟨h3, t3, e4⟩
          have hK₃ : Keep hs s₃.heap := hK₂.trans g3.keep
          rw [e3', Out.bind_ok] at he
          cases r3 with
          | next =>
            refine ⟨its.length - (i + 1), by omega, i + 1, ρ₃, μ₃, ι₃, rfl, hlt, ?_, hpre'.trans g3.pre, hI₃, hK₃, P.keep _ _ _ _ _ hst₂ g3.pre g3.keep, he⟩
            obtain ⟨h1, t1, rfl⟩ := hsh'
            obtain ⟨h3, t3, rfl⟩ := hsh₃
            exact ⟨h3, t3, rfl⟩
          | brk => exact ⟨.next, ρ₃, μ₃, ι₃, he.symm, .next, gone s₃ _ ι₃ μ₃ hsh₃ g3.pre hI₃ hK₃⟩
          | ret r => exact ⟨.ret _, ρ₃, μ₃, ι₃, he.symm, .ret r, gone s₃ _ ι₃ μ₃ hsh₃ g3.pre hI₃ hK₃⟩
        · obtain ⟨c, μ₃, ι₃, ρ₃, e3, g3, fl3⟩ := p
          have e3' : f (put ρ' its[i]) μ' = .exc c μ₃ := e3
          have hI₃ : Inv C.h₀ (sc.at ρ₃ :: rest) ι₃ μ₃ s₃.heap := g3.inv
          have hsh₃ : ∃ h tk, s₃ = { s' with heap := h, toks := tk } := by
            obtain ⟨h2, t2, rfl⟩ := hsh₂
            obtain ⟨h3, t3, e4⟩ := g3.sh
            exact ⟨h3, t3, e4⟩
          have hK₃ : Keep hs s₃.heap := hK₂.trans g3.keep
          rw [e3', Out.bind_exc] at he
          have g0 := gone s₃ _ ι₃ μ₃ hsh₃ g3.pre hI₃ hK₃
          have hA3 : AOk q n (sc.at ρ₃ :: rest) A := hA.at ρ₃
          have hL3 : topL (sc.at ρ₃ :: rest) = some L := hL
          refine note_ (sc := sc.at ρ₃) (rest := rest) hA3.frames hA3.stk hL3 hI₃ fl3 fun s₄ g4 f4 => ?_
          obtain ⟨a, oe, vs, T, oT, ts, rfl, x2, x3, x4, x4', x5, x6, x7, x8⟩ := f4.it
          unfold cameBackBy
          refine wpAny_bind (wpAny_field x3 x5 x7 ?_)
          rw [if_neg (by simp)]
          refine flight_ g4.inv f4 fun s₅ g5 f5 => ?_
          exact ⟨c, μ₃, ι₃, ρ₃, he.symm, (g0.trans g4).trans g5, f5.fly⟩
    · rw [if_neg hG] at he; exact absurd he.symm hne
  · have hil : i = its.length := by omega
    subst hil
    rw [List.drop_length, loopM_nil] at he
    by_cases hG : G μ'
    · rw [if_pos hG] at he
      refine wpAny_mono (P.done s' (sc.at ρ') rest ι' μ' (fun s₂ => SPost C ι₀ s₀ sc rest o .next s₂) _ (hsg.at _) hI' hG hKs hst' fun s₂ hsh₂ hI₂ hK₂ => ?_) (fun r s₁ hr => ?_) fun _ _ x => x
      rotate_left 1
      · cases r with
        | none => exact wpAny_execs_nil hr
        | some x => exact hr.elim
      · exact ⟨.next, ρ', μ', ι', he.symm, .next, gone s₂ _ ι' μ' hsh₂ (List.prefix_refl _) hI₂ hK₂⟩
    · rw [if_neg hG] at he; exact absurd he.symm hne
end
end Mine

set_option linter.unusedVariables false
namespace Mine
open PySem

section
variable {C : Cx} {q : Bool} {n : Nat} {sg : Sg}

noncomputable def putAt (i : Nat) (ρ : Rho) (v : MV) : Rho := ρ.set i v
/-- the names that a target binds -/
structure NameOk (sg : Sg) (x : Str) (i : Nat) : Prop where
  V : VarsOk sg.vars
  hx : (x, i) ∈ sg.vars
  hk : sg.names.lookup x = some .local ∨ (sg.names.lookup x = some .cell ∧ sg.fr = true)

theorem step_name {A : Around} {s s₁ : Shared} {sc : Sc} {rest : List Sc} {ι : List Addr} {μ : MH} {hs : Heap} {x : Str} {i : Nat} {p : Pos} {v : MV} {cv : Value} {it : Value} {E₂ E₃ : Value → Shared → Prop} {Q : Shared → Prop} (N : NameOk sg x i) (hsg : SgOk sg sc) (hI : Inv C.h₀ (sc :: rest) ι μ s₁.heap) (hK : Keep hs s₁.heap) (r : Rel C.h₀ ι s₁.heap v cv)
    (hsh : ∃ h tk, s₁ = { s with heap := h, toks := tk })
    (k : ∀ s', (∃ h tk, s' = { s with heap := h, toks := tk }) → Inv C.h₀ (sc.at (putAt i sc.ρ v) :: rest) ι μ s'.heap → Keep hs s'.heap → Keep s₁.heap s'.heap → Q s') :
    wpAny (model C.prog C.w) A (letOwnedTupleGo (.Name x p) it cv) (fun _ s₁' => wpAny (model C.prog C.w) A (assign (.Name x p) sc.env cv) (fun _ s₂ => Q s₂) E₃ s₁') E₂ s₁ := by
  refine wpAny_pure (wpAny_assign_Name (store_ hsg N.V N.hx N.hk (Go.refl hI) r fun s₂ g K => ?_))
  refine k s₂ ?_ g.inv (hK.trans K) K
  obtain ⟨h1, t1, rfl⟩ := hsh
  obtain ⟨h2, t2, rfl⟩ := g.sh
  exact ⟨h2, t2, rfl⟩

/-! a list of ours -/
noncomputable def LstSt (I : Addr) (k : Nat) (l : Addr) (i : Nat) (ι : List Addr) (h : Heap) : Prop := ι[k]? = some l ∧ h.IsListIter I l i
theorem frozen_iter {o : Obj} {n : String} {vs : Array Value} (hc : o.cls = .type n) (hd : o.data = .fields vs) (hn : n ≠ "traceback") : Frozen o := .inr ⟨n, hc, hn, vs, hd⟩
theorem stepper_list {A : Around} {x : Str} {i : Nat} {p : Pos} {I : Addr} {k : Nat} {l : Addr} {its : List MV} {hs : Heap} (hh : A.handled = none) (N : NameOk sg x i) (hI0 : C.h₀.get? I = none) (hIs : hs.get? I = none) :
    Stepper C A sg (.ref I) (.Name x p) its (putAt i) (fun μ => μ[k]? = some its) hs (LstSt I k l) where
  keep := fun j ι ι' h h' ⟨h1, o, ho, hc, hd⟩ hp K => ⟨by obtain ⟨t, rfl⟩ := hp; rw [List.getElem?_append_left (List.getElem?_eq_some_iff.mp h1).1]; exact h1, o, K.fro _ _ ho (frozen_iter hc hd (by decide)), hc, hd⟩
  self := fun ι s Q E hst h => wpAny_pyIter_listiter hst.2 h
  item := fun j v s sc rest ι μ Q E₁ E₂ E₃ hv hsg hI hG hK hst kont => by
    obtain ⟨h1, hit⟩ := hst
    obtain ⟨l', vs, m, e1, e2, e3⟩ := hI.hp.at_ k its hG
    rw [h1] at e1; cases e1
    obtain ⟨cv, c1, c2⟩ := e3.get hv
    refine wpAny_pyNext_list_item hit e2.isList (by simpa using c1) fun h' hit' hsb => ?_
    have hW : ∀ b o, b ∉ [I] → s.heap.get? b = some o → h'.get? b = some o := fun b o hb e => (hsb.2 b fun q => hb (by rw [q]; exact List.mem_singleton.mpr rfl)).trans e
    have hI' : Inv C.h₀ (sc :: rest) ι μ h' := hI.butW (W := [I]) (fun b hb => by rw [List.mem_singleton.mp hb]; exact hI0) (fun b hb o ho => by
      rw [List.mem_singleton.mp hb] at ho
      obtain ⟨o', ho', hc', hd'⟩ := hit
      rw [ho'] at ho; cases ho
      exact ⟨⟨_, hc'⟩, _, hd'⟩) hW
    have hK' : Keep hs h' := hK.butW (W := [I]) (fun b hb => by rw [List.mem_singleton.mp hb]; exact hIs) hW
    obtain ⟨l', vs', m', e1', e2', e3'⟩ := hI'.hp.at_ k its hG
    have c2' : Rel C.h₀ ι h' v cv := by
      rw [h1] at e1'; cases e1'
      have hne : l ≠ I := by
        rintro rfl
        obtain ⟨o', ho', hc', hd'⟩ := hit
        rw [e2] at ho'; cases ho'; cases hd'
      have : IsL h' l vs.toArray m := (hsb.2 l hne).trans e2
      rw [IsL, e2'] at this
      cases this
      obtain ⟨cv', c1', c2'⟩ := e3'.get hv
      rw [c1] at c1'; cases c1'
      exact c2'
    exact step_name (s := s) N hsg hI' hK' c2' ⟨_, _, rfl⟩ fun s' hsh hI'' hK'' K => kont s' hsh hI'' hK'' ⟨h1, let ⟨o, ho, hc, hd⟩ := hit'; ⟨o, K.fro _ _ ho (frozen_iter hc hd (by decide)), hc, hd⟩⟩
  done := fun s sc rest ι μ Q E hsg hI hG hK hst kont => by
    obtain ⟨h1, hit⟩ := hst
    obtain ⟨l', vs, m, e1, e2, e3⟩ := hI.hp.at_ k its hG
    rw [h1] at e1; cases e1
    have hlen := e3.length
    refine wpAny_pyNext_list_end hh hit e2.isList (by simp [hlen]) fun h' hsb => ?_
    have hW : ∀ b o, b ∉ [I] → s.heap.get? b = some o → h'.get? b = some o := fun b o hb e => hsb b o (fun q => hb (by rw [q]; exact List.mem_singleton.mpr rfl)) e
    refine kont _ ⟨_, _, rfl⟩ (hI.butW (W := [I]) (fun b hb => by rw [List.mem_singleton.mp hb]; exact hI0) (fun b hb o ho => by
      rw [List.mem_singleton.mp hb] at ho
      obtain ⟨o', ho', hc', hd'⟩ := hit
      rw [ho'] at ho; cases ho
      exact ⟨⟨_, hc'⟩, _, hd'⟩) hW) (hK.butW (W := [I]) (fun b hb => by rw [List.mem_singleton.mp hb]; exact hIs) hW)

/-! a tuple -/
noncomputable def TupSt (C : Cx) (I t : Addr) (vs : List Value) (m : Nat) (its : List MV) (i : Nat) (ι : List Addr) (h : Heap) : Prop := h.IsTupleIter I t i ∧ IsT h t vs.toArray m ∧ RelAll C.h₀ ι h its vs
theorem stepper_tuple {A : Around} {x : Str} {i : Nat} {p : Pos} {I t : Addr} {vs : List Value} {m : Nat} {its : List MV} {hs : Heap} (hh : A.handled = none) (N : NameOk sg x i) (hI0 : C.h₀.get? I = none) (hIs : hs.get? I = none) :
    Stepper C A sg (.ref I) (.Name x p) its (putAt i) (fun _ => True) hs (TupSt C I t vs m its) where
  keep := fun j ι ι' h h' ⟨⟨o, ho, hc, hd⟩, h2, h3⟩ hp K => ⟨⟨o, K.fro _ _ ho (frozen_iter hc hd (by decide)), hc, hd⟩, K.fro _ _ h2 (frozen_tuple ..), h3.mono hp K⟩
  self := fun ι s Q E hst h => wpAny_pyIter_tupleiter hst.1 h
  item := fun j v s sc rest ι μ Q E₁ E₂ E₃ hv hsg hI hG hK hst kont => by
    obtain ⟨hit, ht, hr⟩ := hst
    obtain ⟨cv, c1, c2⟩ := hr.get hv
    refine wpAny_pyNext_tuple_item hit ⟨_, ht, rfl, m, rfl⟩ (by simpa using c1) fun h' hit' hsb => ?_
    have hW : ∀ b o, b ∉ [I] → s.heap.get? b = some o → h'.get? b = some o := fun b o hb e => (hsb.2 b fun q => hb (by rw [q]; exact List.mem_singleton.mpr rfl)).trans e
    have hWf : ∀ b ∈ [I], ∀ o, s.heap.get? b = some o → (∃ n, o.cls = .type n) ∧ ∃ vs, o.data = .fields vs := fun b hb o ho => by
      rw [List.mem_singleton.mp hb] at ho
      obtain ⟨o', ho', hc', hd'⟩ := hit
      rw [ho'] at ho; cases ho
      exact ⟨⟨_, hc'⟩, _, hd'⟩
    have hI' : Inv C.h₀ (sc :: rest) ι μ h' := hI.butW (W := [I]) (fun b hb => by rw [List.mem_singleton.mp hb]; exact hI0) hWf hW
    have hK' : Keep hs h' := hK.butW (W := [I]) (fun b hb => by rw [List.mem_singleton.mp hb]; exact hIs) hW
    have T : ∀ a o, s.heap.get? a = some o → (∃ vs n, o.data = .seq vs n) → h'.get? a = some o := fun a o e ⟨us, n, hu⟩ => hW a o (fun hb => by obtain ⟨_, ws, hw⟩ := hWf a hb o e; rw [hu] at hw; cases hw) e
    have X : ∀ a o, s.heap.get? a = some o → ExcLike o → h'.get? a = some o := fun a o e ⟨⟨Cc, hc⟩, _⟩ => hW a o (fun hb => by obtain ⟨⟨n, hn⟩, _⟩ := hWf a hb o e; rw [hc] at hn; cases hn) e
    exact step_name (s := s) N hsg hI' hK' (c2.monoT T X) ⟨_, _, rfl⟩ fun s' hsh hI'' hK'' K => kont s' hsh hI'' hK'' ⟨let ⟨o, ho, hc, hd⟩ := hit'; ⟨o, K.fro _ _ ho (frozen_iter hc hd (by decide)), hc, hd⟩, K.fro _ _ (T _ _ ht ⟨_, _, rfl⟩) (frozen_tuple ..), (hr.monoT T X).keep K⟩
  done := fun s sc rest ι μ Q E hsg hI hG hK hst kont => by
    obtain ⟨hit, ht, hr⟩ := hst
    have hlen := hr.length
    refine wpAny_pyNext_tuple_end hh hit ⟨_, ht, rfl, m, rfl⟩ (by simp [hlen]) fun h' hsb => ?_
    have hW : ∀ b o, b ∉ [I] → s.heap.get? b = some o → h'.get? b = some o := fun b o hb e => hsb b o (fun q => hb (by rw [q]; exact List.mem_singleton.mpr rfl)) e
    refine kont _ ⟨_, _, rfl⟩ (hI.butW (W := [I]) (fun b hb => by rw [List.mem_singleton.mp hb]; exact hI0) (fun b hb o ho => by
      rw [List.mem_singleton.mp hb] at ho
      obtain ⟨o', ho', hc', hd'⟩ := hit
      rw [ho'] at ho; cases ho
      exact ⟨⟨_, hc'⟩, _, hd'⟩) hW) (hK.butW (W := [I]) (fun b hb => by rw [List.mem_singleton.mp hb]; exact hIs) hW)

/-! a range by ones -/
noncomputable def rangeL (a b : Int) : List MV := (List.range (b - a).toNat).map fun (i : Nat) => .int (a + (i : Int))
theorem rangeL_len (a b : Int) : (rangeL a b).length = (b - a).toNat := by simp [rangeL]
noncomputable def RngSt (I : Addr) (a : Int) (m : Nat) (i : Nat) (ι : List Addr) (h : Heap) : Prop := IsRangeIter h I (a + (i : Int)) ((m : Int) - (i : Int)) 1
theorem stepper_range {A : Around} {x : Str} {i : Nat} {p : Pos} {I : Addr} {a b : Int} {hs : Heap} (hh : A.handled = none) (N : NameOk sg x i) (hI0 : C.h₀.get? I = none) (hIs : hs.get? I = none) :
    Stepper C A sg (.ref I) (.Name x p) (rangeL a b) (putAt i) (fun _ => True) hs (RngSt I a (b - a).toNat) where
  keep := fun j ι ι' h h' h1 hp K => K.fro _ _ h1 (frozen_iter rfl rfl (by decide))
  self := fun ι s Q E hst h => wpAny_pyIter_rangeiter hst h
  item := fun j v s sc rest ι μ Q E₁ E₂ E₃ hv hsg hI hG hK hit kont => by
    have hj : j < (b - a).toNat := by rw [← rangeL_len a b]; exact (List.getElem?_eq_some_iff.mp hv).1
    have ev : v = .int (a + (j : Int)) := by simp [rangeL, hj] at hv; exact hv.symm
    subst ev
    refine wpAny_pyNext_range_item hit (by omega) fun h' hit' hsb => ?_
    have hW : ∀ b o, b ∉ [I] → s.heap.get? b = some o → h'.get? b = some o := fun b o hb e => (hsb.2 b fun q => hb (by rw [q]; exact List.mem_singleton.mpr rfl)).trans e
    have hI' : Inv C.h₀ (sc :: rest) ι μ h' := hI.butW (W := [I]) (fun b hb => by rw [List.mem_singleton.mp hb]; exact hI0) (fun b hb o ho => by
      rw [List.mem_singleton.mp hb] at ho
      rw [RngSt, IsRangeIter] at hit
      rw [hit] at ho; cases ho
      exact ⟨⟨_, rfl⟩, _, rfl⟩) hW
    have hK' : Keep hs h' := hK.butW (W := [I]) (fun b hb => by rw [List.mem_singleton.mp hb]; exact hIs) hW
    have e1 : a + (j : Int) + 1 = a + ((j + 1 : Nat) : Int) := by omega
    have e2 : ((b - a).toNat : Int) - (j : Int) - 1 = ((b - a).toNat : Int) - ((j + 1 : Nat) : Int) := by omega
    rw [e1, e2] at hit'
    exact step_name (s := s) N hsg hI' hK' (.int _ s.toks) ⟨_, _, rfl⟩ fun s' hsh hI'' hK'' K => kont s' hsh hI'' hK'' (K.fro _ _ hit' (frozen_iter rfl rfl (by decide)))
  done := fun s sc rest ι μ Q E hsg hI hG hK hit kont => by
    rw [rangeL_len] at hit
    refine wpAny_pyNext_range_end hh hit (by omega) fun h' hsb => ?_
    have hW : ∀ b o, b ∉ [I] → s.heap.get? b = some o → h'.get? b = some o := fun b o hb e => hsb b o (fun q => hb (by rw [q]; exact List.mem_singleton.mpr rfl)) e
    refine kont _ ⟨_, _, rfl⟩ (hI.butW (W := [I]) (fun b hb => by rw [List.mem_singleton.mp hb]; exact hI0) (fun b hb o ho => by
      rw [List.mem_singleton.mp hb] at ho
      rw [RngSt, IsRangeIter] at hit
      rw [hit] at ho; cases ho
      exact ⟨⟨_, rfl⟩, _, rfl⟩) hW) (hK.butW (W := [I]) (fun b hb => by rw [List.mem_singleton.mp hb]; exact hIs) hW)

/-! enumerate(a list of ours) -/
noncomputable def enumL (xs : List MV) : List MV := xs.zipIdx.map fun p => .tup [.int (p.2 : Int), p.1]
theorem enumL_get {xs : List MV} {j : Nat} {v : MV} (h : (enumL xs)[j]? = some v) : ∃ y, xs[j]? = some y ∧ v = .tup [.int (j : Int), y] := by
  have hj : j < xs.length := by
    have := (List.getElem?_eq_some_iff.mp h).1
    simpa [enumL] using this
  refine ⟨xs[j], List.getElem?_eq_getElem hj, ?_⟩
  simp [enumL, hj] at h
  exact h.symm
noncomputable def putEnum (a b : Nat) (ρ : Rho) (v : MV) : Rho := match v with | .tup [x, y] => (ρ.set a x).set b y | _ => ρ
noncomputable def EnumSt (e it : Addr) (k : Nat) (l : Addr) (i : Nat) (ι : List Addr) (h : Heap) : Prop := ι[k]? = some l ∧ h.IsListIter it l i ∧ ∃ old, IsEnum h e it (i : Int) old
theorem stepper_enum {A : Around} {xi xv : Str} {i j : Nat} {pi pv pt : Pos} {x1 : Nat} {e it : Addr} {k : Nat} {l : Addr} {xs : List MV} {hs : Heap} (hh : A.handled = none) (Ni : NameOk sg xi i) (Nv : NameOk sg xv j) (hne : e ≠ it) (hI0 : C.h₀.get? e = none ∧ C.h₀.get? it = none) (hIs : hs.get? e = none ∧ hs.get? it = none) :
    Stepper C A sg (.ref e) (.Tuple [.Name xi pi, .Name xv pv] x1 pt) (enumL xs) (putEnum i j) (fun μ => μ[k]? = some xs) hs (EnumSt e it k l) where
  keep := fun m ι ι' h h' ⟨h1, ⟨o, ho, hc, hd⟩, old, he⟩ hp K => ⟨by obtain ⟨t, rfl⟩ := hp; rw [List.getElem?_append_left (List.getElem?_eq_some_iff.mp h1).1]; exact h1, ⟨o, K.fro _ _ ho (frozen_iter hc hd (by decide)), hc, hd⟩, old, K.fro _ _ he (frozen_iter rfl rfl (by decide))⟩
  self := fun ι s Q E hst h => wpAny_pyIter_enum hst.2.2.choose_spec h
  item := fun m v s sc rest ι μ Q E₁ E₂ E₃ hv hsg hI hG hK hst kont => by
    obtain ⟨h1, hit, old, he⟩ := hst
    obtain ⟨y, hy, rfl⟩ := enumL_get hv
    obtain ⟨l', vs, mm, e1, e2, e3⟩ := hI.hp.at_ k xs hG
    rw [h1] at e1; cases e1
    obtain ⟨cv, c1, c2⟩ := e3.get hy
    refine wpAny_pyNext_enum_item he hit e2.isList (by simpa using c1) hne fun h₁ heo hit₁ ht₁ hz₁ hk₁ => ?_
    refine wpAny_letOwnedTupleGo_enum heo fun h₂ he₂ hs₂ => ?_
    replace hs₂ : Heap.SameBut e h₁ h₂ := hs₂
    have heH : e < s.heap.objs.size := Heap.lt_size he
    have hiH : it < s.heap.objs.size := let ⟨o, ho, _⟩ := hit; Heap.lt_size ho
    have hTe : s.heap.objs.size ≠ e := Nat.ne_of_gt heH
    have ht₂ : IsT h₂ s.heap.objs.size #[.int m s.toks, cv] 0 := (hs₂.2 _ hTe).trans ht₁
    have hW : ∀ b o, b ∉ [e, it] → s.heap.get? b = some o → h₂.get? b = some o := fun b o hb x => by
      have hbe : b ≠ e := fun q => hb (by rw [q]; exact List.mem_cons_self)
      have hbi : b ≠ it := fun q => hb (by rw [q]; exact List.mem_cons_of_mem _ List.mem_cons_self)
      exact (hs₂.2 b hbe).trans (hk₁ b o hbe hbi x)
    have hWf : ∀ b ∈ [e, it], ∀ o, s.heap.get? b = some o → (∃ n, o.cls = .type n) ∧ ∃ vs, o.data = .fields vs := fun b hb o ho => by
      rcases List.mem_cons.mp hb with rfl | hb
      · rw [IsEnum] at he; rw [he] at ho; cases ho; exact ⟨⟨_, rfl⟩, _, rfl⟩
      · rw [List.mem_singleton.mp hb] at ho
        obtain ⟨o', ho', hc', hd'⟩ := hit
        rw [ho'] at ho; cases ho
        exact ⟨⟨_, hc'⟩, _, hd'⟩
    have hI₂ : Inv C.h₀ (sc :: rest) ι μ h₂ := hI.butW (W := [e, it]) (fun b hb => by
      rcases List.mem_cons.mp hb with rfl | hb
      · exact hI0.1
      · rw [List.mem_singleton.mp hb]; exact hI0.2) hWf hW
    have hK₂ : Keep hs h₂ := hK.butW (W := [e, it]) (fun b hb => by
      rcases List.mem_cons.mp hb with rfl | hb
      · exact hIs.1
      · rw [List.mem_singleton.mp hb]; exact hIs.2) hW
    have T : ∀ a o, s.heap.get? a = some o → (∃ vs n, o.data = .seq vs n) → h₂.get? a = some o := fun a o e ⟨us, n, hu⟩ => hW a o (fun hb => by obtain ⟨_, ws, hw⟩ := hWf a hb o e; rw [hu] at hw; cases hw) e
    have X : ∀ a o, s.heap.get? a = some o → ExcLike o → h₂.get? a = some o := fun a o e ⟨⟨Cc, hc⟩, _⟩ => hW a o (fun hb => by obtain ⟨⟨n, hn⟩, _⟩ := hWf a hb o e; rw [hc] at hn; cases hn) e
    refine wpAny_assign_Tuple hh ⟨_, ht₂, rfl, 0, rfl⟩ rfl rfl fun h₃ hx₃ => ?_
    replace hx₃ : Heap.ExtBut h₂.objs.size h₂ h₃ := hx₃
    have ext₃ : ∀ b o, h₂.get? b = some o → h₃.get? b = some o := fun b o x => hx₃ b o (Nat.ne_of_lt (Heap.lt_size x)) x
    have K₃ : Keep h₂ h₃ := Keep.of_ext ext₃
    show wpAny _ A (do holding [cv] (assign (.Name xi pi) sc.env (.int m s.toks)); do holding [] (assign (.Name xv pv) sc.env cv); pure ()) _ _ _
    have I₃ := hI₂.ext ext₃
    refine wpAny_bind (wpAny_holding (wpAny_assign_Name (store_ (v := .int m) hsg Ni.V Ni.hx Ni.hk (Go.refl (s := { s with heap := h₃, toks := s.toks + 1 }) I₃) (.int _ _) fun s₄ g₄ K₄ => ?_)))
    have hsg' := hsg.at (sc.ρ.set i (.int m))
    have rcv : Rel C.h₀ ι s₄.heap y cv := ((c2.monoT T X).keep K₃).keep K₄
    refine wpAny_bind (wpAny_holding (wpAny_assign_Name (store_ (sc := sc.at (sc.ρ.set i (.int m))) (v := y) hsg' Nv.V Nv.hx Nv.hk (Go.refl g₄.inv) rcv fun s₅ g₅ K₅ => wpAny_pure ?_)))
    have K35 : Keep h₃ s₅.heap := K₄.trans K₅
    have K25 : Keep h₂ s₅.heap := K₃.trans K35
    refine kont s₅ ?_ g₅.inv (hK₂.trans K25) ⟨h1, ?_, cv, ?_⟩
    · obtain ⟨h4, t4, rfl⟩ := g₄.sh
      obtain ⟨h5, t5, rfl⟩ := g₅.sh
      exact ⟨h5, t5, rfl⟩
    · obtain ⟨o, ho, hc, hd⟩ := hit₁
      exact ⟨o, K25.fro _ _ ((hs₂.2 it (Ne.symm hne)).trans ho) (frozen_iter hc hd (by decide)), hc, hd⟩
    · have e9 : ((m + 1 : Nat) : Int) = (m : Int) + 1 := by push_cast; rfl
      rw [e9]
      exact K25.fro _ _ he₂ (frozen_iter rfl rfl (by decide))
  done := fun s sc rest ι μ Q E hsg hI hG hK hst kont => by
    obtain ⟨h1, hit, old, he⟩ := hst
    have hlx : (enumL xs).length = xs.length := by simp [enumL]
    rw [hlx] at hit he
    obtain ⟨l', vs, mm, e1, e2, e3⟩ := hI.hp.at_ k xs hG
    rw [h1] at e1; cases e1
    have hlen := e3.length
    refine wpAny_pyNext_enum_end hh he hit e2.isList (by simp [hlen]) fun h' hsb => ?_
    have hW : ∀ b o, b ∉ [it] → s.heap.get? b = some o → h'.get? b = some o := fun b o hb e => hsb b o (fun q => hb (by rw [q]; exact List.mem_singleton.mpr rfl)) e
    refine kont _ ⟨_, _, rfl⟩ (hI.butW (W := [it]) (fun b hb => by rw [List.mem_singleton.mp hb]; exact hI0.2) (fun b hb o ho => by
      rw [List.mem_singleton.mp hb] at ho
      obtain ⟨o', ho', hc', hd'⟩ := hit
      rw [ho'] at ho; cases ho
      exact ⟨⟨_, hc'⟩, _, hd'⟩) hW) (hK.butW (W := [it]) (fun b hb => by rw [List.mem_singleton.mp hb]; exact hIs.2) hW)

/-! what a loop goes over: made, and its stepper at hand -/
/-- the iterable of a loop: the meaning gives the items and what must stay -/
structure Src where
  its : List MV
  G : MH → Prop
abbrev DI := Rho → MH → Out Src
/-- how the iterable is made and walked -/
noncomputable def ISound (C : Cx) (n : Nat) (sg : Sg) (iter : Expr) (target : Expr) (sg' : Sg) (put : Rho → MV → Rho) (f : DI) : Prop :=
  ∀ (A : Around) (s : Shared) (sc : Sc) (rest : List Sc) (ι : List Addr) (μ : MH) (E : Value → Shared → Prop) (Q : Value → Shared → Prop), SgOk sg sc → AOk true n (sc :: rest) A → Inv C.h₀ (sc :: rest) ι μ s.heap → f sc.ρ μ ≠ .stuck →
    (∀ src μ₁ ι₁ it s₁ hs St, f sc.ρ μ = .ok src μ₁ → Go C ι s (sc :: rest) ι₁ μ₁ s₁ → Keep s.heap hs → Keep hs s₁.heap → St 0 ι₁ s₁.heap → Stepper C A sg' it target src.its put src.G hs St → Q it s₁) →
    (∀ e s₁, XPost C ι s (sc :: rest) (f sc.ρ μ) e s₁ → E e s₁) →
    wpAny (model C.prog C.w) A (eval iter sc.env) (fun x s₁ => wpAny (model C.prog C.w) A (pyIter x) Q E s₁) E s

theorem none_at_size (h : Heap) : h.get? h.objs.size = none := by
  cases hq : h.get? h.objs.size with
  | none => rfl
  | some o => exact absurd (Heap.lt_size hq) (Nat.lt_irrefl _)
theorem none_above {h : Heap} {a : Addr} (ha : h.objs.size ≤ a) : h.get? a = none := by
  cases hq : h.get? a with
  | none => rfl
  | some o => exact absurd (Heap.lt_size hq) (Nat.not_lt.mpr ha)
theorem base_above {h₀ h : Heap} (hb : h₀.StaysIn h) {a : Addr} (ha : h.objs.size ≤ a) : h₀.get? a = none := by
  cases hq : h₀.get? a with
  | none => rfl
  | some o => have := hb a o hq; rw [none_above ha] at this; cases this

/-- a list or a tuple -/
noncomputable def iSeq (f : D) : DI := fun ρ μ => (f ρ μ).bind fun v μ => match v with
  | .lst k => match μ[k]? with | some xs => .ok ⟨xs, fun μ => μ[k]? = some xs⟩ μ | none => .stuck
  | .tup xs => .ok ⟨xs, fun _ => True⟩ μ
  | _ => .stuck
theorem is_seq {sg' : Sg} {iter : Expr} {x : Str} {i : Nat} {p : Pos} {f : D} (he : ESound C true n sg iter f) (N : NameOk sg' x i) : ISound C n sg iter (.Name x p) sg' (putAt i) (iSeq f) := fun A s sc rest ι μ E Q hs hA hI hne kont kx => by
  refine wpAny_mono (then_ he hs hA hI hne (Q := fun x s₁ => wpAny (model C.prog C.w) A (pyIter x) Q E s₁) fun v μ₁ ι₁ x s₁ e1 g1 r1 hne1 => ?_) (fun _ _ p => p) fun e s₁ p => kx e s₁ p
  cases v with
  | lst k =>
    obtain ⟨l, hk⟩ := r1.lst_inv
    cases ek : μ₁[k]? with
    | none => exact absurd (by simp only [ek]) hne1
    | some xs =>
      obtain ⟨l', vs, m, p1, p2, p3⟩ := g1.inv.hp.at_ k xs ek
      rw [hk] at p1; cases p1
      refine wpAny_pyIter_list p2.isList ?_
      have g2 : Go C ι s (sc :: rest) ι₁ μ₁ { s₁ with heap := s₁.heap.push { cls := .type "list_iterator", data := .fields #[.ref l, .int 0 0] } } := by
        obtain ⟨h1, t1, rfl⟩ := g1.sh
        exact ⟨⟨_, _, rfl⟩, g1.pre, g1.inv.push _, g1.keep.trans (Keep.push _ _)⟩
      refine kont ⟨xs, fun μ => μ[k]? = some xs⟩ μ₁ ι₁ _ _ s₁.heap (LstSt s₁.heap.objs.size k l) (by unfold iSeq; rw [e1]; show (match μ₁[k]? with | some xs => Out.ok (Src.mk xs fun μ => μ[k]? = some xs) μ₁ | none => .stuck) = _; rw [ek]) g2 g1.keep (Keep.push _ _) ⟨hk, ⟨_, Heap.get?_push_size _ rfl, rfl, rfl⟩⟩ (stepper_list (hA.hand rfl) N (base_above g1.inv.hp.base (Nat.le_refl _)) (none_at_size _))
  | tup xs =>
    obtain ⟨a, vs, m, ht, rt⟩ := r1.tup_inv
    refine wpAny_pyIter_tuple ⟨_, ht, rfl, m, rfl⟩ ?_
    have g2 : Go C ι s (sc :: rest) ι₁ μ₁ { s₁ with heap := s₁.heap.push { cls := .type "tuple_iterator", data := .fields #[.ref a, .int 0 0] } } := by
      obtain ⟨h1, t1, rfl⟩ := g1.sh
      exact ⟨⟨_, _, rfl⟩, g1.pre, g1.inv.push _, g1.keep.trans (Keep.push _ _)⟩
    refine kont ⟨xs, fun _ => True⟩ μ₁ ι₁ _ _ s₁.heap (TupSt C s₁.heap.objs.size a vs m xs) (by unfold iSeq; rw [e1]; rfl) g2 g1.keep (Keep.push _ _) ⟨⟨_, Heap.get?_push_size _ rfl, rfl, rfl⟩, ht.push _, rt.keep (Keep.push _ _)⟩ (stepper_tuple (hA.hand rfl) N (base_above g1.inv.hp.base (Nat.le_refl _)) (none_at_size _))
  | _ => exact absurd rfl hne1

/-- range(b), range(a, b) -/
noncomputable def rngO (a b : Int) (μ : MH) : Out Src := if -(2 ^ 62) ≤ a ∧ a < 2 ^ 62 ∧ -(2 ^ 62) ≤ b ∧ b < 2 ^ 62 then .ok ⟨rangeL a b, fun _ => True⟩ μ else .stuck
noncomputable def iRange1 (f : D) : DI := fun ρ μ => (f ρ μ).bind fun v μ => match v with | .int b => rngO 0 b μ | _ => .stuck
theorem range_ {sg' : Sg} {x : Str} {i : Nat} {p : Pos} (N : NameOk sg' x i) {A : Around} {s s₁ : Shared} {sc : Sc} {rest : List Sc} {ι ι₁ : List Addr} {μ₁ : MH} {E : Value → Shared → Prop} {Q : Value → Shared → Prop} {a b : Int} {t u v : Tok} {o : Out Src} {tk : Nat} (hA : AOk true n (sc :: rest) A) (g1 : Go C ι s (sc :: rest) ι₁ μ₁ s₁)
    (hc : -(2 ^ 62) ≤ a ∧ a < 2 ^ 62 ∧ -(2 ^ 62) ≤ b ∧ b < 2 ^ 62) (ho : o = .ok ⟨rangeL a b, fun _ => True⟩ μ₁)
    (kont : ∀ src μ₁ ι₁ it s₁ hs St, o = .ok src μ₁ → Go C ι s (sc :: rest) ι₁ μ₁ s₁ → Keep s.heap hs → Keep hs s₁.heap → St 0 ι₁ s₁.heap → Stepper C A sg' it (.Name x p) src.its (putAt i) src.G hs St → Q it s₁) :
    wpAny (model C.prog C.w) A (pyIter (.ref s₁.heap.objs.size)) Q E { s₁ with heap := s₁.heap.push { cls := .type "range", data := .fields #[.int a t, .int b u, .int 1 v] }, toks := tk } := by
  refine wpAny_pyIter_range (IsRange.new ..) (small_one hc.1 hc.2.1 hc.2.2.1 hc.2.2.2) ?_
  have hsz : Builtin.Range.rangeSize a b 1 = ((b - a).toNat : Int) := by rw [rangeSize_one]; split <;> omega
  rw [hsz]
  have K1 := Keep.push s₁.heap { cls := .type "range", data := .fields #[.int a t, .int b u, .int 1 v] }
  have K2 := Keep.push (s₁.heap.push { cls := .type "range", data := .fields #[.int a t, .int b u, .int 1 v] }) { cls := .type "range_iterator", data := .fields #[rawInt a, rawInt ((b - a).toNat : Int), rawInt 1] }
  have I1 := g1.inv.push { cls := .type "range", data := .fields #[.int a t, .int b u, .int 1 v] }
  refine kont ⟨rangeL a b, fun _ => True⟩ μ₁ ι₁ _ _ (s₁.heap.push { cls := .type "range", data := .fields #[.int a t, .int b u, .int 1 v] }) (RngSt _ a (b - a).toNat) ho ?_ (g1.keep.trans K1) K2 ?_ (stepper_range (hA.hand rfl) N (base_above I1.hp.base (Nat.le_refl _)) (none_at_size _))
  · obtain ⟨h1, t1, rfl⟩ := g1.sh
    exact ⟨⟨_, _, rfl⟩, g1.pre, I1.push _, (g1.keep.trans K1).trans K2⟩
  · show IsRangeIter _ _ (a + ((0 : Nat) : Int)) (((b - a).toNat : Int) - ((0 : Nat) : Int)) 1
    simp only [Int.natCast_zero, Int.add_zero, Int.sub_zero]
    exact Heap.get?_push_size _ rfl

theorem is_range1 (CO : CxOk C) {sg' : Sg} {r : Str} {rp pos p : Pos} {e : Expr} {x : Str} {i : Nat} {f : D} (he : ESound C true n sg e f) (hns : NoStar [e]) (N : NameOk sg' x i)
    (hk : sg.names.lookup r = some .globalImplicit) (hv : C.mg r = none ∧ C.mb r = some (.type "range")) (hd : (r == ("__debug__" : Str)) = false) : ISound C n sg (.Call (.Name r rp) [e] [] pos) (.Name x p) sg' (putAt i) (iRange1 f) := fun A s sc rest ι μ E Q hs hA hI hne kont kx => by
  refine wpAny_Call_NameR (name_glob CO hs hI hk (.inr hv) hd ?_)
  rw [backTo_plain hns]
  refine callWith_type rfl (Calls.evalArgs_plain (Calls.spliced_cons (wpAny_mono (then_ he hs hA hI hne (Q := fun v s₁ => wpAny (model C.prog C.w) A (spliced []) (fun vs s₂ => wpAny (model C.prog C.w) A (call (.type "range") ([] ++ (v :: vs))) (fun x s₁ => wpAny (model C.prog C.w) A (pyIter x) Q E s₁) E s₂) E s₁) fun v μ₁ ι₁ y s₁ e1 g1 r1 hne1 => ?_) (fun _ _ p => p) fun e s₁ p => kx e s₁ p)))
  refine Calls.spliced_nil ?_
  cases v with
  | int b =>
    obtain ⟨t⟩ := r1.int_inv
    by_cases hc : -(2 ^ 62) ≤ (0 : Int) ∧ (0 : Int) < 2 ^ 62 ∧ -(2 ^ 62) ≤ b ∧ b < 2 ^ 62
    · refine call_range_1 ?_
      exact range_ N hA g1 hc (by unfold iRange1; rw [e1]; exact if_pos hc) kont
    · exact absurd (if_neg hc) hne1
  | _ => exact absurd rfl hne1
/-- enumerate(xs) -/
noncomputable def iEnum (f : D) : DI := fun ρ μ => (f ρ μ).bind fun v μ => match v with
  | .lst k => match μ[k]? with | some xs => .ok ⟨enumL xs, fun μ => μ[k]? = some xs⟩ μ | none => .stuck
  | _ => .stuck
theorem is_enum (CO : CxOk C) {sg' : Sg} {r : Str} {rp pos pt pi pv : Pos} {x1 : Nat} {e : Expr} {xi xv : Str} {i j : Nat} {f : D} (he : ESound C true n sg e f) (hns : NoStar [e]) (Ni : NameOk sg' xi i) (Nv : NameOk sg' xv j)
    (hk : sg.names.lookup r = some .globalImplicit) (hv : C.mg r = none ∧ C.mb r = some (.type "enumerate")) (hd : (r == ("__debug__" : Str)) = false) :
    ISound C n sg (.Call (.Name r rp) [e] [] pos) (.Tuple [.Name xi pi, .Name xv pv] x1 pt) sg' (putEnum i j) (iEnum f) := fun A s sc rest ι μ E Q hs hA hI hne kont kx => by
  refine wpAny_Call_NameR (name_glob CO hs hI hk (.inr hv) hd ?_)
  rw [backTo_plain hns]
  refine callWith_type rfl (Calls.evalArgs_plain (Calls.spliced_cons (wpAny_mono (then_ he hs hA hI hne (Q := fun v s₁ => wpAny (model C.prog C.w) A (spliced []) (fun vs s₂ => wpAny (model C.prog C.w) A (call (.type "enumerate") ([] ++ (v :: vs))) (fun x s₁ => wpAny (model C.prog C.w) A (pyIter x) Q E s₁) E s₂) E s₁) fun v μ₁ ι₁ y s₁ e1 g1 r1 hne1 => ?_) (fun _ _ p => p) fun e s₁ p => kx e s₁ p)))
  refine Calls.spliced_nil ?_
  cases v with
  | lst k =>
    obtain ⟨l, hkk⟩ := r1.lst_inv
    cases ek : μ₁[k]? with
    | none => exact absurd (by simp only [ek]) hne1
    | some xs =>
      obtain ⟨l', vs, m, p1, p2, p3⟩ := g1.inv.hp.at_ k xs ek
      rw [hkk] at p1; cases p1
      refine call_enumerate_1 p2 fun h' hen hit hz hx => ?_
      refine wpAny_pyIter_enum hen ?_
      have g2 : Go C ι s (sc :: rest) ι₁ μ₁ { s₁ with heap := h' } := by
        obtain ⟨h1, t1, rfl⟩ := g1.sh
        exact ⟨⟨_, _, rfl⟩, g1.pre, g1.inv.ext hx, g1.keep.trans (Keep.of_ext hx)⟩
      refine kont ⟨enumL xs, fun μ => μ[k]? = some xs⟩ μ₁ ι₁ _ _ s₁.heap (EnumSt (s₁.heap.objs.size + 1) s₁.heap.objs.size k l) (by unfold iEnum; rw [e1]; show (match μ₁[k]? with | some xs => Out.ok (Src.mk (enumL xs) fun μ => μ[k]? = some xs) μ₁ | none => .stuck) = _; rw [ek]) g2 g1.keep (Keep.of_ext hx) ⟨hkk, hit, .none, hen⟩
        (stepper_enum (hA.hand rfl) Ni Nv (Nat.succ_ne_self _) ⟨base_above g1.inv.hp.base (Nat.le_succ _), base_above g1.inv.hp.base (Nat.le_refl _)⟩ ⟨none_above (Nat.le_succ _), none_at_size _⟩)
  | _ => exact absurd rfl hne1

/-! the statement -/
noncomputable def dFor (src : DI) (put : Rho → MV → Rho) (f : DS) : DS := fun ρ μ => (src ρ μ).bind fun s μ => loopM s.G put f s.its ρ μ
theorem s_for {target iter : Expr} {body : List Stmt} {pos : Pos} {put : Rho → MV → Rho} {fi : DI} {f : DS} (hi : ISound C n sg iter target sg put fi) (hb : SSound C true n sg body f) (hfr : sg.fr = true) (hfs : ∀ env x, foldedSetIterable iter env x = pure x) :
    S1Sound C true n sg (.For target iter body [] pos) (dFor fi put f) := fun A s sc rest ι μ hs hA hI hne => by
  refine wpAny_For (hi A s sc rest ι μ _ _ hs hA hI (bind_ne hne) (fun src μ₁ ι₁ it s₁ hs' St e1 g1 K1 K2 hst P => ?_) fun e s₁ p => .of p) (hfs _)
  have E1 : dFor fi put f sc.ρ μ = loopM src.G put f src.its sc.ρ μ₁ := by unfold dFor; first | (rw [e1]; done) | (rw [e1]; rfl)
  rw [E1] at hne
  have hL : topL (sc :: rest) = some sc.env.locals := by rw [topL, if_pos (hs.fr.trans hfr)]
  exact loop_ P hb hs hA hL g1.inv K1 K2 hst g1.pre g1.sh E1.symm (by rw [E1]; exact hne)
end
end Mine

set_option linter.unusedVariables false
namespace Mine
open PySem

section
variable {C : Cx} {q : Bool} {n : Nat} {sg : Sg}

/-! while, with a number of turns that is never reached -/
noncomputable def whileM (t : D) (f : DS) : Nat → Rho → MH → Out (Fl × Rho)
  | 0, _, _ => .stuck
  | k + 1, ρ, μ => (t ρ μ).bind fun v μ => match v with
    | .bool false => .ok (.next, ρ) μ
    | .bool true => (f ρ μ).bind fun r μ => match r.1 with
      | .next => whileM t f k r.2 μ
      | .brk => .ok (.next, r.2) μ
      | .ret x => .ok (.ret x, r.2) μ
    | _ => .stuck

theorem whileLoop_ {test : Expr} {body : List Stmt} {t : D} {f : DS} (ht : TSound C q n sg test t) (hb : SSound C q n sg body f) {A : Around} {sc : Sc} {rest : List Sc} {ι₀ : List Addr} {s₀ : Shared} {L : Addr} {o : Out (Fl × Rho)} (hsg : SgOk sg sc) (hA : AOk q n (sc :: rest) A) (hL : topL (sc :: rest) = some L) (hne : o ≠ .stuck) :
    ∀ (k : Nat) (s : Shared) (ρ : Rho) (ι : List Addr) (μ : MH), Go C ι₀ s₀ (sc.at ρ :: rest) ι μ s → whileM t f k ρ μ = o →
    codeAny (model C.prog C.w) A (.whileLoop test body [] sc.env) (fun r s' => match r with | .ok fl => SPost C ι₀ s₀ sc rest o fl s' | .error e => cameBackBy (model C.prog C.w) A sc.env (SXPost C ι₀ s₀ sc rest o) e s') s := by
  -- an exception on its way out of the loop
  have out : ∀ (s₁ : Shared) (ρ₁ : Rho) (ι₁ : List Addr) (μ₁ : MH) (c : Str) (e : Value), Go C ι₀ s₀ (sc.at ρ₁ :: rest) ι₁ μ₁ s₁ → Fly C c e s₁.heap → o = .exc c μ₁ →
      notedBy (model C.prog C.w) A sc.env (fun e s' => cameBackBy (model C.prog C.w) A sc.env (SXPost C ι₀ s₀ sc rest o) e s') e s₁ := by
    intro s₁ ρ₁ ι₁ μ₁ c e g1 fl ho
    have hA3 : AOk q n (sc.at ρ₁ :: rest) A := hA.at ρ₁
    have hL3 : topL (sc.at ρ₁ :: rest) = some L := hL
    refine note_ (sc := sc.at ρ₁) (rest := rest) hA3.frames hA3.stk hL3 g1.inv fl fun s₄ g4 f4 => ?_
    obtain ⟨a, oe, vs, T, oT, ts, rfl, x2, x3, x4, x4', x5, x6, x7, x8⟩ := f4.it
    unfold cameBackBy
    refine wpAny_bind (wpAny_field x3 x5 x7 ?_)
    rw [if_neg (by simp)]
    refine flight_ g4.inv f4 fun s₅ g5 f5 => ?_
    exact ⟨c, μ₁, ι₁, ρ₁, ho, (g1.trans g4).trans g5, f5.fly⟩
  intro k
  induction k with
  | zero => intro s ρ ι μ g e; exact absurd e.symm hne
  | succ k ih =>
    intro s ρ ι μ g e
    rw [whileM] at e
    refine codeAny_of_tree ?_
    show wpAny _ _ ((whileTurn test body [] sc.env).onRaise (fun x => do noteFrame x sc.env; theTreesLotGoes x)) _ _ s
    refine wpAny_noted ?_
    unfold whileTurn
    have hne1 : t ρ μ ≠ .stuck := fun e2 => hne (by rw [← e, e2]; rfl)
    refine wpAny_bind (wpAny_mono (ht A s (sc.at ρ) rest ι μ (hsg.at _) (hA.at _) g.inv hne1 fun v μ' ev => ?_) (fun b s₁ p => ?_) fun x s₁ p => ?_)
    · have ev' : t ρ μ = .ok v μ' := ev
      rw [ev', Out.bind_ok] at e
      cases v with
      | bool b => exact ⟨b, rfl⟩
      | _ => exact absurd e.symm hne
    · obtain ⟨μ₁, ι₁, e1, g1⟩ := p
      have e1' : t ρ μ = .ok (.bool b) μ₁ := e1
      rw [e1', Out.bind_ok] at e
      have g01 := g.trans g1
      cases b with
      | false =>
        refine wpAny_bind (wpAny_execs_nil (wpAny_pure ?_))
        exact ⟨.next, ρ, μ₁, ι₁, e.symm, .next, g01⟩
      | true =>
        have hne2 : f ρ μ₁ ≠ .stuck := fun e2 => hne (by rw [← e]; exact congrArg (fun z : Out (Fl × Rho) => z.bind _) e2)
        refine wpAny_bind (wpAny_mono (hb A s₁ (sc.at ρ) rest ι₁ μ₁ (hsg.at _) (hA.at _) g1.inv hne2) (fun fl s₂ p => ?_) fun x s₂ p => ?_)
        · obtain ⟨F, ρ₂, μ₂, ι₂, e2, r2, g2⟩ := p
          have e2' : f ρ μ₁ = .ok (F, ρ₂) μ₂ := e2
          have e' := (congrArg (fun z : Out (Fl × Rho) => z.bind fun r μ => match r.1 with
            | .next => whileM t f k r.2 μ
            | .brk => .ok (.next, r.2) μ
            | .ret x => .ok (.ret x, r.2) μ) e2').symm.trans e
          have g02 : Go C ι₀ s₀ (sc.at ρ₂ :: rest) ι₂ μ₂ s₂ := g01.trans g2
          cases r2 with
          | next => exact wpAny_pure ⟨rfl, ih s₂ ρ₂ ι₂ μ₂ g02 e'⟩
          | brk => exact wpAny_pure ⟨.next, ρ₂, μ₂, ι₂, e'.symm, .next, g02⟩
          | ret r => exact wpAny_pure ⟨.ret _, ρ₂, μ₂, ι₂, e'.symm, .ret r, g02⟩
        · obtain ⟨c, μ₂, ι₂, ρ₂, e2, g2, fl⟩ := p
          have e2' : f ρ μ₁ = .exc c μ₂ := e2
          refine out s₂ ρ₂ ι₂ μ₂ c x (g01.trans g2) fl ?_
          rw [← e, e2']; rfl
    · obtain ⟨c, μ₁, ι₁, e1, g1, fl⟩ := p
      have e1' : t ρ μ = .exc c μ₁ := e1
      refine out s₁ ρ ι₁ μ₁ c x (g.trans g1) fl ?_
      rw [← e, e1']; rfl

noncomputable def dWhile (k : Nat) (t : D) (f : DS) : DS := fun ρ μ => whileM t f k ρ μ
theorem s_while (k : Nat) {test : Expr} {body : List Stmt} {pos : Pos} {t : D} {f : DS} (ht : TSound C q n sg test t) (hb : SSound C q n sg body f) (hfr : sg.fr = true) : S1Sound C q n sg (.While test body [] pos) (dWhile k t f) := fun A s sc rest ι μ hs hA hI hne => by
  have hL : topL (sc :: rest) = some sc.env.locals := by rw [topL, if_pos (hs.fr.trans hfr)]
  exact wpAny_While (whileLoop_ ht hb hs hA hL hne k s sc.ρ ι μ (Go.refl hI) rfl)
end
end Mine

set_option linter.unusedVariables false
namespace Mine
open PySem

section
variable {C : Cx} {q : Bool} {n : Nat} {sg : Sg}

open Classical in
noncomputable def compM (G : MH → Prop) (put : Rho → MV → Rho) (c e : D) (k : Nat) : List MV → Rho → MH → Out MV
  | [], _, μ => if G μ then .ok (.lst k) μ else .stuck
  | v :: vs, ρ, μ => if G μ then (c (put ρ v) μ).bind fun b μ => match b with
      | .bool true => (e (put ρ v) μ).bind fun x μ => match μ[k]? with
        | some xs => if xs.length ≤ sizeLine then compM G put c e k vs ρ (μ.set k (xs ++ [x])) else .stuck
        | none => .stuck
      | .bool false => compM G put c e k vs ρ μ
      | _ => .stuck
    else .stuck

theorem compM_nil (G : MH → Prop) (put : Rho → MV → Rho) (c e : D) (k : Nat) (ρ : Rho) (μ : MH) : compM G put c e k [] ρ μ = (open Classical in if G μ then .ok (.lst k) μ else .stuck) := (rfl)
theorem compM_cons (G : MH → Prop) (put : Rho → MV → Rho) (c e : D) (k : Nat) (v : MV) (vs : List MV) (ρ : Rho) (μ : MH) : compM G put c e k (v :: vs) ρ μ = (open Classical in if G μ then (c (put ρ v) μ).bind fun b μ => match b with
      | .bool true => (e (put ρ v) μ).bind fun x μ => match μ[k]? with
        | some xs => if xs.length ≤ sizeLine then compM G put c e k vs ρ (μ.set k (xs ++ [x])) else .stuck
        | none => .stuck
      | .bool false => compM G put c e k vs ρ μ
      | _ => .stuck
    else .stuck) := (rfl)
/-- the tests of a comprehension -/
noncomputable def CSound (C : Cx) (n : Nat) (sg : Sg) (ifs : List Expr) (f : D) : Prop :=
  ∀ (A : Around) (s : Shared) (sc : Sc) (rest : List Sc) (ι : List Addr) (μ : MH), SgOk sg sc → AOk true n (sc :: rest) A → Inv C.h₀ (sc :: rest) ι μ s.heap → f sc.ρ μ ≠ .stuck → (∀ v μ', f sc.ρ μ = .ok v μ' → ∃ b, v = .bool b) →
    wpAny (model C.prog C.w) A (forIn ifs true fun c r => if r = true then do let ok ← isTrue c sc.env (eval c sc.env); pure (ForInStep.yield ok) else pure (ForInStep.yield r)) (TPost C ι s (sc :: rest) (f sc.ρ μ)) (XPost C ι s (sc :: rest) (f sc.ρ μ)) s
theorem cs_nil : CSound C n sg [] (dConst (.bool true)) := fun A s sc rest ι μ hs hA hI hne hb => wpAny_tests_nil ⟨μ, ι, rfl, Go.refl hI⟩
theorem cs_one {e : Expr} {f : D} (h : TSound C true n sg e f) : CSound C n sg [e] f := fun A s sc rest ι μ hs hA hI hne hb => wpAny_tests_one (h A s sc rest ι μ hs hA hI hne hb)

theorem append_ {A : Around} {E : Value → Shared → Prop} {s : Shared} {fs : List Sc} {ι : List Addr} {μ : MH} {k : Nat} {a : Addr} {xs : List MV} {x : MV} {cx : Value} {Q : Value → Shared → Prop} (hI : Inv C.h₀ fs ι μ s.heap) (hk : ι[k]? = some a) (ek : μ[k]? = some xs) (hl : xs.length ≤ sizeLine) (r : Rel C.h₀ ι s.heap x cx)
    (kont : ∀ s₁, Go C ι s fs ι (μ.set k (xs ++ [x])) s₁ → Q .none s₁) : wpAny (model C.prog C.w) A (call (.builtin "list.append") [.ref a, cx]) Q E s := by
  obtain ⟨a', vs, m, p1, p2, p3⟩ := hI.hp.at_ k xs ek
  rw [hk] at p1; cases p1
  have hlen := p3.length
  refine call_meets F.slot_list_append ⟨_, p2, rfl⟩ F.entry_list_append (F.args_list_append_2 _ _) (list_append a vs.toArray m cx (by simpa [hlen] using hl)) ⟨p2, ?_⟩
  exact kont _ ((Go.refl hI).upd (us := vs ++ [cx]) hk p2 (by simp) (p3.append (.one r)))

/-- between two turns of a comprehension -/
inductive CompI (C : Cx) (sc : Sc) (rest : List Sc) (ι₀ : List Addr) (s₀ : Shared) (hs : Heap) (St : Nat → List Addr → Heap → Prop) (G : MH → Prop) (i : Nat) (c e : D) (k : Nat) (a : Addr) (its : List MV) (ρ : Rho) (o : Out MV) (m : Nat) (s' : Shared) : Prop
  | mk (j : Nat) (ρ' : Rho) (μ' : MH) (ι' : List Addr) (hm : m = its.length - j) (hj : j ≤ its.length) (sh : ∃ h tk, s' = { s₀ with heap := h, toks := tk }) (pre : ι₀ <+: ι') (hk : ι'[k]? = some a) (inv : Inv C.h₀ (sc.at ρ' :: rest) ι' μ' s'.heap) (keep : Keep hs s'.heap) (st : St j ι' s'.heap) (hρ : ∀ v, putAt i ρ' v = putAt i ρ v) (he : compM G (putAt i) c e k (its.drop j) ρ μ' = o) : CompI C sc rest ι₀ s₀ hs St G i c e k a its ρ o m s'

noncomputable def CompR (C : Cx) (sc : Sc) (rest : List Sc) (ι₀ : List Addr) (s₀ : Shared) (o : Out MV) (L : Addr) (r : Result) (s' : Shared) : Prop := match r with
  | .ok _ => ∃ v μ' ι' ρ', o = .ok v μ' ∧ Go C ι₀ s₀ (sc.at ρ' :: rest) ι' μ' s'
  | .error x => ∃ c μ' ι' ρ', o = .exc c μ' ∧ Go C ι₀ s₀ (sc.at ρ' :: rest) ι' μ' s' ∧ FlyT C c x (rawInt L) s'.heap

theorem compLoop_ {A : Around} {s : Shared} {sc : Sc} {rest : List Sc} {ι : List Addr} {μ : MH} {it : Value} {x : Str} {xp : Pos} {elt iter : Expr} {ifs : List Expr} {scope : Scope} {pos : Pos} {its : List MV} {i : Nat} {G : MH → Prop} {hs : Heap} {St : Nat → List Addr → Heap → Prop} {c e : D} {k : Nat} {a : Addr} {s₀ : Shared} {ι₀ : List Addr} {L : Addr} {ρ : Rho} {o : Out MV}
    (P : Stepper C A sg it (.Name x xp) its (putAt i) G hs St) (hc : CSound C n sg ifs c) (he : ESound C true n sg elt e) (hsg : SgOk sg sc) (hA : AOk true n (sc :: rest) A) (hL : topL (sc :: rest) = some L) (hI : Inv C.h₀ (sc :: rest) ι μ s.heap) (hK : Keep s₀.heap hs) (hK' : Keep hs s.heap) (hst : St 0 ι s.heap) (hpre : ι₀ <+: ι) (hka : ι[k]? = some a) (hsh : ∃ h tk, s = { s₀ with heap := h, toks := tk })
    (hρ : ∀ v, putAt i sc.ρ v = putAt i ρ v) (ho : compM G (putAt i) c e k its ρ μ = o) (hne : o ≠ .stuck) :
    codeAny (model C.prog C.w) A (.compLoop (.ListComp elt [⟨.Name x xp, iter, ifs, 0⟩] scope pos) 0 it (.ref a) sc.env) (CompR C sc rest ι₀ s₀ o L) s := by
  refine codeAny_loop rfl (CompI C sc rest ι₀ s₀ hs St G i c e k a its ρ o) (fun m s' hIn => ?_) its.length ⟨0, sc.ρ, μ, ι, by omega, by omega, hsh, hpre, hka, hI, hK', hst, hρ, by rw [List.drop_zero]; exact ho⟩
  obtain ⟨j, ρ', μ', ι', rfl, hj, hsh', hpre', hka', hI', hKs, hst', hρ', hcm⟩ := hIn
  show wpAny _ A ((compTurn (.ListComp elt [⟨.Name x xp, iter, ifs, 0⟩] scope pos) 0 it (.ref a) sc.env).onRaise (fun x => do noteFrame x sc.env; theTreesLotGoes x)) _ _ s'
  refine wpAny_noted ?_
  rw [compTurn_list]
  refine wpAny_bind (wpAny_standAt ?_)
  have gone : ∀ s₂ fs ι₂ μ₂, (∃ h tk, s₂ = { s' with heap := h, toks := tk }) → ι' <+: ι₂ → Inv C.h₀ fs ι₂ μ₂ s₂.heap → Keep hs s₂.heap → Go C ι₀ s₀ fs ι₂ μ₂ s₂ := fun s₂ fs ι₂ μ₂ hsh₂ hp₂ hI₂ hK₂ => by
    obtain ⟨h1, t1, rfl⟩ := hsh'
    obtain ⟨h2, t2, rfl⟩ := hsh₂
    exact ⟨⟨h2, t2, rfl⟩, hpre'.trans hp₂, hI₂, hK.trans hK₂⟩
  have shape : ∀ {s₂ : Shared}, (∃ h tk, s₂ = { s' with heap := h, toks := tk }) → ∃ h tk, s₂ = { s₀ with heap := h, toks := tk } := fun {s₂} hsh₂ => by
    obtain ⟨h1, t1, rfl⟩ := hsh'
    obtain ⟨h2, t2, rfl⟩ := hsh₂
    exact ⟨h2, t2, rfl⟩
  -- an exception within a turn
  have out : ∀ (s₁ : Shared) (ρ₁ : Rho) (ι₁ : List Addr) (μ₁ : MH) (cc : Str) (x : Value), Go C ι₀ s₀ (sc.at ρ₁ :: rest) ι₁ μ₁ s₁ → Fly C cc x s₁.heap → o = .exc cc μ₁ →
      notedBy (model C.prog C.w) A sc.env (fun e s' => CompR C sc rest ι₀ s₀ o L (.error e) s') x s₁ := by
    intro s₁ ρ₁ ι₁ μ₁ cc x g1 fl ho
    have hA3 : AOk true n (sc.at ρ₁ :: rest) A := hA.at ρ₁
    have hL3 : topL (sc.at ρ₁ :: rest) = some L := hL
    refine note_ (sc := sc.at ρ₁) (rest := rest) hA3.frames hA3.stk hL3 g1.inv fl fun s₄ g4 f4 => ?_
    exact ⟨cc, μ₁, ι₁, ρ₁, ho, g1.trans g4, f4⟩
  by_cases hlt : j < its.length
  · have hd : its.drop j = its[j] :: its.drop (j + 1) := List.drop_eq_getElem_cons hlt
    rw [hd, compM_cons] at hcm
    by_cases hG : G μ'
    · rw [if_pos hG] at hcm
      refine wpAny_bind (wpAny_mono (P.item j its[j] s' (sc.at ρ') rest ι' μ' (fun s₂ => (∃ h tk, s₂ = { s' with heap := h, toks := tk }) ∧ Inv C.h₀ (sc.at (putAt i ρ' its[j]) :: rest) ι' μ' s₂.heap ∧ Keep hs s₂.heap ∧ St (j + 1) ι' s₂.heap)
          (notedBy (model C.prog C.w) A sc.env (fun e s' => CompR C sc rest ι₀ s₀ o L (.error e) s')) (notedBy (model C.prog C.w) A sc.env (fun e s' => CompR C sc rest ι₀ s₀ o L (.error e) s')) (notedBy (model C.prog C.w) A sc.env (fun e s' => CompR C sc rest ι₀ s₀ o L (.error e) s'))
          (List.getElem?_eq_getElem hlt) (hsg.at _) hI' hG hKs hst' fun s₂ hsh₂ hI₂ hK₂ hst₂ => ⟨hsh₂, hI₂, hK₂, hst₂⟩) (fun r s₁ hr => ?_) fun _ _ x => x)
      cases r with
      | none => exact hr.elim
      | some xv =>
        refine wpAny_bind (wpAny_mono hr (fun _ s₂ hr₂ => wpAny_bind (wpAny_mono hr₂ (fun _ s₃ hr₃ => ?_) fun _ _ x => x)) fun _ _ x => x)
        obtain ⟨hsh₃, hI₃, hK₃, hst₃⟩ := hr₃
        rw [hρ'] at hI₃
        have hne1 : c (putAt i ρ its[j]) μ' ≠ .stuck := fun e2 => hne (by rw [← hcm]; exact congrArg (fun z : Out MV => z.bind _) e2)
        refine wpAny_bind (wpAny_mono (hc A s₃ (sc.at (putAt i ρ its[j])) rest ι' μ' (hsg.at _) (hA.at _) hI₃ hne1 fun v μ₁ ev => ?_) (fun ok s₄ p => ?_) fun x s₄ p => ?_)
        · have ev' : c (putAt i ρ its[j]) μ' = .ok v μ₁ := ev
          have := (congrArg (fun z : Out MV => z.bind fun b μ => match b with
            | .bool true => (e (putAt i ρ its[j]) μ).bind fun x μ => match μ[k]? with
              | some xs => if xs.length ≤ sizeLine then compM G (putAt i) c e k (its.drop (j + 1)) ρ (μ.set k (xs ++ [x])) else .stuck
              | none => .stuck
            | .bool false => compM G (putAt i) c e k (its.drop (j + 1)) ρ μ
            | _ => .stuck) ev').symm.trans hcm
          cases v with
          | bool b => exact ⟨b, rfl⟩
          | _ => exact absurd this.symm hne
        · obtain ⟨μ₄, ι₄, e4, g4⟩ := p
          have e4' : c (putAt i ρ its[j]) μ' = .ok (.bool ok) μ₄ := e4
          have hcm4 := (congrArg (fun z : Out MV => z.bind fun b μ => match b with
            | .bool true => (e (putAt i ρ its[j]) μ).bind fun x μ => match μ[k]? with
              | some xs => if xs.length ≤ sizeLine then compM G (putAt i) c e k (its.drop (j + 1)) ρ (μ.set k (xs ++ [x])) else .stuck
              | none => .stuck
            | .bool false => compM G (putAt i) c e k (its.drop (j + 1)) ρ μ
            | _ => .stuck) e4').symm.trans hcm
          have hsh₄ : ∃ h tk, s₄ = { s' with heap := h, toks := tk } := by
            obtain ⟨h3, t3, rfl⟩ := hsh₃
            obtain ⟨h4, t4, e5⟩ := g4.sh
            exact ⟨h4, t4, e5⟩
          have hK₄ : Keep hs s₄.heap := hK₃.trans g4.keep
          have hka₄ : ι₄[k]? = some a := by
            obtain ⟨t, rfl⟩ := g4.pre
            rw [List.getElem?_append_left (List.getElem?_eq_some_iff.mp hka').1]; exact hka'
          have hst₄ : St (j + 1) ι₄ s₄.heap := P.keep _ _ _ _ _ hst₃ g4.pre g4.keep
          have hpp : ∀ v, putAt i (putAt i ρ its[j]) v = putAt i ρ v := fun v => by
            funext z; simp only [putAt, Rho.set]; split <;> rfl
          cases ok with
          | false =>
            have hcm5 : compM G (putAt i) c e k (its.drop (j + 1)) ρ μ₄ = o := hcm4
            simp only [Bool.false_eq_true, if_false]
            exact wpAny_pure ⟨rfl, its.length - (j + 1), by omega, j + 1, putAt i ρ its[j], μ₄, ι₄, rfl, hlt, shape hsh₄, hpre'.trans g4.pre, hka₄, g4.inv, hK₄, hst₄, hpp, hcm5⟩
          | true =>
            have hcm5 : ((e (putAt i ρ its[j]) μ₄).bind fun x μ => match μ[k]? with
              | some xs => if xs.length ≤ sizeLine then compM G (putAt i) c e k (its.drop (j + 1)) ρ (μ.set k (xs ++ [x])) else .stuck
              | none => .stuck) = o := hcm4
            simp only [if_true]
            have hne5 : e (putAt i ρ its[j]) μ₄ ≠ .stuck := fun e2 => hne (by rw [← hcm5]; exact congrArg (fun z : Out MV => z.bind _) e2)
            refine wpAny_bind (wpAny_bind (wpAny_mono (he A s₄ (sc.at (putAt i ρ its[j])) rest ι₄ μ₄ (hsg.at _) (hA.at _) g4.inv hne5) (fun xv' s₅ p => ?_) fun x s₅ p => ?_))
            · obtain ⟨v5, μ₅, ι₅, e5, g5, r5⟩ := p
              have e5' : e (putAt i ρ its[j]) μ₄ = .ok v5 μ₅ := e5
              have hcm6 : (match μ₅[k]? with
                | some xs => if xs.length ≤ sizeLine then compM G (putAt i) c e k (its.drop (j + 1)) ρ (μ₅.set k (xs ++ [v5])) else .stuck
                | none => .stuck) = o := (congrArg (fun z : Out MV => z.bind fun x μ => match μ[k]? with
                | some xs => if xs.length ≤ sizeLine then compM G (putAt i) c e k (its.drop (j + 1)) ρ (μ.set k (xs ++ [x])) else .stuck
                | none => .stuck) e5').symm.trans hcm5
              have hka₅ : ι₅[k]? = some a := by
                obtain ⟨t, rfl⟩ := g5.pre
                rw [List.getElem?_append_left (List.getElem?_eq_some_iff.mp hka₄).1]; exact hka₄
              cases ek : μ₅[k]? with
              | none => rw [ek] at hcm6; exact absurd hcm6.symm hne
              | some xs =>
                rw [ek] at hcm6
                by_cases hl : xs.length ≤ sizeLine
                · have hcm7 : compM G (putAt i) c e k (its.drop (j + 1)) ρ (μ₅.set k (xs ++ [v5])) = o := by simpa [hl] using hcm6
                  refine wpAny_bind (append_ g5.inv hka₅ ek hl r5 fun s₆ g6 => wpAny_pure (wpAny_pure ?_))
                  have hsh₆ : ∃ h tk, s₆ = { s' with heap := h, toks := tk } := by
                    obtain ⟨h4, t4, rfl⟩ := hsh₄
                    obtain ⟨h5, t5, rfl⟩ := g5.sh
                    obtain ⟨h6, t6, e7⟩ := g6.sh
                    exact ⟨h6, t6, e7⟩
                  exact ⟨rfl, its.length - (j + 1), by omega, j + 1, putAt i ρ its[j], _, ι₅, rfl, hlt, shape hsh₆, (hpre'.trans g4.pre).trans g5.pre, hka₅, g6.inv, (hK₄.trans g5.keep).trans g6.keep, P.keep _ _ _ _ _ (P.keep _ _ _ _ _ hst₄ g5.pre g5.keep) g6.pre g6.keep, hpp, hcm7⟩
                · exact absurd (by simpa [hl] using hcm6.symm) hne
            · obtain ⟨cc, μ₅, ι₅, e5, g5, f5⟩ := p
              have e5' : e (putAt i ρ its[j]) μ₄ = .exc cc μ₅ := e5
              refine out s₅ (putAt i ρ its[j]) ι₅ μ₅ cc x (gone s₅ _ ι₅ μ₅ ?_ (g4.pre.trans g5.pre) g5.inv (hK₄.trans g5.keep)) f5 ?_
              · obtain ⟨h4, t4, rfl⟩ := hsh₄
                obtain ⟨h5, t5, e7⟩ := g5.sh
                exact ⟨h5, t5, e7⟩
              · exact hcm5.symm.trans (congrArg (fun z : Out MV => z.bind _) e5')
        · obtain ⟨cc, μ₄, ι₄, e4, g4, f4⟩ := p
          have e4' : c (putAt i ρ its[j]) μ' = .exc cc μ₄ := e4
          refine out s₄ (putAt i ρ its[j]) ι₄ μ₄ cc x (gone s₄ _ ι₄ μ₄ ?_ g4.pre g4.inv (hK₃.trans g4.keep)) f4 ?_
          · obtain ⟨h3, t3, rfl⟩ := hsh₃
            obtain ⟨h4, t4, e7⟩ := g4.sh
            exact ⟨h4, t4, e7⟩
          · exact hcm.symm.trans (congrArg (fun z : Out MV => z.bind _) e4')
    · rw [if_neg hG] at hcm; exact absurd hcm.symm hne
  · have hil : j = its.length := by omega
    subst hil
    rw [List.drop_length, compM_nil] at hcm
    by_cases hG : G μ'
    · rw [if_pos hG] at hcm
      refine wpAny_bind (wpAny_mono (P.done s' (sc.at ρ') rest ι' μ' (fun s₂ => CompR C sc rest ι₀ s₀ o L (.ok .next) s₂) _ (hsg.at _) hI' hG hKs hst' fun s₂ hsh₂ hI₂ hK₂ => ?_) (fun r s₁ hr => ?_) fun _ _ x => x)
      rotate_left 1
      · cases r with
        | none => exact wpAny_pure hr
        | some x => exact hr.elim
      · exact ⟨_, μ', ι', ρ', hcm.symm, gone s₂ _ ι' μ' hsh₂ (List.prefix_refl _) hI₂ hK₂⟩
    · rw [if_neg hG] at hcm; exact absurd hcm.symm hne
end
end Mine

set_option linter.unusedVariables false
namespace Mine
open PySem

/-- the names of a block within a scope -/
noncomputable def relab (names : List (Str × NameKind)) (sg : Sg) : List (Str × NameKind) := names.map fun (n, k) => if (k == .free && sg.names.lookup n == some .cell) then (n, .cell) else (n, k)

/-- a comprehension's scope fits -/
structure CompOk (sg sg' : Sg) (scope : Scope) (x : Str) (i : Nat) : Prop where
  names : sg'.names = relab scope.names sg
  fr : sg'.fr = false
  kind : scope.kind = .function
  cell : ∀ y ∈ scope.names, y.2 ≠ .cell
  own : ∀ y ∈ scope.names, y.2 = .local → scope.names.lookup y.1 = some .local
  V : VarsOk sg'.vars
  hx : (x, i) ∈ sg'.vars
  xl : sg'.names.lookup x = some .local
  vars : ∀ p ∈ sg'.vars, p = (x, i) ∨ (p ∈ sg.vars ∧ (p.1, NameKind.free) ∈ scope.names ∧ sg.names.lookup p.1 = some .cell ∧ sg'.names.lookup p.1 = some .cell)
  free : ∀ y ∈ scope.names, y.2 = .free → sg.names.lookup y.1 = some .cell ∧ ∃ p ∈ sg.vars, p.1 = y.1

noncomputable def closeL (cells : List (Str × Addr)) : List (Str × NameKind) → List (Str × Addr) → List (Str × Addr)
  | [], cs => cs
  | (n, k) :: r, cs => closeL cells r (if k == .free then (n, (cells.lookup n).getD 0) :: cs else cs)

theorem closure_go {env : Env} : ∀ (names : List (Str × NameKind)) (cs : List (Str × Addr)), (∀ p ∈ names, p.2 = .free → ∃ c, env.cells.lookup p.1 = some c) →
    (forIn names cs fun (x : Str × NameKind) (r : List (Str × Addr)) => match x with
      | (name, kind) => if (kind == NameKind.free) = true then do let y ← cellOf env name; (pure (ForInStep.yield ((name, y) :: r)) : Sem _) else pure (ForInStep.yield r)) = pure (closeL env.cells names cs)
  | [], cs, h => rfl
  | (n, k) :: r, cs, h => by
    rw [List.forIn_cons]
    dsimp only
    rw [closeL]
    by_cases hk : (k == NameKind.free) = true
    · obtain ⟨c, hc⟩ := h (n, k) List.mem_cons_self (by simpa using hk)
      simp only [if_pos hk, cellOf, hc, Option.getD_some, pure_bind]
      exact closure_go r _ fun p hp => h p (List.mem_cons_of_mem _ hp)
    · simp only [if_neg hk, pure_bind]
      exact closure_go r _ fun p hp => h p (List.mem_cons_of_mem _ hp)
theorem closure_eq {env : Env} {scope : Scope} (h : ∀ p ∈ scope.names, p.2 = .free → ∃ c, env.cells.lookup p.1 = some c) : closureFor scope env = pure (closeL env.cells scope.names []) := by
  unfold closureFor
  simp only [closure_go scope.names [] h, pure_bind]

theorem closeL_mem {cells : List (Str × Addr)} : ∀ {names : List (Str × NameKind)} {cs : List (Str × Addr)} {p : Str × Addr}, p ∈ closeL cells names cs → p ∈ cs ∨ ((p.1, NameKind.free) ∈ names ∧ p.2 = (cells.lookup p.1).getD 0)
  | [], cs, p, h => .inl h
  | (n, k) :: r, cs, p, h => by
    rw [closeL] at h
    rcases closeL_mem h with h | ⟨h1, h2⟩
    · by_cases hk : (k == NameKind.free) = true
      · rw [if_pos hk] at h
        rcases List.mem_cons.mp h with rfl | h
        · refine .inr ⟨?_, rfl⟩
          have : k = NameKind.free := by simpa using hk
          rw [this]; exact List.mem_cons_self
        · exact .inl h
      · rw [if_neg hk] at h; exact .inl h
    · exact .inr ⟨List.mem_cons_of_mem _ h1, h2⟩
theorem closeL_has {cells : List (Str × Addr)} {y : Str} : ∀ {names : List (Str × NameKind)} {cs : List (Str × Addr)}, ((y, NameKind.free) ∈ names ∨ ∃ c, (y, c) ∈ cs) → ∃ c, (y, c) ∈ closeL cells names cs
  | [], cs, h => by rcases h with h | h; · cases h
                    · exact h
  | (n, k) :: r, cs, h => by
    rw [closeL]
    refine closeL_has ?_
    rcases h with h | ⟨c, h⟩
    · rcases List.mem_cons.mp h with h | h
      · cases h; exact .inr ⟨_, by simp; exact .inl rfl⟩
      · exact .inl h
    · exact .inr ⟨c, by split; · exact List.mem_cons_of_mem _ h
                        · exact h⟩
theorem lookup_of_mem' : ∀ {l : List (Str × Addr)} {y : Str} {c : Addr}, (y, c) ∈ l → ∃ c', l.lookup y = some c'
  | (n, d) :: r, y, c, h => by
    rw [List.lookup_cons]
    by_cases hn : (y == n) = true
    · rw [hn]; exact ⟨_, rfl⟩
    · have hn' : (y == n) = false := by simpa using hn
      rw [hn']
      rcases List.mem_cons.mp h with h | h
      · cases h; simp at hn
      · exact lookup_of_mem' h
theorem closeL_lookup {cells : List (Str × Addr)} {y : Str} {names : List (Str × NameKind)} {c : Addr} (h : (y, NameKind.free) ∈ names) (hc : cells.lookup y = some c) : (closeL cells names []).lookup y = some c := by
  obtain ⟨c₁, h1⟩ := closeL_has (cells := cells) (cs := []) (.inl h)
  obtain ⟨c₂, h2⟩ := lookup_of_mem' h1
  rcases closeL_mem (mem_of_lookup h2) with h3 | ⟨_, h3⟩
  · cases h3
  · rw [h2]
    have h3' : c₂ = (cells.lookup y).getD 0 := h3
    rw [h3', hc]; rfl

section
variable {h₀ h h' : Heap} {ι : List Addr} {μ : MH} {f g : Sc} {rest : List Sc}
theorem Inv.swapC (I : Inv h₀ (f :: g :: rest) ι μ h) : Inv h₀ (g :: ⟨{ f.env with cells := [] }, [], f.ρ, false⟩ :: rest) ι μ h := by
  obtain ⟨p1, p2⟩ := List.pairwise_cons.mp I.ap
  obtain ⟨p3, p4⟩ := List.pairwise_cons.mp p2
  refine ⟨I.hp, fun k hk => ?_, List.pairwise_cons.mpr ⟨fun k hk => ?_, List.pairwise_cons.mpr ⟨fun k hk => ⟨(p1 k (List.mem_cons_of_mem _ hk)).1, fun e => (by cases e)⟩, p4⟩⟩, fun k hk => ?_⟩
  · rcases List.mem_cons.mp hk with rfl | hk
    · exact I.sc _ (List.mem_cons_of_mem _ List.mem_cons_self)
    · rcases List.mem_cons.mp hk with rfl | hk
      · obtain ⟨m, hm, _⟩ := (I.sc f List.mem_cons_self).loc
        exact ⟨⟨m, hm, fun x i v hx => (by cases hx)⟩, fun x i hx => (by cases hx), fun c hc => (by cases hc)⟩
      · exact I.sc _ (List.mem_cons_of_mem _ (List.mem_cons_of_mem _ hk))
  · rcases List.mem_cons.mp hk with rfl | hk
    · exact ⟨Ne.symm (p1 g List.mem_cons_self).1, fun _ c _ hc => by cases hc⟩
    · exact p3 k hk
  · rcases List.mem_cons.mp hk with rfl | hk
    · exact I.nw _ (List.mem_cons_of_mem _ List.mem_cons_self)
    · rcases List.mem_cons.mp hk with rfl | hk
      · exact ⟨(I.nw f List.mem_cons_self).1, fun c hc => by cases hc⟩
      · exact I.nw _ (List.mem_cons_of_mem _ (List.mem_cons_of_mem _ hk))
theorem Inv.swapBack (hc : f.env.cells = []) (I : Inv h₀ (g :: f :: rest) ι μ h) : Inv h₀ (f :: g :: rest) ι μ h := by
  obtain ⟨p1, p2⟩ := List.pairwise_cons.mp I.ap
  obtain ⟨p3, p4⟩ := List.pairwise_cons.mp p2
  have mem : ∀ k, k ∈ f :: g :: rest → k ∈ g :: f :: rest := fun k hk => by
    simp only [List.mem_cons] at hk ⊢
    rcases hk with h | h | h
    · exact .inr (.inl h)
    · exact .inl h
    · exact .inr (.inr h)
  refine ⟨I.hp, fun k hk => I.sc k (mem k hk), List.pairwise_cons.mpr ⟨fun k hk => ?_, List.pairwise_cons.mpr ⟨fun k hk => p1 k (List.mem_cons_of_mem _ hk), p4⟩⟩, fun k hk => I.nw k (mem k hk)⟩
  rcases List.mem_cons.mp hk with rfl | hk
  · exact ⟨Ne.symm (p1 f List.mem_cons_self).1, fun _ c hcm => by rw [hc] at hcm; cases hcm⟩
  · exact p3 k hk
theorem Inv.letGo (I : Inv h₀ (f :: rest) ι μ h) (hs : Heap.SameBut f.env.locals h h') : Inv h₀ rest ι μ h' ∧ Keep h h' := by
  obtain ⟨m, hm, _⟩ := (I.sc f List.mem_cons_self).loc
  have K : Keep h h' := Keep.but hs (Heap.Ns.notFrozen hm)
  refine ⟨⟨⟨fun b o e => ?_, I.hp.len, I.hp.nd, I.hp.new, fun k xs hk => ?_⟩, fun g hg => ?_, (List.pairwise_cons.mp I.ap).2, fun g hg => I.nw g (List.mem_cons_of_mem _ hg)⟩, K⟩
  · have hne : b ≠ f.env.locals := by
      rintro rfl
      rw [(I.nw f List.mem_cons_self).1] at e; cases e
    exact (hs.2 b hne).trans (I.hp.base b o e)
  · obtain ⟨a, vs, n, e1, e2, e3⟩ := I.hp.at_ k xs hk
    exact ⟨a, vs, n, e1, (hs.2 a (Ne.symm (ns_ne_list hm e2))).trans e2, e3.keep K⟩
  · exact (I.sc g (List.mem_cons_of_mem _ hg)).mono (List.prefix_refl _) K (fun m' hn => hn.sameBut hs (Ne.symm ((List.pairwise_cons.mp I.ap).1 g hg).1)) fun c ov _ hc => hc.sameBut hs (cell_ne_ns hc hm)
end

/-- the scope of a comprehension at work -/
noncomputable def scC (scope : Scope) (sg' : Sg) (i : Nat) (sc : Sc) (L : Addr) : Sc := ⟨compEnvC scope (closeL sc.env.cells scope.names []) L sc.env, sg'.vars, fun j => if j = i then none else sc.ρ j, false⟩

theorem relabel_names {sg : Sg} {sc : Sc} (hs : SgOk sg sc) (scope : Scope) : (relabel scope sc.env).names = relab scope.names sg := by
  unfold relabel relab
  refine List.map_congr_left fun p _ => ?_
  have h1 : (sc.env.scope.kind == ScopeKind.function) = true := by rw [hs.kind]; rfl
  have h2 := hs.kindOf p.1
  dsimp only
  rw [h1, h2, Bool.and_true]

theorem Inv.enterC {h₀ h h' : Heap} {ι : List Addr} {μ : MH} {sc : Sc} {rest : List Sc} {sg sg' : Sg} {scope : Scope} {x : Str} {i : Nat} {L : Addr} (I : Inv h₀ (sc :: rest) ι μ h) (hs : SgOk sg sc) (K : CompOk sg sg' scope x i) {m : Str → Option Value} (hns : h'.Ns L m) (hL : h.get? L = none)
    (hx : ∀ a o, h.get? a = some o → h'.get? a = some o) : Inv h₀ (scC scope sg' i sc L :: sc :: rest) ι μ h' := by
  have I' := I.ext hx
  have S := I'.sc sc List.mem_cons_self
  have hkind : ∀ y, (scC scope sg' i sc L).env.kindOf y = sg'.names.lookup y := fun y => by
    show (relabel scope sc.env).names.lookup y = _
    rw [relabel_names hs, K.names]
  have hfree : ∀ y, (y, NameKind.free) ∈ scope.names → ∃ c, sc.env.cells.lookup y = some c := fun y hy => by
    obtain ⟨h1, p, h2, h3⟩ := K.free _ hy rfl
    obtain ⟨c, ov, e1, _⟩ := S.cel p.1 p.2 (by rw [hs.vars]; exact h2) (by rw [hs.kindOf, h3]; exact h1)
    exact ⟨c, by rw [← e1, h3]⟩
  have hcl : ∀ c ∈ (closeL sc.env.cells scope.names []).map (·.2), c ∈ sc.env.cells.map (·.2) := fun c hc => by
    obtain ⟨p, hp, rfl⟩ := List.mem_map.mp hc
    rcases closeL_mem hp with hp | ⟨h1, h2⟩
    · cases hp
    · obtain ⟨c, hc⟩ := hfree _ h1
      rw [hc] at h2
      have h2' : p.2 = c := h2
      rw [h2']
      exact List.mem_map.mpr ⟨_, mem_of_lookup hc, rfl⟩
  refine ⟨I'.hp, fun g hg => ?_, List.pairwise_cons.mpr ⟨fun g hg => ⟨?_, fun e => by cases e⟩, I'.ap⟩, fun g hg => ?_⟩
  · rcases List.mem_cons.mp hg with rfl | hg
    · refine ⟨⟨_, hns, fun y j v hy hk hv => ?_⟩, fun y j hy hk => ?_, fun c hc => S.all c (hcl c hc)⟩
      · rw [hkind] at hk
        rcases K.vars _ hy with e | ⟨_, _, _, e⟩
        · cases e
          have : (if i = i then (none : Option MV) else sc.ρ i) = some v := hv
          rw [if_pos rfl] at this; cases this
        · rw [e] at hk; cases hk
      · rw [hkind] at hk
        rcases K.vars _ hy with e | ⟨h1, h2, h3, _⟩
        · cases e; rw [K.xl] at hk; cases hk
        · obtain ⟨c, ov, e1, e2, e3⟩ := S.cel y j (by rw [hs.vars]; exact h1) (by rw [hs.kindOf]; exact h3)
          refine ⟨c, ov, closeL_lookup h2 e1, e2, fun v hv => e3 v ?_⟩
          have hv' : (if j = i then (none : Option MV) else sc.ρ j) = some v := hv
          split at hv'
          · cases hv'
          · exact hv'
    · exact I'.sc g hg
  · obtain ⟨m', hm', _⟩ := (I.sc g hg).loc
    obtain ⟨o, _, _, ho, _⟩ := hm'
    rintro e
    have e' : L = g.env.locals := e
    rw [← e', hL] at ho; cases ho
  · rcases List.mem_cons.mp hg with rfl | hg
    · refine ⟨?_, fun c hc => (I.nw sc List.mem_cons_self).2 c (hcl c hc)⟩
      show h₀.get? L = none
      cases e : h₀.get? L with
      | none => rfl
      | some o => have := I.hp.base L o e; rw [hL] at this; cases this
    · exact I.nw g hg
end Mine

set_option linter.unusedVariables false
namespace Mine
open PySem

section
variable {C : Cx} {q : Bool} {n : Nat} {sg : Sg}

theorem compM_ok {G : MH → Prop} {put : Rho → MV → Rho} {c e : D} {k : Nat} : ∀ {its : List MV} {ρ : Rho} {μ : MH} {v : MV} {μ' : MH}, compM G put c e k its ρ μ = .ok v μ' → v = .lst k
  | [], ρ, μ, v, μ', h => by
    rw [compM_nil] at h
    split at h
    · cases h; rfl
    · cases h
  | u :: us, ρ, μ, v, μ', h => by
    rw [compM_cons] at h
    split at h
    · cases h1 : c (put ρ u) μ with
      | ok b μ₁ =>
        rw [h1, Out.bind_ok] at h
        have h' := h
        clear h h1
        cases b with
        | bool b => cases b with
          | true =>
            cases h2 : e (put ρ u) μ₁ with
            | ok y μ₂ =>
              dsimp only at h'
              rw [h2, Out.bind_ok] at h'
              have h'' := h'
              split at h''
              · split at h''
                · exact compM_ok h''
                · cases h''
              · cases h''
            | exc cc μ₂ => dsimp only at h'; rw [h2] at h'; cases h'
            | stuck => dsimp only at h'; rw [h2] at h'; cases h'
          | false => exact compM_ok h'
        | _ => cases h'
      | exc cc μ₁ => rw [h1] at h; cases h
      | stuck => rw [h1] at h; cases h
    · cases h

noncomputable def dComp (src : DI) (c e : D) (i : Nat) : D := fun ρ μ => (src ρ μ).bind fun s μ => compM s.G (putAt i) c e μ.length s.its ρ (μ ++ [[]])

theorem comp_core {A : Around} {E : Value → Shared → Prop} {s₀ s₂ : Shared} {sc : Sc} {rest : List Sc} {ι₀ ι : List Addr} {μ : MH} {it : Value} {x : Str} {xp : Pos} {elt iter : Expr} {ifs : List Expr} {scope : Scope} {pos : Pos} {its : List MV} {i : Nat} {G : MH → Prop} {hs : Heap} {St : Nat → List Addr → Heap → Prop} {c e : D} {o : Out MV} {sg' : Sg} {RR : Value → Addr → Result → Shared → Prop} {Lt : Addr}
    (P : Stepper C A sg' it (.Name x xp) its (putAt i) G hs St) (hc : CSound C n sg' ifs c) (he : ESound C true n sg' elt e) (K : CompOk sg sg' scope x i) (hsg : SgOk sg sc) (hA : AOk true n (sc :: rest) A) (hL : topL (sc :: rest) = some Lt) (hI : Inv C.h₀ (sc :: rest) ι μ s₂.heap) (hK : Keep s₀.heap hs) (hK' : Keep hs s₂.heap) (hst : St 0 ι s₂.heap) (hpre : ι₀ <+: ι) (hsh : ∃ h tk, s₂ = { s₀ with heap := h, toks := tk })
    (ho : compM G (putAt i) c e μ.length its sc.ρ (μ ++ [[]]) = o) (hne : o ≠ .stuck)
    (hok : ∀ a L s' μ' ι' ρ' fl, o = .ok (.lst μ.length) μ' → ι'[μ.length]? = some a → Go C ι₀ s₀ ((scC scope sg' i sc L).at ρ' :: sc :: rest) ι' μ' s' → RR (.ref a) L (.ok fl) s')
    (herr : ∀ a L s' cc μ' ι' ρ' y, o = .exc cc μ' → Go C ι₀ s₀ ((scC scope sg' i sc L).at ρ' :: sc :: rest) ι' μ' s' → FlyT C cc y (rawInt Lt) s'.heap → RR (.ref a) L (.error y) s') :
    wpAny (model C.prog C.w) A (newList []) (fun acc s₃ => wpAny (model C.prog C.w) A (newFunctionEnv scope sc.env.globals (closeL sc.env.cells scope.names []) [] sc.env.qual none .none (some sc.env)) (fun cenv s₄ =>
      codeAny (model C.prog C.w) A (.compStart (.ListComp elt [⟨.Name x xp, iter, ifs, 0⟩] scope pos) 0 it acc { cenv with scope := relabel scope sc.env }) (RR acc cenv.locals) s₄) E s₃) E s₂ := by
  refine wpAny_newObj_type (wpAny_newFunctionEnv K.cell (by intro y hy; simp at hy) (fun h₁ hns₁ hsb₁ => ?_) K.kind)
  dsimp only at hns₁ hsb₁ ⊢
  have I2 := hI.newList (xs := []) (vs := []) .nil
  generalize hH2 : s₂.heap.push { cls := .type "list", dict := none, data := .seq ([] : List Value).toArray } = H2 at hns₁ hsb₁ I2 ⊢
  have hlt : ∀ b o, H2.get? b = some o → h₁.get? b = some o := fun b o e2 => (hsb₁.2 b (Nat.ne_of_lt (Heap.lt_size e2))).trans (Heap.get?_push_of_some _ e2)
  have K2 : Keep s₂.heap H2 := by rw [← hH2]; exact Keep.push _ _
  have K3 : Keep H2 h₁ := Keep.of_ext hlt
  have I3 := I2.enterC hsg K hns₁ (none_at_size _) hlt
  have hpre2 : ι <+: ι ++ [s₂.heap.objs.size] := List.prefix_append ..
  have hka : (ι ++ [s₂.heap.objs.size])[μ.length]? = some s₂.heap.objs.size := by rw [← hI.hp.len]; simp
  have hA' : AOk true n (scC scope sg' i sc H2.objs.size :: sc :: rest) A := by
    refine ⟨?_, hA.depth, hA.units, hA.hand, hA.guards, ⟨?_, ?_, hA.stk⟩, .inr ?_⟩
    · rw [hA.frames]; rfl
    · show sc.env.frame = topL (scC scope sg' i sc H2.objs.size :: sc :: rest)
      rw [hA.stk.1]; rfl
    · exact K.kind
    · show (topL (sc :: rest)).isSome = true
      rw [hL]; rfl
  have hsg' : SgOk sg' (scC scope sg' i sc H2.objs.size) := ⟨(relabel_names hsg scope).trans K.names.symm, K.kind, rfl, K.fr.symm, hsg.gl, hsg.bl, fun e => by cases e⟩
  have loop : ∀ s₃ : Shared, s₃ = { s₂ with heap := h₁, toks := s₂.toks + ([] : List (Str × Value)).length } →
      codeAny (model C.prog C.w) A (.compLoop (.ListComp elt [⟨.Name x xp, iter, ifs, 0⟩] scope pos) 0 it (.ref s₂.heap.objs.size) (scC scope sg' i sc H2.objs.size).env)
        (RR (.ref s₂.heap.objs.size) H2.objs.size) s₃ := by
    rintro s₃ rfl
    refine codeAny_mono (compLoop_ (s₀ := s₀) (ι₀ := ι₀ ++ (ι ++ [s₂.heap.objs.size]).drop ι₀.length) (L := Lt) (ρ := sc.ρ) P hc he hsg' hA' hL I3 hK ((hK'.trans K2).trans K3) (P.keep _ _ _ _ _ hst hpre2 (K2.trans K3)) ?_ hka ?_ ?_ ho hne) fun r s' hr => ?_
    · obtain ⟨t, rfl⟩ := hpre
      simp
    · obtain ⟨h2, t2, e2⟩ := hsh
      exact ⟨h₁, s₂.toks + 0, by rw [e2]; rfl⟩
    · intro v
      funext z
      simp only [putAt, Rho.set, scC]
      split
      · rfl
      · rfl
    · have hpp : ι₀ <+: ι₀ ++ (ι ++ [s₂.heap.objs.size]).drop ι₀.length := List.prefix_append ..
      have hpe : ι₀ ++ (ι ++ [s₂.heap.objs.size]).drop ι₀.length = ι ++ [s₂.heap.objs.size] := by
        obtain ⟨t, rfl⟩ := hpre
        simp
      have wk : ∀ {fs : List Sc} {ι' : List Addr} {μ' : MH} {s' : Shared}, Go C (ι₀ ++ (ι ++ [s₂.heap.objs.size]).drop ι₀.length) s₀ fs ι' μ' s' → Go C ι₀ s₀ fs ι' μ' s' := fun g => ⟨g.sh, hpp.trans g.pre, g.inv, g.keep⟩
      cases r with
      | ok fl =>
        obtain ⟨v, μ', ι', ρ', e1, g1⟩ := hr
        have hv := compM_ok (ho.trans e1)
        subst hv
        refine hok _ _ s' μ' ι' ρ' fl e1 ?_ (wk g1)
        have hp := g1.pre
        rw [hpe] at hp
        obtain ⟨t, rfl⟩ := hp
        rw [List.getElem?_append_left (List.getElem?_eq_some_iff.mp hka).1]; exact hka
      | error y =>
        obtain ⟨cc, μ', ι', ρ', e1, g1, f1⟩ := hr
        exact herr _ _ s' cc μ' ι' ρ' y e1 (wk g1) f1
  exact codeAny_compStart_list (loop _ rfl) (P.self (ι ++ [s₂.heap.objs.size]) _ _ _ (P.keep _ _ _ _ _ hst hpre2 (K2.trans K3)) (loop _ rfl))

theorem flyT_but {c : Str} {y fl : Value} {h h' : Heap} {L : Addr} {m : Str → Option Value} (f : FlyT C c y fl h) (hm : h.Ns L m) (hs : Heap.SameBut L h h') : FlyT C c y fl h' := by
  obtain ⟨a, oe, vs, T, oT, ts, h1, h2, h3, h4, h4', h5, h6, h7, h8, h9, h10, h11, h12, h13⟩ := f.it
  have ne : ∀ b o us, h.get? b = some o → o.data = .fields us → b ≠ L := fun b o us hb hd q => by
    subst q
    obtain ⟨o', es, ep, ho', hd', _⟩ := hm
    rw [hb] at ho'; cases ho'; rw [hd] at hd'; cases hd'
  exact ⟨a, oe, vs, T, oT, ts, h1, h2, (hs.2 a (ne a oe vs h3 h5)).trans h3, h4, h4', h5, h6, h7, h8, h9, (hs.2 T (ne T oT ts h10 h12)).trans h10, h11, h12, h13⟩

theorem pass_ {α : Type} {A : Around} {s : Shared} {fs : List Sc} {ι : List Addr} {μ : MH} {c : Str} {y fl : Value} {env : Env} {w : String} {Q : α → Shared → Prop} {E : Value → Shared → Prop} (hI : Inv C.h₀ fs ι μ s.heap) (f : FlyT C c y fl s.heap)
    (k : ∀ s₁, Go C ι s fs ι μ s₁ → Fly C c y s₁.heap → E y s₁) : wpAny (model C.prog C.w) A (passOn w y env : Sem α) Q E s := by
  obtain ⟨a, oe, vs, T, oT, ts, rfl, h2, h3, h4, h4', h5, h6, h7, h8⟩ := f.it
  unfold passOn
  refine wpAny_bind (wpAny_field h3 h5 h7 ?_)
  rw [if_neg (by simp)]
  refine wpAny_bind (flight_ hI f fun s₁ g1 f1 => ?_)
  exact wpAny_throw (k s₁ g1 f1.fly)

theorem comp_closure {sc : Sc} {rest : List Sc} {ι : List Addr} {μ : MH} {h h₀ : Heap} {sg sg' : Sg} {scope : Scope} {x : Str} {i : Nat} (hI : Inv h₀ (sc :: rest) ι μ h) (hs : SgOk sg sc) (K : CompOk sg sg' scope x i) : closureFor scope sc.env = pure (closeL sc.env.cells scope.names []) := by
  refine closure_eq fun p hp hf => ?_
  obtain ⟨h1, r, h2, h3⟩ := K.free p hp hf
  obtain ⟨c, ov, e1, _⟩ := (hI.sc sc List.mem_cons_self).cel r.1 r.2 (by rw [hs.vars]; exact h2) (by rw [hs.kindOf, h3]; exact h1)
  exact ⟨c, by rw [← e1, h3]⟩

theorem snd_comp {elt iter : Expr} {x : Str} {xp pos : Pos} {ifs : List Expr} {scope : Scope} {i : Nat} {c e : D} {src : DI} {sg' : Sg} (hi : ISound C n sg iter (.Name x xp) sg' (putAt i) src) (hc : CSound C n sg' ifs c) (he : ESound C true n sg' elt e) (K : CompOk sg sg' scope x i) (hfs : ∀ env x, foldedSetIterable iter env x = pure x) :
    ESound C true n sg (.ListComp elt [⟨.Name x xp, iter, ifs, 0⟩] scope pos) (dComp src c e i) := fun A s sc rest ι μ hs hA hI hne => by
  obtain ⟨Lt, hL⟩ : ∃ L, topL (sc :: rest) = some L := by
    rcases hA.top with h | h
    · cases h
    · exact Option.isSome_iff_exists.mp h
  rw [eval_ListComp]
  refine wpAny_comprehension_free (use := none) rfl (hfs _) (comp_closure hI hs K) K.kind K.own ?_
  refine hi A s sc rest ι μ _ _ hs hA hI (bind_ne hne) (fun sr μ₁ ι₁ it s₁ hs' St e1 g1 K1 K2 hst P => ?_) fun y s₁ p => p.bind
  have E1 : dComp src c e i sc.ρ μ = compM sr.G (putAt i) c e μ₁.length sr.its sc.ρ (μ₁ ++ [[]]) := by unfold dComp; first | (rw [e1]; done) | (rw [e1]; rfl)
  refine comp_core (RR := fun acc L => compPost (model C.prog C.w) A (XPost C ι s (sc :: rest) (dComp src c e i sc.ρ μ)) none (EPost C ι s (sc :: rest) (dComp src c e i sc.ρ μ)) acc L) P hc he K hs hA hL g1.inv K1 K2 hst g1.pre g1.sh E1.symm hne ?_ ?_
  · intro a L s' μ' ι' ρ' fl e2 hk g2
    obtain ⟨m, hm, _⟩ := (g2.inv.sc _ List.mem_cons_self).loc
    refine ⟨m, hm, fun h' hsb => ?_⟩
    obtain ⟨I3, K3⟩ := g2.inv.letGo hsb
    obtain ⟨h2, t2, rfl⟩ := g2.sh
    exact ⟨_, μ', ι', e2, ⟨⟨_, _, rfl⟩, g2.pre, I3, g2.keep.trans K3⟩, .lst hk⟩
  · intro a L s' cc μ' ι' ρ' y e2 g2 f2
    obtain ⟨m, hm, _⟩ := (g2.inv.sc _ List.mem_cons_self).loc
    refine ⟨m, hm, fun h' hsb cenv hce => ?_⟩
    obtain ⟨I3, K3⟩ := g2.inv.letGo hsb
    obtain ⟨h2, t2, rfl⟩ := g2.sh
    refine pass_ (s := { s with heap := h', toks := t2 }) I3 (flyT_but f2 hm hsb) fun s₃ g3 f3 => ?_
    have g23 : Go C ι s (sc :: rest) ι' μ' { s with heap := h', toks := t2 } := ⟨⟨_, _, rfl⟩, g2.pre, I3, g2.keep.trans K3⟩
    exact ⟨cc, μ', ι', e2, g23.trans g3, f3⟩

theorem s_assignComp {elt iter : Expr} {x y : Str} {xp yp pos spos : Pos} {ifs : List Expr} {scope : Scope} {i j : Nat} {c e : D} {src : DI} {sg' : Sg} (hi : ISound C n sg iter (.Name x xp) sg' (putAt i) src) (hc : CSound C n sg' ifs c) (he : ESound C true n sg' elt e) (K : CompOk sg sg' scope x i) (hfs : ∀ env x, foldedSetIterable iter env x = pure x)
    (V : VarsOk sg.vars) (hy : (y, j) ∈ sg.vars) (hk : sg.names.lookup y = some .local) (hsw : ∀ env : Env, env.scope.names = sg.names → env.scope.kind = .function → swapsWith (.ListComp elt [⟨.Name x xp, iter, ifs, 0⟩] scope pos) (some (.Name y yp)) spos.line env = pure true) :
    S1Sound C true n sg (.Assign [.Name y yp] (.ListComp elt [⟨.Name x xp, iter, ifs, 0⟩] scope pos) spos) (dAssign j (dComp src c e i)) := fun A s sc rest ι μ hs hA hI hne => by
  obtain ⟨Lt, hL⟩ : ∃ L, topL (sc :: rest) = some L := by
    rcases hA.top with h | h
    · cases h
    · exact Option.isSome_iff_exists.mp h
  have hne1 : dComp src c e i sc.ρ μ ≠ .stuck := bind_ne hne
  rw [exec_Assign_Name_used _ _ _ _ (hsw _ hs.names hs.kind)]
  refine wpAny_bind (wpAny_standAt (wpAny_bind ?_))
  show wpAny _ A (do let _ ← comprehension (.ListComp elt [⟨.Name x xp, iter, ifs, 0⟩] scope pos) scope sc.env _ (newList []) false (eval iter sc.env) (some (assign (.Name y yp) sc.env))) _ _ s
  refine wpAny_bind (wpAny_mono (wpAny_comprehension_free (use := some (assign (.Name y yp) sc.env)) (Q := fun _ s' => SPost C ι s sc rest (dAssign j (dComp src c e i) sc.ρ μ) .next s') (E := XPost C ι s (sc :: rest) (dComp src c e i sc.ρ μ)) rfl (hfs _) (comp_closure hI hs K) K.kind K.own ?_) (fun _ s' hq => wpAny_pure (wpAny_pure hq)) fun z s' p => SXPost.of p)
  refine hi A s sc rest ι μ _ _ hs hA hI (bind_ne hne1) (fun sr μ₁ ι₁ it s₁ hs' St e1 g1 K1 K2 hst P => ?_) fun y s₁ p => p.bind
  have E1 : dComp src c e i sc.ρ μ = compM sr.G (putAt i) c e μ₁.length sr.its sc.ρ (μ₁ ++ [[]]) := by unfold dComp; first | (rw [e1]; done) | (rw [e1]; rfl)
  refine comp_core (RR := fun acc L => compPost (model C.prog C.w) A (XPost C ι s (sc :: rest) (dComp src c e i sc.ρ μ)) (some (assign (.Name y yp) sc.env)) (fun _ s' => SPost C ι s sc rest (dAssign j (dComp src c e i) sc.ρ μ) .next s') acc L) P hc he K hs hA hL g1.inv K1 K2 hst g1.pre g1.sh E1.symm hne1 ?_ ?_
  · intro a L s' μ' ι' ρ' fl e2 hka g2
    have I3 := g2.inv.swapC
    obtain ⟨h2, t2, rfl⟩ := g2.sh
    refine wpAny_assign_Name (store_ (s := s) (ι := ι) hs V hy (.inl hk) ⟨⟨h2, t2, rfl⟩, g2.pre, I3, g2.keep⟩ (.lst hka) fun s₃ g3 K3 => ?_)
    have I4 := g3.inv.swapBack rfl
    obtain ⟨m, hm, _⟩ := (I4.sc _ List.mem_cons_self).loc
    refine ⟨m, hm, fun h' hsb => ?_⟩
    obtain ⟨I5, K5⟩ := I4.letGo hsb
    obtain ⟨h3, t3, rfl⟩ := g3.sh
    exact ⟨.next, sc.ρ.set j (.lst μ₁.length), μ', ι', by unfold dAssign; first | (rw [e2]; done) | (rw [e2]; rfl), .next, ⟨⟨_, _, rfl⟩, g3.pre, I5, g3.keep.trans K5⟩⟩
  · intro a L s' cc μ' ι' ρ' z e2 g2 f2
    obtain ⟨m, hm, _⟩ := (g2.inv.sc _ List.mem_cons_self).loc
    refine ⟨m, hm, fun h' hsb cenv hce => ?_⟩
    obtain ⟨I3, K3⟩ := g2.inv.letGo hsb
    obtain ⟨h2, t2, rfl⟩ := g2.sh
    refine pass_ (s := { s with heap := h', toks := t2 }) I3 (flyT_but f2 hm hsb) fun s₃ g3 f3 => ?_
    have g23 : Go C ι s (sc :: rest) ι' μ' { s with heap := h', toks := t2 } := ⟨⟨_, _, rfl⟩, g2.pre, I3, g2.keep.trans K3⟩
    exact ⟨cc, μ', ι', e2, g23.trans g3, f3⟩
end
end Mine

set_option linter.unusedVariables false
namespace Mine
open PySem

section
variable {C : Cx} {q : Bool} {n : Nat} {sg : Sg}

/-- a < b < c -/
noncomputable def dChain (g1 g2 : MV → MV → MH → Out MV) (fl fm fr : D) : D := fun ρ μ => (fl ρ μ).bind fun a μ => (fm ρ μ).bind fun b μ => (g1 a b μ).bind fun c μ => match c with
  | .bool true => (fr ρ μ).bind fun d μ => g2 b d μ
  | .bool false => .ok (.bool false) μ
  | _ => .stuck

theorem chain_ {l m r : Expr} {op1 op2 : CmpOp} {fl fm fr : D} {g1 g2 : MV → MV → MH → Out MV} (hl : ESound C q n sg l fl) (hm : ESound C q n sg m fm) (hr : ESound C q n sg r fr) (ho1 : Op2 C q n (compareOp op1) g1) (ho2 : Op2 C q n (compareOp op2) g2)
    {A : Around} {s : Shared} {sc : Sc} {rest : List Sc} {ι : List Addr} {μ : MH} (hs : SgOk sg sc) (hA : AOk q n (sc :: rest) A) (hI : Inv C.h₀ (sc :: rest) ι μ s.heap) (hne : dChain g1 g2 fl fm fr sc.ρ μ ≠ .stuck) {o : Out MV} (heq : dChain g1 g2 fl fm fr sc.ρ μ = o) :
    wpAny (model C.prog C.w) A (eval l sc.env) (fun a s₁ => wpAny (model C.prog C.w) A (eval m sc.env) (fun b s₂ => wpAny (model C.prog C.w) A (compareOp op1 a b) (fun c s₃ => wpAny (model C.prog C.w) A (truthy c) (fun t s₄ =>
      if t then wpAny (model C.prog C.w) A (eval r sc.env) (fun d s₅ => wpAny (model C.prog C.w) A (compareOp op2 b d) (EPost C ι s (sc :: rest) o) (XPost C ι s (sc :: rest) o) s₅) (XPost C ι s (sc :: rest) o) s₄ else EPost C ι s (sc :: rest) o c s₄ ∧ TPost C ι s (sc :: rest) o false s₄)
      (XPost C ι s (sc :: rest) o) s₃) (XPost C ι s (sc :: rest) o) s₂) (XPost C ι s (sc :: rest) o) s₁) (XPost C ι s (sc :: rest) o) s := by
  rw [heq] at hne
  unfold dChain at heq
  have x1 : (fl sc.ρ μ).bind (fun a μ => (fm sc.ρ μ).bind fun b μ => (g1 a b μ).bind fun c μ => match c with
    | .bool true => (fr sc.ρ μ).bind fun d μ => g2 b d μ
    | .bool false => .ok (.bool false) μ
    | _ => .stuck) ≠ .stuck := by rw [heq]; exact hne
  rw [← heq]
  refine then_ hl hs hA hI x1 fun a μ₁ ι₁ x s₁ e1 gg1 r1 hne1 => ?_
  simp only [e1, Out.bind_ok] at heq ⊢
  refine wpAny_mono (then_ hm hs hA gg1.inv hne1 (Q := fun b s₂ => _) fun b μ₂ ι₂ y s₂ e2 gg2 r2 hne2 => ?_) (fun _ _ p => p) fun e s₂ p => p.after gg1
  simp only [e2, Out.bind_ok]
  have hne3 := bind_ne hne2
  refine wpAny_mono (ho1 A s₂ (sc :: rest) ι₂ μ₂ a b x y hA gg2.inv (r1.mono gg2.pre gg2.keep) r2 hne3) (fun c s₃ p => ?_) fun z s₃ p => p.bind.after (gg1.trans gg2)
  obtain ⟨cv, μ₃, ι₃, e3, gg3, r3⟩ := p
  simp only [e3, Out.bind_ok] at hne2 ⊢
  have G := (gg1.trans gg2).trans gg3
  cases cv with
  | bool t =>
    obtain rfl := r3.bool_inv
    refine wpAny_truthy_bool ?_
    cases t with
    | false => exact ⟨⟨.bool false, μ₃, ι₃, rfl, G, .bool _⟩, ⟨μ₃, ι₃, rfl, G⟩⟩
    | true =>
      simp only [if_true]
      refine wpAny_mono (then_ hr hs hA gg3.inv hne2 (Q := fun d s₅ => _) fun d μ₄ ι₄ z s₄ e4 gg4 r4 hne4 => ?_) (fun _ _ p => p) fun e s₂ p => p.after G
      simp only [e4, Out.bind_ok]
      exact wpAny_mono (ho2 A s₄ (sc :: rest) ι₄ μ₄ b d y z hA gg4.inv (r2.mono (gg3.trans gg4).pre (gg3.trans gg4).keep) r4 hne4) (fun _ _ p => p.after (G.trans gg4)) fun _ _ p => p.after (G.trans gg4)
  | _ => exact absurd rfl hne2

theorem snd_chain {l m r : Expr} {op1 op2 : CmpOp} {pos : Pos} {fl fm fr : D} {g1 g2 : MV → MV → MH → Out MV} (hl : ESound C q n sg l fl) (hm : ESound C q n sg m fm) (hr : ESound C q n sg r fr) (ho1 : Op2 C q n (compareOp op1) g1) (ho2 : Op2 C q n (compareOp op2) g2) (hlm : lastMarks [op1, op2] [m, r] = false) :
    ESound C q n sg (.Compare l [op1, op2] [m, r] pos) (dChain g1 g2 fl fm fr) := fun A s sc rest ι μ hs hA hI hne => by
  refine PyProof.Rows.Compare_chain (wpAny_mono (chain_ hl hm hr ho1 ho2 hs hA hI hne rfl) (fun a s₁ h₁ => PyProof.Rows.chain_link (wpAny_mono h₁ (fun b s₂ h₂ => wpAny_mono h₂ (fun c s₃ h₃ => wpAny_mono h₃ (fun t s₄ h₄ => ?_) fun _ _ p => p) fun _ _ p => p) fun _ _ p => p)) fun _ _ p => p) hlm
  cases t with
  | true => exact PyProof.Rows.chain_last h₄
  | false => exact h₄.1
theorem tst_chain {l m r : Expr} {op1 op2 : CmpOp} {pos : Pos} {fl fm fr : D} {g1 g2 : MV → MV → MH → Out MV} (hl : ESound C q n sg l fl) (hm : ESound C q n sg m fm) (hr : ESound C q n sg r fr) (ho1 : Op2 C q n (compareOp op1) g1) (ho2 : Op2 C q n (compareOp op2) g2) (hlm : lastMarks [op1, op2] [m, r] = false) :
    TSound C q n sg (.Compare l [op1, op2] [m, r] pos) (dChain g1 g2 fl fm fr) := fun A s sc rest ι μ hs hA hI hne hb => by
  refine PyProof.Rows.isTrue_chain (wpAny_mono (chain_ hl hm hr ho1 ho2 hs hA hI hne rfl) (fun a s₁ h₁ => PyProof.Rows.test_link (wpAny_mono h₁ (fun b s₂ h₂ => wpAny_mono h₂ (fun c s₃ h₃ => wpAny_mono h₃ (fun t s₄ h₄ => ?_) fun _ _ p => p) fun _ _ p => p) fun _ _ p => p)) fun _ _ p => p) hlm
  cases t with
  | true => exact PyProof.Rows.test_last (wpAny_mono h₄ (fun d s₅ h₅ => wpAny_mono h₅ (fun c s₆ p => truthy_post p hb) fun _ _ p => p) fun _ _ p => p)
  | false => exact h₄.2
end
end Mine

set_option linter.unusedVariables false
namespace Mine
open PySem

section
variable {C : Cx} {q : Bool} {n : Nat} {sg : Sg}

theorem OpL.mono {n' : Nat} {t : List Value → Sem Value} {f : List MV → MH → Out MV} (h : OpL C q n t f) (hn : n ≤ n') : OpL C q n' t f := fun A s fs ι μ a x hA hI hr hne => h A s fs ι μ a x (hA.mono hn id) hI hr hne

/-- a def of the program stands under its name -/
noncomputable def FnIs (C : Cx) (x : Str) (body : List Stmt) (ps : List Str) (sg : Sg) : Prop := ∃ a fd, C.mg x = some (.ref a) ∧ FnOk C a fd body ps sg
/-- a call of the name does what the meaning says -/
noncomputable def CallOk (C : Cx) (x : Str) (n : Nat) (g : List MV → MH → Out MV) : Prop := ∃ a o fd, C.mg x = some (.ref a) ∧ C.h₀.get? a = some o ∧ o.data = .func fd ∧ OpL C true n (fun vs => call (.ref a) vs) g

theorem callOk_of (CO : CxOk C) {x : Str} {body : List Stmt} {ps : List Str} {f : DS} (F : FnIs C x body ps sg) (hb : SSound C true n sg body f) : CallOk C x (n + 1) (dDef ps.length f) := by
  obtain ⟨a, fd, h1, K⟩ := F
  obtain ⟨o, h2, h3⟩ := K.ob
  exact ⟨a, o, fd, h1, h2, h3, def_sound CO K hb⟩

theorem snd_callF (CO : CxOk C) {x : Str} {m : Nat} {e : Expr} {es : List Expr} {np pos : Pos} {fa : DL} {g : List MV → MH → Out MV} (K : CallOk C x m g) (hm : m ≤ n)
    (hk : sg.names.lookup x = some .globalImplicit) (hd : (x == ("__debug__" : Str)) = false) (hL : LSound C true n sg (e :: es) fa) (hns : NoStar (e :: es)) :
    ESound C true n sg (.Call (.Name x np) (e :: es) [] pos) (dCall g fa) := by
  obtain ⟨a, o, fd, h1, h2, h3, h4⟩ := K
  exact snd_call CO (h4.mono hm) hk h1 hd h2 h3 hL hns

noncomputable def compSg (scope : Scope) (sg : Sg) (vars : List (Str × Nat)) : Sg := ⟨relab scope.names sg, vars, false⟩
theorem snd_comp' (vars : List (Str × Nat)) {elt iter : Expr} {x : Str} {xp pos : Pos} {ifs : List Expr} {scope : Scope} {i : Nat} {c e : D} {src : DI} (hi : ISound C n sg iter (.Name x xp) (compSg scope sg vars) (putAt i) src) (hc : CSound C n (compSg scope sg vars) ifs c) (he : ESound C true n (compSg scope sg vars) elt e) (K : CompOk sg (compSg scope sg vars) scope x i) (hfs : ∀ env x, foldedSetIterable iter env x = pure x) :
    ESound C true n sg (.ListComp elt [⟨.Name x xp, iter, ifs, 0⟩] scope pos) (dComp src c e i) := snd_comp hi hc he K hfs
theorem s_assignComp' (vars : List (Str × Nat)) {elt iter : Expr} {x y : Str} {xp yp pos spos : Pos} {ifs : List Expr} {scope : Scope} {i j : Nat} {c e : D} {src : DI} (hi : ISound C n sg iter (.Name x xp) (compSg scope sg vars) (putAt i) src) (hc : CSound C n (compSg scope sg vars) ifs c) (he : ESound C true n (compSg scope sg vars) elt e) (K : CompOk sg (compSg scope sg vars) scope x i) (hfs : ∀ env x, foldedSetIterable iter env x = pure x)
    (V : VarsOk sg.vars) (hy : (y, j) ∈ sg.vars) (hk : sg.names.lookup y = some .local) (hsw : ∀ env : Env, env.scope.names = sg.names → env.scope.kind = .function → swapsWith (.ListComp elt [⟨.Name x xp, iter, ifs, 0⟩] scope pos) (some (.Name y yp)) spos.line env = pure true) :
    S1Sound C true n sg (.Assign [.Name y yp] (.ListComp elt [⟨.Name x xp, iter, ifs, 0⟩] scope pos) spos) (dAssign j (dComp src c e i)) := s_assignComp hi hc he K hfs V hy hk hsw
end

/-! side conditions, by looking -/
theorem VarsOk.of {vars : List (Str × Nat)} (h1 : (vars.map (·.1)).Nodup) (h2 : (vars.map (·.2)).Nodup) : VarsOk vars := by
  induction vars with
  | nil => intro x i y j hx; cases hx
  | cons p r ih =>
    rw [List.map_cons, List.nodup_cons] at h1 h2
    have ih' := ih h1.2 h2.2
    intro x i y j hx hy
    rcases List.mem_cons.mp hx with ex | hx
    · rcases List.mem_cons.mp hy with ey | hy
      · rw [← ex] at ey; cases ey; simp
      · refine ⟨fun e => ?_, fun e => ?_⟩
        · subst e; exact absurd (List.mem_map.mpr ⟨_, hy, rfl⟩) (by rw [← ex] at h1; exact h1.1)
        · subst e; exact absurd (List.mem_map.mpr ⟨_, hy, rfl⟩) (by rw [← ex] at h2; exact h2.1)
    · rcases List.mem_cons.mp hy with ey | hy
      · refine ⟨fun e => ?_, fun e => ?_⟩
        · subst e; exact absurd (List.mem_map.mpr ⟨_, hx, rfl⟩) (by rw [← ey] at h1; exact h1.1)
        · subst e; exact absurd (List.mem_map.mpr ⟨_, hx, rfl⟩) (by rw [← ey] at h2; exact h2.1)
      · exact ih' x i y j hx hy

/-- what must be looked at for a comprehension -/
noncomputable def compOkB (sg : Sg) (scope : Scope) (vars : List (Str × Nat)) (x : Str) (i : Nat) : Bool :=
  scope.kind == .function && (scope.names.all fun y => y.2 != .cell) && (scope.names.all fun y => y.2 != .local || scope.names.lookup y.1 == some .local) &&
  decide ((vars.map (·.1)).Nodup) && decide ((vars.map (·.2)).Nodup) && decide ((x, i) ∈ vars) && (relab scope.names sg).lookup x == some .local &&
  (vars.all fun p => p == (x, i) || (decide (p ∈ sg.vars) && decide ((p.1, NameKind.free) ∈ scope.names) && sg.names.lookup p.1 == some .cell && (relab scope.names sg).lookup p.1 == some .cell)) &&
  (scope.names.all fun y => y.2 != .free || (sg.names.lookup y.1 == some .cell && sg.vars.any fun p => p.1 == y.1))
theorem compOk_of {sg : Sg} {scope : Scope} {vars : List (Str × Nat)} {x : Str} {i : Nat} (h : compOkB sg scope vars x i = true) : CompOk sg (compSg scope sg vars) scope x i := by
  simp only [compOkB, Bool.and_eq_true, decide_eq_true_eq, beq_iff_eq, List.all_eq_true, Bool.or_eq_true, bne_iff_ne, List.any_eq_true] at h
  obtain ⟨⟨⟨⟨⟨⟨⟨⟨h1, h2⟩, h3⟩, h4⟩, h5⟩, h6⟩, h7⟩, h8⟩, h9⟩ := h
  exact ⟨rfl, rfl, h1, h2, fun y hy e => (h3 y hy).resolve_left (fun q => q e), VarsOk.of h4 h5, h6, h7, fun p hp => (h8 p hp).imp id fun ⟨⟨⟨a, b⟩, c⟩, d⟩ => ⟨a, b, c, d⟩, fun y hy e => (h9 y hy).resolve_left (fun q => q e)⟩

theorem swap_yes {sg : Sg} {elt : Expr} {gs : List Comprehension} {scope : Scope} {pos yp : Pos} {y : Str} {l : Nat} (h : (sg.names.lookup y == some .local && yp.line == pos.line && !(scope.names.any fun (n, k) => n == y && (k == .local || k == .cell))) = true) :
    ∀ env : Env, env.scope.names = sg.names → env.scope.kind = .function → swapsWith (.ListComp elt gs scope pos) (some (.Name y yp)) l env = pure true := fun env h1 h2 => by
  unfold swapsWith Env.blockKind Env.kindOf
  simp only [h1, h2]
  simp only [Bool.and_eq_true] at h
  rw [show (Expr.ListComp elt gs scope pos).pos = pos from rfl]
  simp only [h.1.1, h.1.2, h.2]
  rfl
/-! where the program's defs lie -/
noncomputable def fnAt (p : Program) (k : Nat) : Option Stmt := (p.main.body.drop k).head?
noncomputable def bodyAt (p : Program) (k : Nat) : List Stmt := match fnAt p k with | some (.FunctionDef _ _ body ..) => body | _ => []
noncomputable def namesAt (p : Program) (k : Nat) : List (Str × NameKind) := match fnAt p k with | some (.FunctionDef _ _ _ _ _ _ scope ..) => scope.names | _ => []
end Mine

set_option linter.unusedVariables false
namespace Mine
open PySem PySem.W PyProof.Rows

/-! the program's defs as the heap holds them -/
noncomputable def objAt (K : Frag) (a : Addr) : Obj := (K.lookup a).getD { cls := .none, data := .plain }
noncomputable def fdAt (K : Frag) (a : Addr) (d : FuncData) : FuncData := match (objAt K a).data with | .func fd => fd | _ => d
noncomputable def fnB (K : Frag) (x : Str) (a : Addr) (ps : List Str) (sg : Sg) (d : FuncData) : Bool :=
  let fd := fdAt K a d
  (match nsIn K mainGlobals x with | some (some (.ref b)) => b == a | _ => false) && (K.lookup a).isSome && (match (objAt K a).data with | .func _ => true | _ => false) && codeIn K fd.code fd.qualname && fd.closure.isEmpty && fd.scope.names == sg.names && sg.fr &&
  fd.globals == mainGlobals && fd.builtins == builtinsNs && !fd.scope.isCoroutine && !fd.scope.isGenerator && fd.scope.kind == .function &&
  ((List.range ps.length).all fun j => match ps[j]? with | some y => decide ((y, j) ∈ sg.vars) | none => true) && decide ((cellsFrom 0 sg.names []).map (·.1)).Nodup && decide (sg.vars.map (·.1)).Nodup && decide (sg.vars.map (·.2)).Nodup &&
  sg.vars.all fun p => sg.names.lookup p.1 == some .local || (sg.names.lookup p.1 == some .cell && ((cellsFrom 0 sg.names []).lookup p.1).isSome)

theorem isSome_lookup {l : List (Str × Addr)} {x : Str} : (l.lookup x).isSome = (l.map (·.1)).any (fun y => x == y) := by
  induction l with
  | nil => rfl
  | cons p r ih =>
    obtain ⟨y, c⟩ := p
    rw [List.lookup_cons, List.map_cons, List.any_cons]
    cases h : x == y <;> simp [ih]

theorem fnIs_of {C : Cx} {K : Frag} (X : K.In C.h₀) (G : C.h₀.Ns mainGlobals C.mg) {x : Str} (a : Addr) {body : List Stmt} {ps : List Str} {sg : Sg} (d : FuncData) (h : fnB K x a ps sg d = true) (hb : (fdAt K a d).body = .stmts body)
    (hbind : ∀ vals : List Value, vals.length = ps.length → bindArgs (fdAt K a d) ⟨vals, []⟩ = pure (ps.zip vals)) : FnIs C x body ps sg := by
  simp only [fnB, Bool.and_eq_true, decide_eq_true_eq, beq_iff_eq, List.all_eq_true, Bool.or_eq_true, List.isEmpty_iff, Bool.not_eq_true', List.mem_range] at h
  obtain ⟨⟨⟨⟨⟨⟨⟨⟨⟨⟨⟨⟨⟨⟨⟨⟨h1, h2⟩, h3⟩, h4⟩, h5⟩, h6⟩, h7⟩, h8⟩, h9⟩, h10⟩, h11⟩, h12⟩, h13⟩, h14⟩, h15⟩, h16⟩, h17⟩ := h
  have hmg : C.mg x = some (.ref a) := by
    refine mg_of X G ?_
    split at h1
    · rename_i b hb'; rw [hb', beq_iff_eq.mp h1]
    · cases h1
  obtain ⟨o, ho⟩ := Option.isSome_iff_exists.mp h2
  have hobj : objAt K a = o := by simp [objAt, ho]
  have hdata : o.data = .func (fdAt K a d) := by
    rw [hobj] at h3
    unfold fdAt
    rw [hobj]
    split at h3
    · rename_i fd e; simp only [e]
    · cases h3
  refine ⟨a, fdAt K a d, hmg, ⟨⟨o, X _ _ ho, hdata⟩, codeRec_of X h4, hb, h5, h6, h7, h8, h9, h10, h11, h12, hbind, VarsOk.of h15 h16, fun j y hy => ?_, h14, fun y i hy => ?_⟩⟩
  · have := h13 j (List.getElem?_eq_some_iff.mp hy).1
    rw [hy] at this
    exact of_decide_eq_true this
  · rcases h17 _ hy with e | ⟨e1, e2⟩
    · exact .inl e
    · refine .inr ⟨e1, fun k => ?_⟩
      rw [isSome_lookup] at e2 ⊢
      rw [cf_names sg.names k 0 [] [] rfl]
      exact e2

noncomputable def addrIn (K : Frag) (x : Str) : Addr := match nsIn K mainGlobals x with | some (some (.ref b)) => b | _ => 0
theorem fnIs_look {C : Cx} {K : Frag} (X : K.In C.h₀) (G : C.h₀.Ns mainGlobals C.mg) {x : Str} {body : List Stmt} {ps : List Str} {sg : Sg} (h : fnB K x (addrIn K x) ps sg default = true) (hb : (fdAt K (addrIn K x) default).body = .stmts body)
    (hbind : ∀ vals : List Value, vals.length = ps.length → bindArgs (fdAt K (addrIn K x) default) ⟨vals, []⟩ = pure (ps.zip vals)) : FnIs C x body ps sg := fnIs_of X G _ _ h hb hbind

/-! the end -/
theorem well_ints {P : Params} {h : Heap} : ∀ {vs : List Value} {ns : List Int}, WellAll P h vs (ofPys (ns.map .int)) → vs.length = ns.length ∧ ∀ (i : Nat) (k : Int), ns[i]? = some k → ∃ t, vs[i]? = some (.int k t)
  | vs, [], w => by cases w; exact ⟨rfl, fun i k h => by simp at h⟩
  | vs, n :: ns, w => by
    cases w with
    | cons w1 w2 =>
      cases w1
      rename_i t
      obtain ⟨h1, h2⟩ := well_ints w2
      refine ⟨by simp [h1], fun i k hk => ?_⟩
      cases i with
      | zero => simp at hk; subst hk; exact ⟨t, rfl⟩
      | succ i => simp at hk; obtain ⟨t', e⟩ := h2 i k hk; exact ⟨t', by simpa using e⟩

theorem law_end {p : Program} {w : World} {s₁ : Shared} {mg mb : Str → Option Value} {fa l : Addr} {c : ClaimW} {cl : Str → Option Addr} {mean : ExcName → Option Value} {args : List WData} {ns : List Int} {P : Params} {n : Nat} {g : List MV → MH → Out MV} {x : Str}
    (K : CallOk ⟨p, w, s₁.heap, mg, mb⟩ x n g) (hn : n ≤ 400) (hmg : mg x = some (.ref fa)) (hw : Well P s₁.heap (.ref l) (ofPy (.list (ns.map .int)))) (hg : s₁.gens = #[]) (hlaw : ∃ μ, g [.scr ns] [] = .ok (.bool true) μ)
    (hr : ∀ cls, c.raises args cls = false) (hp : c.post args (.bool true) args = true) :
    wpAny (model p w) callerA ((fun f vs => call f vs) (.ref fa) [.ref l]) (fun v s' => GoodWG c cl mean args s₁ (.ok (.ret v)) s') (fun e s' => GoodWG c cl mean args s₁ (.error e) s') s₁ := by
  obtain ⟨a, o, fd, h1, h2, h3, h4⟩ := K
  have ha : a = fa := by
    have h1' : mg x = some (.ref a) := h1
    rw [hmg] at h1'; cases h1'; rfl
  subst ha
  obtain ⟨μ, hμ⟩ := hlaw
  cases hw with
  | list hl ha =>
    rename_i vs
    obtain ⟨e1, e2⟩ := well_ints ha
    have hI : Inv s₁.heap [] [] [] s₁.heap := ⟨⟨fun _ _ e => e, rfl, List.nodup_nil, fun a h => by (cases h), fun k xs h => by simp at h⟩, fun f h => by (cases h), List.Pairwise.nil, fun f h => by (cases h)⟩
    have hA : AOk true n [] callerA := ⟨rfl, by show 1 + claimMargin + n < recursionLimit; simp only [claimMargin, recursionLimit]; omega, by show 4 + 20 * n + 60 < cLine; simp only [cLine]; omega, fun _ => rfl, rfl, trivial, .inl rfl⟩
    refine wpAny_mono (h4 callerA s₁ [] [] [] [.scr ns] [.ref l] hA hI (.one (.scr (n := 0) hl e1 e2)) (by rw [hμ]; exact fun e => by cases e)) (fun v s' p => ?_) fun e s' p => ?_
    · obtain ⟨v', μ', ι', e3, g3, r3⟩ := p
      rw [hμ] at e3
      cases e3
      obtain rfl := r3.bool_inv
      obtain ⟨h', tk, rfl⟩ := g3.sh
      refine GoodW.toG ⟨.inl ⟨_, .bool true, [], rfl, hr, .bool _, hp, fun _ => ⟨List.nodup_nil, fun a h => by cases h⟩⟩, fun b o hb => g3.inv.hp.base b o hb, rfl, hg⟩
    · obtain ⟨cc, μ', ι', e3, _⟩ := p
      rw [hμ] at e3
      cases e3

theorem cxOk_of {q : Program} {loose : List Str} {mean : ExcName → Option Value} {p : Program} {w : World} {mg mb : Str → Option Value} {h : Heap} (T : Top q loose mean mg mb h) : CxOk ⟨p, w, h, mg, mb⟩ := ⟨T.g, T.b, T.nolimit, T.nodigits⟩
theorem gint_of {C : Cx} {K : Frag} (X : K.In C.h₀) (G : C.h₀.Ns mainGlobals C.mg) {x : Str} {i : Int} (h : (match nsIn K mainGlobals x with | some (some (.int j _)) => j == i | _ => false) = true) : ∃ t, C.mg x = some (.int i t) := by
  split at h
  · rename_i j t e
    rw [← beq_iff_eq.mp h]; exact ⟨t, mg_of X G e⟩
  · cases h
theorem builtin_of {C : Cx} {K : Frag} (X : K.In C.h₀) (G : C.h₀.Ns mainGlobals C.mg) {q : Program} {loose : List Str} {mean : ExcName → Option Value} (T : Top q loose mean C.mg C.mb C.h₀) {x : Str} {v : Value} (h : (match nsIn K mainGlobals x with | some none => true | _ => false) = true) (hv : bootBuiltins x = some v) (hn : x ≠ "__name__") : C.mg x = none ∧ C.mb x = some v := by
  split at h
  · rename_i e
    exact ⟨mg_none_of X G e, (T.builtins x hn).trans hv⟩
  · cases h
end Mine

set_option linter.unusedVariables false
set_option maxRecDepth 100000
namespace Mine
open PySem PySem.W PyProof.Rows

section
variable {prog : Program} {w : World} {A : Around} {E : Value → Shared → Prop} {s : Shared} {K : Frag} {x D : Addr} {ox : Obj} {B newId : String} {bmB : List Value} {mg : Str → Option Value} {nm : Str}

theorem exc_class {Q : Option Value → Shared → Prop} (FB : ExcAttrBase B bmB) (O : OwnClsQ nm D bmB newId mg s.heap) (X : K.In s.heap) (I : InstAt s.heap x ox D none)
    (hga : findIn K (.ref D) "__getattribute__" = some (some (.builtin "BaseException.__getattribute__"))) (hno : findIn K (.ref D) "__getattr__" = some none)
    (hf : findObj K D none "__class__" = some (.bind (.builtin "getset_descriptor.__get__") (.builtin "object.__class__"))) (hm : mroIn K D (.type "object") = some true)
    (h : Q (some (.ref D)) { s with toks := s.toks + 1 }) : wpAny (model prog w) A (getAttr? (.ref x) "__class__") Q E s := by
  obtain ⟨bm, N, nm', q, bs, hdct, sn, sub, ab, col, dd, k0, k1, k2, k3, k5, mN, hC, hN, hq, T⟩ := O.obj
  obtain ⟨hh, g, d, t, os⟩ := s
  have L0 := I.type (M := model prog w)
  have L1 := looks_findIn (M := model prog w) X hga
  have L2 := looks_findIn (M := model prog w) X hno
  have L3 := looks_find (M := model prog w) X I hf
  have f3 := FB.ga.bind (.ref x)
  unfold getAttr? getAttrBy? getAttrBy
  refine wpAny_bind (wpAny_mkText (wpAny_bind (wpAny_attempt (wpAny_holding (wpAny_bind (L0.at (wpAny_bind (L1.at ?_))))))))
  dsimp only
  have hx2 : (Value.builtin "BaseException.__getattribute__" == Value.builtin "object.__getattribute__") = false := by decide +kernel
  rw [hx2, Bool.and_false]
  simp only [Bool.false_eq_true, if_false]
  unfold getAttrByItsOwn hookBefore
  refine wpAny_bind ?_
  simp only [onTheHeap, if_true]
  refine L2.at ?_
  refine wpAny_bind (wpAny_attempt (wpAny_holding ?_))
  unfold callGetattribute boundAndCalled
  simp only [Bool.false_and, Bool.false_eq_true, if_false]
  rw [f3]
  refine wpAny_bind (wpAny_pure ?_)
  dsimp only [List.cons_append, List.nil_append]
  refine wpAny_call (codeAny_call_builtin FB.ga.plain F.entry_bexc_ga (wpAny_check_ga_own FB hC T I.at_ I.cls ?_))
  unfold Builtin.«object.__getattribute__»
  refine wpAny_bind (wpAny_pure ?_)
  refine wpAny_bind (wpAny_pure ?_)
  refine wpAny_bind (L0.at ?_)
  refine wpAny_bind (L3.at ?_)
  show wpAny _ _ (holding [Value.builtin "object.__class__"] (call (.builtin "getset_descriptor.__get__") [.builtin "object.__class__", .ref x, .ref D]) >>= ret) _ _ _
  refine wpAny_bind (wpAny_holding (wpAny_call (class_get (s := ⟨hh, g, d, t + 1, os⟩) X I hm ?_)))
  exact wpAny_pure (wpAny_pure (wpAny_pure h))
end

/-! the program's own exceptions -/
noncomputable def valueBm : List Value := [.type "ValueError", .type "Exception", .type "BaseException", .type "object"]
/-- c is d or below it (all classes of ours lie under WebError, and that under ValueError) -/
noncomputable def subX (c d : Str) : Bool := c == d || d == Str.ofString "WebError" || d == Str.ofString "ValueError"
noncomputable def clsV (K : Frag) (d : Str) : Value := if d == Str.ofString "ValueError" then .type "ValueError" else .ref (addrIn K d)
noncomputable def excB (K : Frag) (cs : List Str) : Bool :=
  (cs.all fun c =>
    (match nsIn K mainGlobals c with | some (some (.ref _)) => true | _ => false) && (clsIn K (addrIn K c)).isSome && findIn K (.ref (addrIn K c)) "__getattribute__" == some (some (.builtin "BaseException.__getattribute__")) && findIn K (.ref (addrIn K c)) "__getattr__" == some none &&
    (match findObj K (addrIn K c) none "__class__" with | some (.bind (.builtin a) (.builtin b)) => a == "getset_descriptor.__get__" && b == "object.__class__" | _ => false) && mroIn K (addrIn K c) (.type "object") == some true) &&
  cs.all fun c => (Str.ofString "ValueError" :: cs).all fun d => exmOne K (.ref (addrIn K c)) (clsV K d) == some (subX c d) && kitOne K (.ref (addrIn K c)) (clsV K d) == some (subX c d)
structure ExcEnv (C : Cx) (cs : List Str) : Prop where
  ex : ∃ K : Frag, K.In C.h₀ ∧ excB K cs = true ∧ ∀ c ∈ cs, OwnClsQ c (addrIn K c) valueBm "ValueError.__new__" C.mg C.h₀

theorem excEnv_of {C : Cx} {cs : List Str} {K : Frag} {q : Program} {loose : List Str} {mean : ExcName → Option Value} (T : Top q loose mean C.mg C.mb C.h₀) (X : K.In C.h₀) (h : excB K cs = true) (hs : ∀ c ∈ cs, specOf q c = some ("ValueError.__new__", valueBm)) : ExcEnv C cs := by
  refine ⟨K, X, h, fun c hc => ?_⟩
  obtain ⟨D, O, _⟩ := T.ownAt (hs c hc)
  have h' := h
  simp only [excB, Bool.and_eq_true, List.all_eq_true] at h'
  have hn := (h'.1 c hc).1.1.1.1.1
  split at hn
  · rename_i b hb
    have hm := mg_of X T.g hb
    have e : D = b := by have := O.bound; rw [hm] at this; cases this; rfl
    have ea : addrIn K c = b := by simp only [addrIn, hb]
    rw [ea, ← e]; exact O
  · cases hn

theorem clsAt_inj {h : Heap} {c : Str} {a b : Addr} (x : ClsAt h c a) (y : ClsAt h c b) : a = b := by
  obtain ⟨m, h1, h2⟩ := x
  obtain ⟨m', h3, h4⟩ := y
  have g1 := Claim2Try.globalOf_of_ns h1 c
  have g2 := Claim2Try.globalOf_of_ns h3 c
  rw [h2] at g1; rw [h4] at g2; rw [g1] at g2; cases g2; rfl

noncomputable def isiX (cs : List Str) (d : Str) (v : MV) (μ : MH) : Out MV := match v with | .exc c => if c ∈ cs then .ok (.bool (subX c d)) μ else .stuck | _ => .stuck

section
variable {C : Cx} {q : Bool} {n : Nat} {sg : Sg} {cs : List Str}

theorem kitx_exc {K : Frag} {c : Str} (X : K.In C.h₀) (h : excB K cs = true) (hc : c ∈ cs) (O : OwnClsQ c (addrIn K c) valueBm "ValueError.__new__" C.mg C.h₀) {a : Addr} :
    KitX K (.ref a) (.ref (addrIn K c)) (fun h => C.h₀.StaysIn h ∧ ∃ ox, InstAt h a ox (addrIn K c) none) := by
  simp only [excB, Bool.and_eq_true, List.all_eq_true, beq_iff_eq] at h
  obtain ⟨⟨⟨⟨⟨h1, h2⟩, h3⟩, h4⟩, h5⟩, h6⟩ := h.1 c hc
  have h5' : findObj K (addrIn K c) none "__class__" = some (.bind (.builtin "getset_descriptor.__get__") (.builtin "object.__class__")) := by
    split at h5
    · rename_i x y e
      simp only [Bool.and_eq_true, beq_iff_eq] at h5
      rw [e, h5.1, h5.2]
    · cases h5
  refine ⟨fun M h X' ⟨_, ox, I⟩ => I.type, fun M h X' ⟨_, ox, I⟩ => ?_, fun h tp dd its n sl X' htp => ?_, fun X' ⟨hb, ox, I⟩ k => exc_class F.attrBase_ValueError (O.keeps hb) X' I h3 h4 h5' h6 k⟩
  · obtain ⟨cd, hcd⟩ := Option.isSome_iff_exists.mp h2
    unfold clsIn at hcd
    split at hcd
    · rename_i c' d' cd' sl' ho
      intro A' Q' E' s' k q
      unfold isType loadHead
      exact wpAny_bind (wpAny_loadPart (k _ _ (X' _ _ ho)) (wpAny_pure q))
    · cases hcd
  · obtain ⟨cd, hcd⟩ := Option.isSome_iff_exists.mp h2
    refine Bool.eq_false_iff.mpr fun q => ?_
    have e : addrIn K c = tp := Value.ref.inj (beq_iff_eq.mp q)
    rw [e] at hcd
    unfold clsIn at hcd
    split at hcd
    · rename_i c' d' cd' sl' ho
      have z := (X' _ _ ho).symm.trans htp
      cases z
    · cases hcd

theorem snd_isiX (CO : CxOk C) (X : ExcEnv C cs) {x t : Str} {e : Expr} {np tp pos : Pos} {f : D} (he : ESound C q n sg e f) (hst : ∀ env, starEach [e, .Name t tp] env = [(false, eval e env), (false, eval (.Name t tp) env)])
    (hk : sg.names.lookup x = some .globalImplicit) (hv : C.mg x = none ∧ C.mb x = some (.builtin "isinstance")) (hd : (x == ("__debug__" : Str)) = false)
    (hk' : sg.names.lookup t = some .globalImplicit) (hd' : (t == ("__debug__" : Str)) = false) (ht : (t ∈ cs ∧ (t == Str.ofString "ValueError") = false) ∨ (t = Str.ofString "ValueError" ∧ C.mg t = none ∧ C.mb t = some (.type "ValueError"))) :
    ESound C q n sg (.Call (.Name x np) [e, .Name t tp] [] pos) (dOp1 (isiX cs t) f) := fun A s sc rest ι μ hs hA hI hne => by
  have hns : NoStar [e, .Name t tp] := hst
  obtain ⟨K, KX, hB, hO⟩ := X.ex
  have hB' := hB
  simp only [excB, Bool.and_eq_true, List.all_eq_true, beq_iff_eq] at hB'
  have htv : (C.mg t = some (clsV K t) ∨ (C.mg t = none ∧ C.mb t = some (clsV K t))) ∧ t ∈ Str.ofString "ValueError" :: cs := by
    rcases ht with ⟨h1, h2⟩ | ⟨h1, h2, h3⟩
    · refine ⟨.inl ?_, List.mem_cons_of_mem _ h1⟩
      unfold clsV; rw [h2]; exact (hO t h1).bound
    · refine ⟨.inr ⟨h2, ?_⟩, by rw [h1]; exact List.mem_cons_self⟩
      unfold clsV; rw [h1, beq_self_eq_true]; rw [← h1]; exact h3
  refine wpAny_Call_NameR (name_glob CO hs hI hk (.inr hv) hd ?_)
  refine Calls.callWith_builtin (by rw [backTo_plain hns]; simp) ?_
  rw [backTo_plain hns]
  refine Calls.evalArgs_plain (Calls.spliced_cons (then_ he hs hA hI hne fun v μ₁ ι₁ y s₁ e1 g1 r1 hne1 => ?_))
  refine Calls.spliced_cons (name_glob CO hs g1.inv hk' htv.1 hd' (Calls.spliced_nil ?_))
  have E : dOp1 (isiX cs t) f sc.ρ μ = isiX cs t v μ₁ := by unfold dOp1; first | (rw [e1]; done) | (rw [e1]; rfl)
  rw [E]
  cases r1 with
  | exc hcl hnew ha hc hdict hdata =>
    rename_i a k o vs c
    by_cases hcm : c ∈ cs
    · have E2 : isiX cs t (.exc c) μ₁ = .ok (.bool (subX c t)) μ₁ := if_pos hcm
      rw [E2]
      have O := hO c hcm
      have hk2 : k = addrIn K c := clsAt_inj hcl ⟨C.mg, CO.g, O.bound⟩
      subst hk2
      have X1 : K.In s₁.heap := fun b o e => g1.inv.hp.base b o (KX b o e)
      refine kia_one (kitx_exc KX hB hcm O) X1 ⟨g1.inv.hp.base, o, ⟨ha, hc, by simp [notCls, hdata], by rw [hdict]; trivial⟩⟩ (hB'.2 c hcm t htv.2).2 (by intro q; cases q) fun tk => ?_
      exact (EPost.same (tk := tk) g1.inv (.bool _)).after g1
    · exact absurd (if_neg hcm) hne1
  | _ => exact absurd rfl hne1

/-! raise X(..) -/
noncomputable def dRaise (c : Str) (f : D) : DS := fun ρ μ => (f ρ μ).bind fun _ μ => .exc c μ
theorem s_raise (CO : CxOk C) (X : ExcEnv C cs) {x : Str} {e : Expr} {np cpos pos : Pos} {f : D} (hx : x ∈ cs) (he : ESound C true n sg e f) (hns : NoStar [e]) (hk : sg.names.lookup x = some .globalImplicit) (hd : (x == ("__debug__" : Str)) = false) :
    S1Sound C true n sg (.Raise (some (.Call (.Name x np) [e] [] cpos)) none pos) (dRaise x f) := fun A s sc rest ι μ hs hA hI hne => by
  obtain ⟨K, KX, hB, hO⟩ := X.ex
  have O := hO x hx
  obtain ⟨tl, N, nm, q, bs, hdct, sn, sub, ab, col, dd, k0, k1, k2, k3, k5, mN, hC, hN, hni, T⟩ := O.own.obj
  refine wpAny_Raise_call_subT (C := addrIn K x) (nm := nm) (q := q) (N := N) (bs := bs) (bm := tl) (hdct := hdct) (sn := sn) (sub := sub) (ab := ab) (col := col) (dd := dd) (k0 := k0) (k1 := k1) (k2 := k2) (k3 := k3) (k5 := k5)
    F.excBase_ValueError (mN := mN) (T.hasType F.excBase_ValueError.hasBase) (hA.hand rfl) (by rw [backTo_plain hns]; rfl) hni (name_glob CO hs hI hk (.inl O.bound) hd ⟨rfl, ?_⟩)
  rw [backTo_plain hns]
  refine Calls.evalArgs_plain (Calls.spliced_cons (thenS he hs hA hI hne fun v μ₁ ι₁ y s₁ e1 g1 r1 hne1 => Calls.spliced_nil ?_))
  have hb := g1.inv.hp.base
  refine ⟨rfl, by show 1 ≤ sizeLine; decide, hb _ _ hC, hN.keeps hb, T.keeps hb, fun h' e hm => ?_⟩
  obtain ⟨tt, t1, t2, t3⟩ := hm.there
  have hnew : C.h₀.get? e = none := by
    cases hq : C.h₀.get? e with
    | none => rfl
    | some o => have := hb e o hq; rw [hm.new] at this; cases this
  have hgo : Go C ι s (sc.at sc.ρ :: rest) ι₁ μ₁ { s₁ with heap := h' } := by
    obtain ⟨h1, tk, rfl⟩ := g1.sh
    exact ⟨⟨_, _, rfl⟩, g1.pre, g1.inv.ext hm.keeps, g1.keep.trans (Keep.of_ext hm.keeps)⟩
  exact ⟨x, μ₁, ι₁, sc.ρ, by unfold dRaise; first | (rw [e1]; done) | (rw [e1]; rfl), hgo, ⟨e, _, _, rfl, hnew, t1, ⟨addrIn K x, ⟨C.mg, CO.g, O.bound⟩, rfl⟩, rfl, rfl, ⟨by show 4 < 6; decide, fun _ => rfl⟩, .inl rfl⟩⟩
end
end Mine

set_option linter.unusedVariables false
namespace Mine
open PySem PySem.W PyProof.Rows

section
variable {C : Cx} {q : Bool} {n : Nat} {sg : Sg} {cs : List Str}

/-- the suite of a try: an exception finds the names as they were -/
noncomputable def XSound (C : Cx) (n : Nat) (sg : Sg) (b : List Stmt) (f : DS) : Prop :=
  ∀ (A : Around) (s : Shared) (sc : Sc) (rest : List Sc) (ι : List Addr) (μ : MH), SgOk sg sc → AOk true n (sc :: rest) A → Inv C.h₀ (sc :: rest) ι μ s.heap → f sc.ρ μ ≠ .stuck →
    wpAny (model C.prog C.w) A (execs b sc.env) (SPost C ι s sc rest (f sc.ρ μ)) (XPost C ι s (sc :: rest) (f sc.ρ μ)) s

theorem xs_expr {e : Expr} {pos : Pos} {f : D} (he : ESound C true n sg e f) (hsw : ∀ env, swapsWith e none pos.line env = pure false) : XSound C n sg [.Expr e pos] (dExpr f) := fun A s sc rest ι μ hs hA hI hne => by
  refine wpAny_execs_cons (wpAny_Expr_any (then_ he hs hA hI hne fun v μ₁ ι₁ x s₁ e1 g1 r1 hne1 => ?_) (by unfold interactive; rw [hs.kind]; rfl) (hsw _))
  exact wpAny_execs_nil ⟨.next, sc.ρ, μ₁, ι₁, by unfold dExpr; first | (rw [e1]; done) | (rw [e1]; rfl), .next, g1⟩
theorem xs_assign {x : Str} {i : Nat} {e : Expr} {p pos : Pos} {f : D} (he : ESound C true n sg e f) (V : VarsOk sg.vars) (hx : (x, i) ∈ sg.vars)
    (hk : sg.names.lookup x = some .local ∨ (sg.names.lookup x = some .cell ∧ sg.fr = true)) (hsw : ∀ env : Env, env.scope.names = sg.names → env.scope.kind = .function → swapsWith e (some (.Name x p)) pos.line env = pure false) :
    XSound C n sg [.Assign [.Name x p] e pos] (dAssign i f) := fun A s sc rest ι μ hs hA hI hne => by
  refine wpAny_execs_cons (wpAny_Assign_Name (then_ he hs hA hI hne fun v μ₁ ι₁ y s₁ e1 g1 r1 hne1 => store_ hs V hx hk g1 r1 fun s₂ g2 _ => ?_) (hsw _ hs.names hs.kind))
  exact wpAny_execs_nil ⟨.next, sc.ρ.set i v, μ₁, ι₁, by unfold dAssign; first | (rw [e1]; done) | (rw [e1]; rfl), .next, g2⟩

/-- an exception is handled: what the handler's own run may count on -/
theorem AOk.mark {fs : List Sc} {A : Around} (x : AOk q n fs A) (e : Value) : AOk false n fs (A.mark (some e)) := ⟨x.frames, x.depth, x.units, fun h => (by cases h), x.guards, x.stk, x.top⟩

noncomputable def clrAt (i : Nat) (ρ : Rho) : Rho := fun j => if j = i then none else ρ j
/-- a local name is unbound -/
theorem Inv.clear {h₀ h h' : Heap} {ι : List Addr} {μ : MH} {f : Sc} {rest : List Sc} {x : Str} {i : Nat} {v : Option Value} {m : Str → Option Value} (I : Inv h₀ (f :: rest) ι μ h) (V : VarsOk f.vars) (hx : (x, i) ∈ f.vars)
    (hm : h.Ns f.env.locals m) (hm' : h'.Ns f.env.locals (fun y => if y = x then v else m y)) (hs : Heap.SameBut f.env.locals h h') : Inv h₀ (f.at (clrAt i f.ρ) :: rest) ι μ h' ∧ Keep h h' := by
  have K : Keep h h' := Keep.but hs (Heap.Ns.notFrozen hm)
  refine ⟨⟨⟨fun b o e => ?_, I.hp.len, I.hp.nd, I.hp.new, fun k xs hk => ?_⟩, fun g hg => ?_, ?_, ?_⟩, K⟩
  · have hne : b ≠ f.env.locals := by
      rintro rfl
      rw [(I.nw f List.mem_cons_self).1] at e; cases e
    exact (hs.2 b hne).trans (I.hp.base b o e)
  · obtain ⟨a, vs, n, e1, e2, e3⟩ := I.hp.at_ k xs hk
    exact ⟨a, vs, n, e1, (hs.2 a (Ne.symm (ns_ne_list hm e2))).trans e2, e3.keep K⟩
  · rcases List.mem_cons.mp hg with rfl | hg
    · have S := I.sc f List.mem_cons_self
      obtain ⟨m₁, hm₁, hl⟩ := S.loc
      refine ⟨⟨_, hm', fun y j u hy hk hu => ?_⟩, fun y j hy hk => ?_, fun c hc => ?_⟩
      · have hji : j ≠ i := by
          rintro rfl
          have : (if j = j then (none : Option MV) else f.ρ j) = some u := hu
          rw [if_pos rfl] at this; cases this
        have hu' : f.ρ j = some u := by
          have : (if j = i then (none : Option MV) else f.ρ j) = some u := hu
          rwa [if_neg hji] at this
        have hyx : y ≠ x := fun e => hji ((V y j x i hy hx).mp e)
        obtain ⟨cv, e1, r1⟩ := hl y j u hy hk hu'
        have hmm : m₁ = m := by
          funext z
          obtain ⟨o1, es1, ep1, ho1, hd1, hu1, hf1⟩ := hm₁
          obtain ⟨o2, es2, ep2, ho2, hd2, hu2, hf2⟩ := hm
          rw [ho1] at ho2; cases ho2
          rw [hd1] at hd2; cases hd2
          exact (hf1 z).symm.trans (hf2 z)
        refine ⟨cv, ?_, r1.keep K⟩
        rw [if_neg hyx, ← hmm]; exact e1
      · obtain ⟨c, ov, e1, e2, e3⟩ := S.cel y j hy hk
        refine ⟨c, ov, e1, e2.sameBut hs (cell_ne_ns e2 hm), fun u hu => ?_⟩
        have hu' : f.ρ j = some u := by
          have : (if j = i then (none : Option MV) else f.ρ j) = some u := hu
          split at this
          · cases this
          · exact this
        obtain ⟨cv, e4, r4⟩ := e3 u hu'
        exact ⟨cv, e4, r4.keep K⟩
      · obtain ⟨ov, h1⟩ := S.all c hc
        exact ⟨ov, h1.sameBut hs (cell_ne_ns h1 hm)⟩
    · exact (I.sc g (List.mem_cons_of_mem _ hg)).mono (List.prefix_refl _) K (fun m' hn => hn.sameBut hs (Ne.symm ((List.pairwise_cons.mp I.ap).1 g hg).1)) fun c ov _ hc => hc.sameBut hs (cell_ne_ns hc hm)
  · exact List.pairwise_cons.mpr ⟨(List.pairwise_cons.mp I.ap).1, (List.pairwise_cons.mp I.ap).2⟩
  · intro g hg
    rcases List.mem_cons.mp hg with rfl | hg
    · exact I.nw f List.mem_cons_self
    · exact I.nw g (List.mem_cons_of_mem _ hg)

/-- an exception has come out of the suite: noted, and the handler's class is tested -/
theorem caught_ (CO : CxOk C) (X : ExcEnv C cs) {A : Around} {s s₁ : Shared} {sc : Sc} {rest : List Sc} {ι ι₁ : List Addr} {μ₁ : MH} {c d : Str} {e : Value} {np pos : Pos} {name : Option Str} {body : List Stmt} {Q : Flow → Shared → Prop} {E : Value → Shared → Prop}
    (hs : SgOk sg sc) (hA : AOk true n (sc :: rest) A) (g1 : Go C ι s (sc :: rest) ι₁ μ₁ s₁) (f1 : Fly C c e s₁.heap) (hc : c ∈ cs) (hdc : d ∈ cs) (hdv : (d == Str.ofString "ValueError") = false) (hk : sg.names.lookup d = some .globalImplicit) (hd : (d == ("__debug__" : Str)) = false)
    (hit : ∀ s₂, subX c d = true → Go C ι s (sc :: rest) ι₁ μ₁ s₂ → FlyT C c e .none s₂.heap → codeAny (model C.prog C.w) (A.mark (some e)) (.handlers e [.ExceptHandler none name body pos] sc.env) (fun r s₂ => match r with
          | .ok f => (match name with
            | none => Q f s₂
            | some n => wpAny (model C.prog C.w) A (do bindName sc.env n .none; unbindBehindTheSuite sc.env n pos) (fun _ s₃ => Q f s₃) E s₂)
          | .error x => cameBackBy (model C.prog C.w) A sc.env E x s₂) s₂)
    (miss : ∀ s₂, subX c d = false → Go C ι s (sc :: rest) ι₁ μ₁ s₂ → Fly C c e s₂.heap → E e s₂) :
    wpAny (model C.prog C.w) A (noteFrame e sc.env) (fun _ s₂ => wpAny (model C.prog C.w) A (setFlight e none) (fun _ s₃ => wpAny (model C.prog C.w) A (handleBy e sc.env [.ExceptHandler (some (.Name d np)) name body pos]) Q E s₃) E s₂) E s₁ := by
  obtain ⟨L, hL⟩ : ∃ L, topL (sc :: rest) = some L := by
    rcases hA.top with h | h
    · cases h
    · exact Option.isSome_iff_exists.mp h
  obtain ⟨K, KX, hB, hO⟩ := X.ex
  have hB' := hB
  simp only [excB, Bool.and_eq_true, List.all_eq_true, beq_iff_eq] at hB'
  refine note_ hA.frames hA.stk hL g1.inv f1 fun s₂ g2 f2 => ?_
  refine flight_ g2.inv f2 fun s₃ g3 f3 => ?_
  have G3 := (g1.trans g2).trans g3
  obtain ⟨a, oe, vs, T, oT, ts, rfl, x2, x3, ⟨kc, xk, x4⟩, x4', x5, x6, x7, x8⟩ := f3.it
  have O := hO c hc
  have hkc : kc = addrIn K c := clsAt_inj xk ⟨C.mg, CO.g, O.bound⟩
  subst hkc
  have hm := (hB'.2 c hc d (List.mem_cons_of_mem _ hdc)).1
  have hclsV : clsV K d = .ref (addrIn K d) := by unfold clsV; rw [hdv]; rfl
  rw [hclsV] at hm
  refine wpAny_handleBy_cons (codeAny_handlers_test (name_glob CO hs g3.inv hk (.inl (hO d hdc).bound) hd ?_)) (by intro q; cases q)
  have X3 : K.In s₃.heap := fun b o e => g3.inv.hp.base b o (KX b o e)
  have LT : Looks (model C.prog C.w) s₃.heap (typeOf (.ref a)) (.ref (addrIn K c)) := x4 ▸ (Looks.ld x3).andThen .now
  refine (exm_one X3 LT hm).here ?_
  cases hb : subX c d with
  | true => exact hit s₃ hb G3 f3
  | false =>
    refine wpAny_handleBy_nil ?_
    exact pass_ g3.inv f3 fun s₄ g4 f4 => miss s₄ hb (G3.trans g4) f4

/-- except D as x: (the suite of the handler raises nothing) -/
noncomputable def dTryAs (cs : List Str) (d : Str) (i : Nat) (f h : DS) : DS := fun ρ μ => match f ρ μ with
  | .ok r μ => .ok r μ
  | .exc c μ => if c ∈ cs then (if subX c d then (match h (ρ.set i (.exc c)) μ with | .ok r μ => .ok (r.1, clrAt i r.2) μ | _ => .stuck) else .exc c μ) else .stuck
  | .stuck => .stuck
theorem s_tryAs (CO : CxOk C) (X : ExcEnv C cs) {body : List Stmt} {b₀ : Stmt} {suite : List Stmt} {d x : Str} {i : Nat} {np hpos pos : Pos} {f h : DS} (hb : XSound C n sg body f) (hh : SSound C false n sg (b₀ :: suite) h) (V : VarsOk sg.vars) (hx : (x, i) ∈ sg.vars) (hxk : sg.names.lookup x = some .local)
    (hdc : d ∈ cs) (hdv : (d == Str.ofString "ValueError") = false) (hk : sg.names.lookup d = some .globalImplicit) (hd : (d == ("__debug__" : Str)) = false) :
    S1Sound C true n sg (.Try body [.ExceptHandler (some (.Name d np)) (some x) (b₀ :: suite) hpos] [] [] pos) (dTryAs cs d i f h) := fun A s sc rest ι μ hs hA hI hne => by
  have hne1 : f sc.ρ μ ≠ .stuck := fun e => hne (by unfold dTryAs; first | (rw [e]; done) | (rw [e]; rfl))
  refine wpAny_Try_except (wpAny_mono (hb A s sc rest ι μ hs hA hI hne1) (fun fl s₁ p => ?_) fun e s₁ p => ?_)
  · obtain ⟨F, ρ', μ₁, ι₁, e1, r1, g1⟩ := p
    have E1 : dTryAs cs d i f h sc.ρ μ = .ok (F, ρ') μ₁ := by unfold dTryAs; first | (rw [e1]; done) | (rw [e1]; rfl)
    rw [E1]
    cases r1 with
    | next => exact wpAny_execs_nil ⟨.next, ρ', μ₁, ι₁, rfl, .next, g1⟩
    | brk => exact ⟨.brk, ρ', μ₁, ι₁, rfl, .brk, g1⟩
    | ret r => exact ⟨.ret _, ρ', μ₁, ι₁, rfl, .ret r, g1⟩
  · obtain ⟨c, μ₁, ι₁, e1, g1, f1⟩ := p
    have hc : c ∈ cs := by
      by_cases hc : c ∈ cs
      · exact hc
      · exact absurd (by simp [dTryAs, e1, hc]) hne
    refine caught_ CO X hs hA g1 f1 hc hdc hdv hk hd (fun s₂ hsub g2 f2 => ?_) fun s₂ hsub g2 f2 => ?_
    · have E1 : dTryAs cs d i f h sc.ρ μ = match h (sc.ρ.set i (.exc c)) μ₁ with | .ok r μ => .ok (r.1, clrAt i r.2) μ | _ => .stuck := by simp [dTryAs, e1, hc, hsub]
      rw [E1] at hne ⊢
      have f2' := f2
      obtain ⟨a, oe, vs, T, oT, ts, rfl, x2, x3, ⟨kc, xk, x4⟩, x4', x5, x6, x7, x8⟩ := f2.it
      refine codeAny_handlers_suite_as (flight_ g2.inv f2' fun s₃ g3 f3 => ?_)
      have G3 := g2.trans g3
      obtain ⟨a', oe', vs', T', oT', ts', ea, y2, y3, ⟨kc', yk, y4⟩, y4', y5, _⟩ := f3.it
      cases ea
      refine store_ hs V hx (.inl hxk) G3 (.exc yk y2 y3 y4 y4' y5) fun s₄ g4 K4 => ?_
      have hne2 : h (sc.ρ.set i (.exc c)) μ₁ ≠ .stuck := fun e => hne (by rw [e])
      refine wpAny_mono (hh (A.mark (some (.ref a))) s₄ (sc.at (sc.ρ.set i (.exc c))) rest ι₁ μ₁ (hs.at _) ((hA.mark _).at _) g4.inv hne2) (fun fl s₅ p => ?_) fun y s₅ p => ?_
      · obtain ⟨F, ρ₅, μ₅, ι₅, e5, r5, g5⟩ := p
        have e5' : h (sc.ρ.set i (.exc c)) μ₁ = .ok (F, ρ₅) μ₅ := e5
        have hI5 : Inv C.h₀ (sc.at ρ₅ :: rest) ι₅ μ₅ s₅.heap := g5.inv
        obtain ⟨m, hm, _⟩ := (hI5.sc _ List.mem_cons_self).loc
        refine wpAny_nameGoes_keeps (env := sc.env) ((hs.kindOf x).trans hxk) hm (by rw [hs.kind]; rfl) fun h' v hn hsb => ?_
        obtain ⟨I6, K6⟩ := hI5.clear (f := sc.at ρ₅) (x := x) (i := i) (by show VarsOk sc.vars; rw [hs.vars]; exact V) (by show (x, i) ∈ sc.vars; rw [hs.vars]; exact hx) hm hn hsb
        have G5 : Go C ι s (sc.at ρ₅ :: rest) ι₅ μ₅ s₅ := g4.trans g5
        obtain ⟨h5, t5, rfl⟩ := G5.sh
        refine ⟨F, clrAt i ρ₅, μ₅, ι₅, by rw [e5'], ?_, ⟨⟨_, _, rfl⟩, G5.pre, I6, G5.keep.trans K6⟩⟩
        cases r5 with
        | next => exact .next
        | brk => exact .brk
        | ret r => exact .ret (r.keep K6)
      · obtain ⟨c', μ₅, ι₅, ρ₅, e5, _⟩ := p
        have e5' : h (sc.ρ.set i (.exc c)) μ₁ = .exc c' μ₅ := e5
        exact absurd (by rw [e5']) hne
    · exact ⟨c, μ₁, ι₁, sc.ρ, by simp [dTryAs, e1, hc, hsub], g2, f2⟩

/-- except D: -/
noncomputable def dTry (cs : List Str) (d : Str) (f h : DS) : DS := fun ρ μ => match f ρ μ with
  | .ok r μ => .ok r μ
  | .exc c μ => if c ∈ cs then (if subX c d then h ρ μ else .exc c μ) else .stuck
  | .stuck => .stuck
theorem s_try (CO : CxOk C) (X : ExcEnv C cs) {body : List Stmt} {b₀ : Stmt} {suite : List Stmt} {d : Str} {np hpos pos : Pos} {f h : DS} (hb : XSound C n sg body f) (hh : SSound C false n sg (b₀ :: suite) h)
    (hdc : d ∈ cs) (hdv : (d == Str.ofString "ValueError") = false) (hk : sg.names.lookup d = some .globalImplicit) (hd : (d == ("__debug__" : Str)) = false) :
    S1Sound C true n sg (.Try body [.ExceptHandler (some (.Name d np)) none (b₀ :: suite) hpos] [] [] pos) (dTry cs d f h) := fun A s sc rest ι μ hs hA hI hne => by
  have hne1 : f sc.ρ μ ≠ .stuck := fun e => hne (by unfold dTry; first | (rw [e]; done) | (rw [e]; rfl))
  refine wpAny_Try_except (wpAny_mono (hb A s sc rest ι μ hs hA hI hne1) (fun fl s₁ p => ?_) fun e s₁ p => ?_)
  · obtain ⟨F, ρ', μ₁, ι₁, e1, r1, g1⟩ := p
    have E1 : dTry cs d f h sc.ρ μ = .ok (F, ρ') μ₁ := by unfold dTry; first | (rw [e1]; done) | (rw [e1]; rfl)
    rw [E1]
    cases r1 with
    | next => exact wpAny_execs_nil ⟨.next, ρ', μ₁, ι₁, rfl, .next, g1⟩
    | brk => exact ⟨.brk, ρ', μ₁, ι₁, rfl, .brk, g1⟩
    | ret r => exact ⟨.ret _, ρ', μ₁, ι₁, rfl, .ret r, g1⟩
  · obtain ⟨c, μ₁, ι₁, e1, g1, f1⟩ := p
    have hc : c ∈ cs := by
      by_cases hc : c ∈ cs
      · exact hc
      · exact absurd (by simp [dTry, e1, hc]) hne
    refine caught_ CO X hs hA g1 f1 hc hdc hdv hk hd (fun s₂ hsub g2 f2 => ?_) fun s₂ hsub g2 f2 => ?_
    · have E1 : dTry cs d f h sc.ρ μ = h sc.ρ μ₁ := by simp [dTry, e1, hc, hsub]
      rw [E1] at hne ⊢
      refine codeAny_handlers_suite (flight_ g2.inv f2 fun s₃ g3 f3 => ?_)
      have G3 := g2.trans g3
      refine wpAny_mono (hh (A.mark (some e)) s₃ sc rest ι₁ μ₁ hs (hA.mark _) g3.inv hne) (fun fl s₅ p => p.after (sc := sc) (ρ' := sc.ρ) G3) fun y s₅ p => ?_
      obtain ⟨c', μ₅, ι₅, ρ₅, e5, g5, f5⟩ := p
      have hA5 : AOk true n (sc.at ρ₅ :: rest) A := hA.at ρ₅
      obtain ⟨L, hL⟩ : ∃ L, topL (sc.at ρ₅ :: rest) = some L := by
        rcases hA5.top with h | h
        · cases h
        · exact Option.isSome_iff_exists.mp h
      refine note_ (sc := sc.at ρ₅) (rest := rest) (A := A.mark (some e)) hA5.frames hA5.stk hL g5.inv f5 fun s₆ g6 f6 => ?_
      obtain ⟨a, oe, vs, T, oT, ts, rfl, x2, x3, x4, x4', x5, x6, x7, x8⟩ := f6.it
      unfold cameBackBy
      refine wpAny_bind (wpAny_field x3 x5 x7 ?_)
      rw [if_neg (by simp)]
      refine flight_ g6.inv f6 fun s₇ g7 f7 => ?_
      exact ⟨c', μ₅, ι₅, ρ₅, e5, ((G3.trans g5).trans g6).trans g7, f7.fly⟩
    · exact ⟨c, μ₁, ι₁, sc.ρ, by simp [dTry, e1, hc, hsub], g2, f2⟩
end
end Mine

set_option linter.unusedVariables false
namespace Mine
open PySem PySem.W PyProof.Rows

/-! what the head has to look at, as one value -/
structure FS where
  x : Str
  k : Nat
  ps : List Str
  sg : Sg
abbrev V4 := Value → Value → Value → Value → Sem (List (Str × Value))
noncomputable def bind4 (K : Frag) (f : FS) : V4 := fun a b c d => bindArgs (fdAt K (addrIn K f.x) default) ⟨[a, b, c, d].take f.ps.length, []⟩
noncomputable def bindV (f : FS) : V4 := fun a b c d => pure (f.ps.zip ([a, b, c, d].take f.ps.length))
noncomputable def lookB (K : Frag) (fs : List FS) (gi : List (Str × Int)) (bs cs : List Str) : Bool :=
  fs.all (fun f => fnB K f.x (addrIn K f.x) f.ps f.sg default) && gi.all (fun p => match nsIn K mainGlobals p.1 with | some (some (.int j _)) => j == p.2 | _ => false) && bs.all (fun x => match nsIn K mainGlobals x with | some none => true | _ => false) && excB K cs
noncomputable def obsK (fs : List FS) (gi : List (Str × Int)) (bs cs : List Str) (K : Frag) : Bool × List FuncBody × List V4 := (lookB K fs gi bs cs, fs.map fun f => (fdAt K (addrIn K f.x) default).body, fs.map (bind4 K))
noncomputable def valK (p : Program) (fs : List FS) : Bool × List FuncBody × List V4 := (true, fs.map fun f => .stmts (bodyAt p f.k), fs.map bindV)
noncomputable def fragOf (as : List Addr) (h : Heap) : Frag := as.filterMap fun a => (h.get? a).map fun o => (a, o)
theorem fragOf_in {h : Heap} : ∀ as : List Addr, (fragOf as h).In h
  | [], a, o, e => by cases e
  | b :: as, a, o, e => by
    unfold fragOf at e
    rw [List.filterMap_cons] at e
    cases hb : h.get? b with
    | none => rw [hb] at e; exact fragOf_in as a o e
    | some ob =>
      rw [hb] at e
      by_cases hab : a = b
      · subst hab; simp at e; rw [← e]; exact hb
      · have : (a == b) = false := by simpa using hab
        simp [List.lookup_cons, this] at e
        exact fragOf_in as a o e
noncomputable def hookK (as : List Addr) (p : Program) (fs : List FS) (gi : List (Str × Int)) (bs cs : List Str) : Hook :=
  ⟨Bool × List FuncBody × List V4, fun s => obsK fs gi bs cs (fragOf as s.heap), fun _ => valK p fs, fun _ h => ∃ K : Frag, obsK fs gi bs cs K = valK p fs ∧ K.In h, fun w s e => ⟨_, e, fragOf_in as⟩, fun w h h' x k => ⟨x.choose, x.choose_spec.1, x.choose_spec.2.keeps k⟩⟩

section
variable {C : Cx} {K : Frag} {p : Program} {fs : List FS} {gi : List (Str × Int)} {bs cs : List Str}
theorem look_of (e : obsK fs gi bs cs K = valK p fs) : lookB K fs gi bs cs = true := congrArg (·.1) e
theorem fnIs_hook (e : obsK fs gi bs cs K = valK p fs) (X : K.In C.h₀) (G : C.h₀.Ns mainGlobals C.mg) (i : Nat) {f : FS} (hf : fs[i]? = some f) (h4 : f.ps.length ≤ 4) : FnIs C f.x (bodyAt p f.k) f.ps f.sg := by
  have hm := List.mem_of_getElem? hf
  have hl := look_of e
  unfold lookB at hl
  rw [Bool.and_eq_true, Bool.and_eq_true, Bool.and_eq_true] at hl
  have h1 := List.all_eq_true.mp hl.1.1.1 f hm
  have h2 : fs.map (fun f => (fdAt K (addrIn K f.x) default).body) = fs.map fun f => FuncBody.stmts (bodyAt p f.k) := congrArg (·.2.1) e
  have h3 : fs.map (bind4 K) = fs.map bindV := congrArg (·.2.2) e
  refine fnIs_look X G h1 (List.map_inj_left.mp h2 f hm) fun vals hv => ?_
  have h5 := List.map_inj_left.mp h3 f hm
  have h6 : ∀ a b c d, bindArgs (fdAt K (addrIn K f.x) default) ⟨[a, b, c, d].take f.ps.length, []⟩ = pure (f.ps.zip ([a, b, c, d].take f.ps.length)) := fun a b c d => congrFun (congrFun (congrFun (congrFun h5 a) b) c) d
  obtain ⟨a, b, c, d, hq⟩ : ∃ a b c d, vals = [a, b, c, d].take f.ps.length := by
    rw [← hv] at h4 ⊢
    rcases vals with _ | ⟨a, _ | ⟨b, _ | ⟨c, _ | ⟨d, _ | ⟨e, l⟩⟩⟩⟩⟩
    · exact ⟨.none, .none, .none, .none, rfl⟩
    · exact ⟨a, .none, .none, .none, rfl⟩
    · exact ⟨a, b, .none, .none, rfl⟩
    · exact ⟨a, b, c, .none, rfl⟩
    · exact ⟨a, b, c, d, rfl⟩
    · exact absurd h4 (by simp only [List.length_cons]; omega)
  rw [hq]; exact h6 a b c d
theorem gint_hook (e : obsK fs gi bs cs K = valK p fs) (X : K.In C.h₀) (G : C.h₀.Ns mainGlobals C.mg) (i : Nat) {x : Str} {z : Int} (hf : gi[i]? = some (x, z)) : ∃ t, C.mg x = some (.int z t) := by
  have hl := look_of e
  unfold lookB at hl
  rw [Bool.and_eq_true, Bool.and_eq_true, Bool.and_eq_true] at hl
  exact gint_of X G (List.all_eq_true.mp hl.1.1.2 _ (List.mem_of_getElem? hf))
theorem builtin_hook {q : Program} {loose : List Str} {mean : ExcName → Option Value} (e : obsK fs gi bs cs K = valK p fs) (X : K.In C.h₀) (T : Top q loose mean C.mg C.mb C.h₀) (i : Nat) {x : Str} {v : Value} (hf : bs[i]? = some x) (hv : bootBuiltins x = some v) (hn : x ≠ "__name__") : C.mg x = none ∧ C.mb x = some v := by
  have hl := look_of e
  unfold lookB at hl
  rw [Bool.and_eq_true, Bool.and_eq_true, Bool.and_eq_true] at hl
  exact builtin_of X T.g T (List.all_eq_true.mp hl.1.2 _ (List.mem_of_getElem? hf)) hv hn
theorem exc_hook {q : Program} {loose : List Str} {mean : ExcName → Option Value} (e : obsK fs gi bs cs K = valK p fs) (X : K.In C.h₀) (T : Top q loose mean C.mg C.mb C.h₀) (hs : ∀ c ∈ cs, specOf q c = some ("ValueError.__new__", valueBm)) : ExcEnv C cs := by
  have hl := look_of e
  unfold lookB at hl
  rw [Bool.and_eq_true, Bool.and_eq_true, Bool.and_eq_true] at hl
  exact excEnv_of T X hl.2 hs
end
end Mine

set_option linter.unusedVariables false
namespace Mine.Com
open PySem Mine
noncomputable def d_is_whole : DS := (dSeq (dRet (dAnd (dOp1 (isiM .int) (dVar 0)) (dNot (dOp1 (isiM .bool) (dVar 0))))) dSkip)
noncomputable def f_is_whole : List MV → MH → Out MV := dDef 1 d_is_whole
noncomputable def d_is_box : DS := (dSeq (dRet (dAnd (dCall f_is_whole (dCons (dVar 0) dNil)) (dChain leM ltM (dConst (.int 0)) (dVar 0) (dConst (.int 4))))) dSkip)
noncomputable def f_is_box : List MV → MH → Out MV := dDef 1 d_is_box
noncomputable def d_is_step : DS := (dSeq (dIfS (dOr (dNot (dOp1 (isiM .tuple) (dVar 0))) (dOr (dBin eqM (dCall lenM (dCons (dVar 0) dNil)) (dConst (.int 0))) (dNot (dOp1 (isiM .str) (dBin idxM (dVar 0) (dConst (.int 0))))))) (dSeq (dRet (dConst (.bool false))) dSkip) dSkip) (dSeq (dIfS (dBin eqM (dBin idxM (dVar 0) (dConst (.int 0))) (dConst (.str (Str.ofString "fence")))) (dSeq (dRet (dBin eqM (dCall lenM (dCons (dVar 0) dNil)) (dConst (.int 1)))) dSkip) dSkip) (dSeq (dIfS (dBin eqM (dBin idxM (dVar 0) (dConst (.int 0))) (dConst (.str (Str.ofString "get")))) (dSeq (dRet (dAnd (dBin eqM (dCall lenM (dCons (dVar 0) dNil)) (dConst (.int 2))) (dCall f_is_box (dCons (dBin idxM (dVar 0) (dConst (.int 1))) dNil)))) dSkip) dSkip) (dSeq (dIfS (dOr (dBin neM (dBin idxM (dVar 0) (dConst (.int 0))) (dConst (.str (Str.ofString "put")))) (dOr (dBin neM (dCall lenM (dCons (dVar 0) dNil)) (dConst (.int 3))) (dOr (dNot (dCall f_is_box (dCons (dBin idxM (dVar 0) (dConst (.int 1))) dNil))) (dNot (dCall f_is_whole (dCons (dBin idxM (dVar 0) (dConst (.int 2))) dNil)))))) (dSeq (dRet (dConst (.bool false))) dSkip) dSkip) (dSeq (dRet (dChain ltM ltM (dNeg (dConst (.int 1000000000000000000000000000000))) (dBin idxM (dVar 0) (dConst (.int 2))) (dConst (.int 1000000000000000000000000000000)))) dSkip)))))
noncomputable def f_is_step : List MV → MH → Out MV := dDef 1 d_is_step
noncomputable def d_need_web : DS := (dSeq (dIfS (dOr (dNot (dOp1 (isiM .list) (dVar 0))) (dNot (dChain leM leM (dConst (.int 1)) (dCall lenM (dCons (dVar 0) dNil)) (dConst (.int 3))))) (dSeq (dRaise (Str.ofString "BadWeb") (dConst (.str (Str.ofString "one to three rows are wanted")))) dSkip) dSkip) (dSeq (dAssign 1 (dConst (.int 0))) (dSeq (dFor (iSeq (dVar 0)) (putAt 2) (dSeq (dIfS (dNot (dOp1 (isiM .list) (dVar 2))) (dSeq (dRaise (Str.ofString "BadWeb") (dConst (.str (Str.ofString "a row is a list")))) dSkip) dSkip) (dSeq (dFor (iSeq (dVar 2)) (putAt 3) (dSeq (dIfS (dNot (dCall f_is_step (dCons (dVar 3) dNil))) (dSeq (dRaise (Str.ofString "BadWeb") (dConst (.str (Str.ofString "a step is wanted")))) dSkip) dSkip) (dSeq (dIfS (dBin neM (dBin idxM (dVar 3) (dConst (.int 0))) (dConst (.str (Str.ofString "fence")))) (dSeq (dAssign 1 (dBin addM (dVar 1) (dConst (.int 1)))) dSkip) dSkip) dSkip))) dSkip))) (dSeq (dIfS (dBin gtM (dVar 1) (dConst (.int 8))) (dSeq (dRaise (Str.ofString "BadWeb") (dConst (.str (Str.ofString "eight puts and gets are the most")))) dSkip) dSkip) (dSeq (dRet (dVar 0)) dSkip)))))
noncomputable def f_need_web : List MV → MH → Out MV := dDef 1 d_need_web
noncomputable def d__law_cell_at : DS := (dSeq (dIfS (dBin ltM (dVar 1) (dCall lenM (dCons (dVar 0) dNil))) (dSeq (dRet (dBin idxM (dVar 0) (dVar 1))) dSkip) dSkip) (dSeq (dRet (dConst (.int 0))) dSkip))
noncomputable def f__law_cell_at : List MV → MH → Out MV := dDef 2 d__law_cell_at
noncomputable def d_begun : DS := (dSeq (dExpr (dCall f_need_web (dCons (dVar 0) dNil))) (dSeq (dAssign 1 (dCall lenM (dCons (dVar 0) dNil))) (dSeq (dRet (dTup (dCons (dCall tupleM (dCons (dBin mulM (dList (dCons (dConst (.int 0)) dNil)) (dVar 1)) dNil)) (dCons (dCall tupleM (dCons (dBin mulM (dList (dCons (dTup dNil) dNil)) (dVar 1)) dNil)) (dCons (dCall tupleM (dCons (dBin mulM (dList (dCons (dConst (.int 0)) dNil)) (dConst (.int 4))) dNil)) (dCons (dCall tupleM (dCons (dBin mulM (dList (dCons (dTup dNil) dNil)) (dVar 1)) dNil)) dNil)))))) dSkip)))
noncomputable def f_begun : List MV → MH → Out MV := dDef 1 d_begun
noncomputable def d_can : DS := (dSeq (dIfS (dOr (dNot (dOp1 (isiM .tuple) (dVar 2))) (dOr (dBin neM (dCall lenM (dCons (dVar 2) dNil)) (dConst (.int 2))) (dOr (dNot (dCall f_is_whole (dCons (dBin idxM (dVar 2) (dConst (.int 0))) dNil))) (dNot (dOp1 (isiM .str) (dBin idxM (dVar 2) (dConst (.int 1)))))))) (dSeq (dRet (dConst (.bool false))) dSkip) dSkip) (dSeq (dAssign 3 (dBin idxM (dVar 2) (dConst (.int 0)))) (dSeq (dIfS (dNot (dChain leM ltM (dConst (.int 0)) (dVar 3) (dCall lenM (dCons (dVar 0) dNil)))) (dSeq (dRet (dConst (.bool false))) dSkip) dSkip) (dSeq (dAssign 4 (dBin idxM (dBin idxM (dVar 1) (dConst (.int 1))) (dVar 3))) (dSeq (dIfS (dBin eqM (dBin idxM (dVar 2) (dConst (.int 1))) (dConst (.str (Str.ofString "send")))) (dSeq (dRet (dBin gtM (dCall lenM (dCons (dVar 4) dNil)) (dConst (.int 0)))) dSkip) dSkip) (dSeq (dIfS (dOr (dBin neM (dBin idxM (dVar 2) (dConst (.int 1))) (dConst (.str (Str.ofString "step")))) (dBin geM (dBin idxM (dBin idxM (dVar 1) (dConst (.int 0))) (dVar 3)) (dCall lenM (dCons (dBin idxM (dVar 0) (dVar 3)) dNil)))) (dSeq (dRet (dConst (.bool false))) dSkip) dSkip) (dSeq (dRet (dOr (dBin neM (dBin idxM (dBin idxM (dBin idxM (dVar 0) (dVar 3)) (dBin idxM (dBin idxM (dVar 1) (dConst (.int 0))) (dVar 3))) (dConst (.int 0))) (dConst (.str (Str.ofString "fence")))) (dBin eqM (dCall lenM (dCons (dVar 4) dNil)) (dConst (.int 0))))) dSkip)))))))
noncomputable def f_can : List MV → MH → Out MV := dDef 3 d_can
noncomputable def d_changed : DS := (dSeq (dRet (dBin addM (dBin addM (dBin cutTo (dVar 0) (dVar 1)) (dTup (dCons (dVar 2) dNil))) (dBin cutFrom (dVar 0) (dBin addM (dVar 1) (dConst (.int 1)))))) dSkip)
noncomputable def f_changed : List MV → MH → Out MV := dDef 3 d_changed
noncomputable def d_seen : DS := (dSeq (dAssign 3 (dBin idxM (dBin idxM (dVar 0) (dConst (.int 2))) (dVar 2))) (dSeq (dFor (iSeq (dBin idxM (dBin idxM (dVar 0) (dConst (.int 1))) (dVar 1))) (putAt 4) (dSeq (dIfS (dBin eqM (dBin idxM (dVar 4) (dConst (.int 0))) (dVar 2)) (dSeq (dAssign 3 (dBin idxM (dVar 4) (dConst (.int 1)))) dSkip) dSkip) dSkip)) (dSeq (dRet (dVar 3)) dSkip)))
noncomputable def f_seen : List MV → MH → Out MV := dDef 3 d_seen
noncomputable def d_moved : DS := (dSeq (dIfS (dNot (dCall f_can (dCons (dVar 0) (dCons (dVar 1) (dCons (dVar 2) dNil))))) (dSeq (dRaise (Str.ofString "NoMove") (dConst (.str (Str.ofString "this cannot be done")))) dSkip) dSkip) (dSeq (dAssign 3 (dBin idxM (dVar 2) (dConst (.int 0)))) (dSeq (dAssign 4 (dBin idxM (dVar 1) (dConst (.int 0)))) (dSeq (dAssign 5 (dBin idxM (dVar 1) (dConst (.int 1)))) (dSeq (dAssign 6 (dBin idxM (dVar 1) (dConst (.int 2)))) (dSeq (dAssign 7 (dBin idxM (dVar 1) (dConst (.int 3)))) (dSeq (dIfS (dBin eqM (dBin idxM (dVar 2) (dConst (.int 1))) (dConst (.str (Str.ofString "send")))) (dSeq (dAssign 8 (dBin idxM (dBin idxM (dVar 5) (dVar 3)) (dConst (.int 0)))) (dSeq (dRet (dTup (dCons (dVar 4) (dCons (dCall f_changed (dCons (dVar 5) (dCons (dVar 3) (dCons (dBin cutFrom (dBin idxM (dVar 5) (dVar 3)) (dConst (.int 1))) dNil)))) (dCons (dCall f_changed (dCons (dVar 6) (dCons (dBin idxM (dVar 8) (dConst (.int 0))) (dCons (dBin idxM (dVar 8) (dConst (.int 1))) dNil)))) (dCons (dVar 7) dNil)))))) dSkip)) dSkip) (dSeq (dAssign 9 (dBin idxM (dBin idxM (dVar 0) (dVar 3)) (dBin idxM (dVar 4) (dVar 3)))) (dSeq (dIfS (dBin eqM (dBin idxM (dVar 9) (dConst (.int 0))) (dConst (.str (Str.ofString "put")))) (dSeq (dAssign 5 (dCall f_changed (dCons (dVar 5) (dCons (dVar 3) (dCons (dBin addM (dBin idxM (dVar 5) (dVar 3)) (dTup (dCons (dTup (dCons (dBin idxM (dVar 9) (dConst (.int 1))) (dCons (dBin idxM (dVar 9) (dConst (.int 2))) dNil))) dNil))) dNil))))) dSkip) (dSeq (dIfS (dBin eqM (dBin idxM (dVar 9) (dConst (.int 0))) (dConst (.str (Str.ofString "get")))) (dSeq (dAssign 7 (dCall f_changed (dCons (dVar 7) (dCons (dVar 3) (dCons (dBin addM (dBin idxM (dVar 7) (dVar 3)) (dTup (dCons (dCall f_seen (dCons (dVar 1) (dCons (dVar 3) (dCons (dBin idxM (dVar 9) (dConst (.int 1))) dNil)))) dNil))) dNil))))) dSkip) dSkip) dSkip)) (dSeq (dRet (dTup (dCons (dCall f_changed (dCons (dVar 4) (dCons (dVar 3) (dCons (dBin addM (dBin idxM (dVar 4) (dVar 3)) (dConst (.int 1))) dNil)))) (dCons (dVar 5) (dCons (dVar 6) (dCons (dVar 7) dNil)))))) dSkip))))))))))
noncomputable def f_moved : List MV → MH → Out MV := dDef 3 d_moved
noncomputable def d__law_can : DS := (dSeq (dIfS (dBin eqM (dVar 3) (dConst (.str (Str.ofString "send")))) (dSeq (dRet (dBin neM (dBin idxM (dBin idxM (dVar 1) (dConst (.int 1))) (dVar 2)) (dList dNil))) dSkip) dSkip) (dSeq (dIfS (dBin eqM (dBin idxM (dBin idxM (dVar 1) (dConst (.int 0))) (dVar 2)) (dCall lenM (dCons (dBin idxM (dVar 0) (dVar 2)) dNil))) (dSeq (dRet (dConst (.bool false))) dSkip) dSkip) (dSeq (dRet (dOr (dBin neM (dBin idxM (dBin idxM (dBin idxM (dVar 0) (dVar 2)) (dBin idxM (dBin idxM (dVar 1) (dConst (.int 0))) (dVar 2))) (dConst (.int 0))) (dConst (.str (Str.ofString "fence")))) (dBin eqM (dBin idxM (dBin idxM (dVar 1) (dConst (.int 1))) (dVar 2)) (dList dNil)))) dSkip)))
noncomputable def f__law_can : List MV → MH → Out MV := dDef 4 d__law_can
noncomputable def d_is_over : DS := (dSeq (dFor (iEnum (dVar 0)) (putEnum 2 3) (dSeq (dIfS (dOr (dBin ltM (dBin idxM (dBin idxM (dVar 1) (dConst (.int 0))) (dVar 2)) (dCall lenM (dCons (dVar 3) dNil))) (dBin gtM (dCall lenM (dCons (dBin idxM (dBin idxM (dVar 1) (dConst (.int 1))) (dVar 2)) dNil)) (dConst (.int 0)))) (dSeq (dRet (dConst (.bool false))) dSkip) dSkip) dSkip)) (dSeq (dRet (dConst (.bool true))) dSkip))
noncomputable def f_is_over : List MV → MH → Out MV := dDef 2 d_is_over
noncomputable def d__law_moves : DS := (dSeq (dAssign 2 (dList dNil)) (dSeq (dFor (iRange1 (dCall lenM (dCons (dVar 0) dNil))) (putAt 3) (dSeq (dAssign 2 (dBin addM (dVar 2) (dComp (iSeq (dTup (dCons (dConst (.str (Str.ofString "step"))) (dCons (dConst (.str (Str.ofString "send"))) dNil)))) (dCall f__law_can (dCons (dVar 0) (dCons (dVar 1) (dCons (dVar 3) (dCons (dVar 4) dNil))))) (dTup (dCons (dVar 3) (dCons (dVar 4) dNil))) 4))) dSkip)) (dSeq (dRet (dVar 2)) dSkip)))
noncomputable def f__law_moves : List MV → MH → Out MV := dDef 2 d__law_moves
end Mine.Com

set_option linter.unusedVariables false
namespace Mine
open PySem
/-! what is left to do behind a value: kept as data, so that a rewriter works from the inside -/
noncomputable def seqK (o : Out (Fl × Rho)) (g : DS) : Out (Fl × Rho) := o.bind fun r μ => match r.1 with | .next => g r.2 μ | _ => .ok r μ
noncomputable def ifK {α : Type} (o : Out MV) (a b : Rho → MH → Out α) (ρ : Rho) : Out α := o.bind fun v μ => match v with | .bool true => a ρ μ | .bool false => b ρ μ | _ => .stuck
noncomputable def andK (o : Out MV) (g : D) (ρ : Rho) : Out MV := o.bind fun v μ => match v with | .bool true => g ρ μ | .bool false => .ok (.bool false) μ | _ => .stuck
noncomputable def orK (o : Out MV) (g : D) (ρ : Rho) : Out MV := o.bind fun v μ => match v with | .bool false => g ρ μ | .bool true => .ok (.bool true) μ | _ => .stuck
noncomputable def notK (o : Out MV) : Out MV := o.bind fun v μ => match v with | .bool b => .ok (.bool (!b)) μ | _ => .stuck
noncomputable def negK (o : Out MV) : Out MV := o.bind fun v μ => match v with | .int i => .ok (.int (-i)) μ | _ => .stuck
noncomputable def binK (o : Out MV) (g : MV → MV → MH → Out MV) (b : D) (ρ : Rho) : Out MV := o.bind fun x μ => (b ρ μ).bind fun y μ => g x y μ
noncomputable def binK2 (o : Out MV) (g : MV → MV → MH → Out MV) (x : MV) : Out MV := o.bind fun y μ => g x y μ
noncomputable def chK (o : Out MV) (g h : MV → MV → MH → Out MV) (b c : D) (ρ : Rho) : Out MV := o.bind fun x μ => (b ρ μ).bind fun y μ => (g x y μ).bind fun z μ => match z with
  | .bool true => (c ρ μ).bind fun d μ => h y d μ
  | .bool false => .ok (.bool false) μ
  | _ => .stuck
noncomputable def chK2 (o : Out MV) (g h : MV → MV → MH → Out MV) (x : MV) (c : D) (ρ : Rho) : Out MV := o.bind fun y μ => (g x y μ).bind fun z μ => match z with
  | .bool true => (c ρ μ).bind fun d μ => h y d μ
  | .bool false => .ok (.bool false) μ
  | _ => .stuck
noncomputable def chK3 (o : Out MV) (h : MV → MV → MH → Out MV) (y : MV) (c : D) (ρ : Rho) : Out MV := o.bind fun z μ => match z with
  | .bool true => (c ρ μ).bind fun d μ => h y d μ
  | .bool false => .ok (.bool false) μ
  | _ => .stuck
noncomputable def consK (o : Out MV) (g : DL) (ρ : Rho) : Out (List MV) := o.bind fun v μ => (g ρ μ).bind fun vs μ => .ok (v :: vs) μ
noncomputable def consK2 (o : Out (List MV)) (v : MV) : Out (List MV) := o.bind fun vs μ => .ok (v :: vs) μ
noncomputable def tupK (o : Out (List MV)) : Out MV := o.bind fun vs μ => .ok (.tup vs) μ
noncomputable def listK (o : Out (List MV)) : Out MV := o.bind fun vs μ => .ok (.lst μ.length) (μ ++ [vs])
noncomputable def compK (o : Out Src) (c e : D) (i : Nat) (ρ : Rho) : Out MV := o.bind fun s μ => compM s.G (putAt i) c e μ.length s.its ρ (μ ++ [[]])
noncomputable def retK (o : Out MV) (ρ : Rho) : Out (Fl × Rho) := o.bind fun v μ => .ok (.ret v, ρ) μ
noncomputable def exprK (o : Out MV) (ρ : Rho) : Out (Fl × Rho) := o.bind fun _ μ => .ok (.next, ρ) μ
noncomputable def asgK (o : Out MV) (ρ : Rho) (i : Nat) : Out (Fl × Rho) := o.bind fun v μ => .ok (.next, ρ.set i v) μ
noncomputable def forK (o : Out Src) (p : Rho → MV → Rho) (f : DS) (ρ : Rho) : Out (Fl × Rho) := o.bind fun s μ => loopM s.G p f s.its ρ μ
noncomputable def raiseK (o : Out MV) (c : Str) : Out (Fl × Rho) := o.bind fun _ μ => .exc c μ
noncomputable def itK (o : Out MV) : Out Src := o.bind fun v μ => match v with
  | .lst k => match μ[k]? with | some xs => .ok ⟨xs, fun μ => μ[k]? = some xs⟩ μ | none => .stuck
  | .tup xs => .ok ⟨xs, fun _ => True⟩ μ
  | _ => .stuck
noncomputable def rngK (o : Out MV) : Out Src := o.bind fun v μ => match v with | .int b => rngO 0 b μ | _ => .stuck
noncomputable def enumK (o : Out MV) : Out Src := o.bind fun v μ => match v with
  | .lst k => match μ[k]? with | some xs => .ok ⟨enumL xs, fun μ => μ[k]? = some xs⟩ μ | none => .stuck
  | _ => .stuck
noncomputable def appK (o : Out MV) (fe : D) (ρ : Rho) : Out MV := o.bind fun o μ => match o with
  | .lst k => (fe ρ μ).bind fun v μ => match μ[k]? with
    | some xs => if xs.length ≤ sizeLine then .ok .none (μ.set k (xs ++ [v])) else .stuck
    | none => .stuck
  | _ => .stuck
noncomputable def appK2 (o : Out MV) (k : Nat) : Out MV := o.bind fun v μ => match μ[k]? with
    | some xs => if xs.length ≤ sizeLine then .ok .none (μ.set k (xs ++ [v])) else .stuck
    | none => .stuck
noncomputable def popK (o : Out MV) : Out MV := o.bind fun o μ => match o with
  | .lst k => match μ[k]? with
    | some (x :: xs) => if xs.length < sizeLine then .ok x (μ.set k xs) else .stuck
    | _ => .stuck
  | _ => .stuck
noncomputable def setK (o : Out MV) (fo fi : D) (ρ : Rho) : Out (Fl × Rho) := o.bind fun v μ => (fo ρ μ).bind fun o μ => (fi ρ μ).bind fun i μ => match o, i with
  | .lst k, .int j => match μ[k]? with
    | some xs => if 0 ≤ j ∧ j < 2 ^ 62 ∧ j < xs.length then .ok (.next, ρ) (μ.set k (xs.set j.toNat v)) else .stuck
    | none => .stuck
  | _, _ => .stuck
noncomputable def setK2 (o : Out MV) (v : MV) (fi : D) (ρ : Rho) : Out (Fl × Rho) := o.bind fun o μ => (fi ρ μ).bind fun i μ => match o, i with
  | .lst k, .int j => match μ[k]? with
    | some xs => if 0 ≤ j ∧ j < 2 ^ 62 ∧ j < xs.length then .ok (.next, ρ) (μ.set k (xs.set j.toNat v)) else .stuck
    | none => .stuck
  | _, _ => .stuck
noncomputable def setK3 (o : Out MV) (v ov : MV) (ρ : Rho) : Out (Fl × Rho) := o.bind fun i μ => match ov, i with
  | .lst k, .int j => match μ[k]? with
    | some xs => if 0 ≤ j ∧ j < 2 ^ 62 ∧ j < xs.length then .ok (.next, ρ) (μ.set k (xs.set j.toNat v)) else .stuck
    | none => .stuck
  | _, _ => .stuck
noncomputable def defK (o : Out (Fl × Rho)) : Out MV := o.bind fun r μ => .ok (match r.1 with | .ret v => v | _ => .none) μ

section
variable {ρ : Rho} {μ : MH}
@[simp] theorem ev_const (v : MV) : dConst v ρ μ = .ok v μ := (rfl)
theorem ev_var {i : Nat} {v : MV} (h : ρ i = some v) : dVar i ρ μ = .ok v μ := by simp [dVar, h]
@[simp] theorem ev_bin (g : MV → MV → MH → Out MV) (a b : D) : dBin g a b ρ μ = binK (a ρ μ) g b ρ := (rfl)
@[simp] theorem binK_ok (x : MV) (g : MV → MV → MH → Out MV) (b : D) : binK (.ok x μ) g b ρ = binK2 (b ρ μ) g x := (rfl)
@[simp] theorem binK2_ok (x y : MV) (g : MV → MV → MH → Out MV) : binK2 (.ok y μ) g x = g x y μ := (rfl)
@[simp] theorem ev_chain (g h : MV → MV → MH → Out MV) (a b c : D) : dChain g h a b c ρ μ = chK (a ρ μ) g h b c ρ := (rfl)
@[simp] theorem chK_ok (x : MV) (g h : MV → MV → MH → Out MV) (b c : D) : chK (.ok x μ) g h b c ρ = chK2 (b ρ μ) g h x c ρ := (rfl)
@[simp] theorem chK2_ok (x y : MV) (g h : MV → MV → MH → Out MV) (c : D) : chK2 (.ok y μ) g h x c ρ = chK3 (g x y μ) h y c ρ := (rfl)
@[simp] theorem chK3_true (y : MV) (h : MV → MV → MH → Out MV) (c : D) : chK3 (.ok (.bool true) μ) h y c ρ = binK2 (c ρ μ) h y := (rfl)
@[simp] theorem chK3_false (y : MV) (h : MV → MV → MH → Out MV) (c : D) : chK3 (.ok (.bool false) μ) h y c ρ = .ok (.bool false) μ := (rfl)
@[simp] theorem ev_not (f : D) : dNot f ρ μ = notK (f ρ μ) := (rfl)
@[simp] theorem notK_ok (b : Bool) : notK (.ok (.bool b) μ) = .ok (.bool (!b)) μ := (rfl)
@[simp] theorem ev_and (f g : D) : dAnd f g ρ μ = andK (f ρ μ) g ρ := (rfl)
@[simp] theorem andK_true (g : D) : andK (.ok (.bool true) μ) g ρ = g ρ μ := (rfl)
@[simp] theorem andK_false (g : D) : andK (.ok (.bool false) μ) g ρ = .ok (.bool false) μ := (rfl)
@[simp] theorem ev_or (f g : D) : dOr f g ρ μ = orK (f ρ μ) g ρ := (rfl)
@[simp] theorem orK_true (g : D) : orK (.ok (.bool true) μ) g ρ = .ok (.bool true) μ := (rfl)
@[simp] theorem orK_false (g : D) : orK (.ok (.bool false) μ) g ρ = g ρ μ := (rfl)
@[simp] theorem ev_if (t a b : D) : dIf t a b ρ μ = ifK (t ρ μ) a b ρ := (rfl)
@[simp] theorem ev_ifs (t : D) (a b : DS) : dIfS t a b ρ μ = ifK (t ρ μ) a b ρ := (rfl)
@[simp] theorem ifK_true {α : Type} (a b : Rho → MH → Out α) : ifK (.ok (.bool true) μ) a b ρ = a ρ μ := (rfl)
@[simp] theorem ifK_false {α : Type} (a b : Rho → MH → Out α) : ifK (.ok (.bool false) μ) a b ρ = b ρ μ := (rfl)
@[simp] theorem ev_neg (f : D) : dNeg f ρ μ = negK (f ρ μ) := (rfl)
@[simp] theorem negK_ok (i : Int) : negK (.ok (.int i) μ) = .ok (.int (-i)) μ := (rfl)
@[simp] theorem ev_nil : dNil ρ μ = .ok [] μ := (rfl)
@[simp] theorem ev_cons (f : D) (g : DL) : dCons f g ρ μ = consK (f ρ μ) g ρ := (rfl)
@[simp] theorem consK_ok (v : MV) (g : DL) : consK (.ok v μ) g ρ = consK2 (g ρ μ) v := (rfl)
@[simp] theorem consK2_ok (v : MV) (vs : List MV) : consK2 (.ok vs μ) v = .ok (v :: vs) μ := (rfl)
@[simp] theorem ev_tup (f : DL) : dTup f ρ μ = tupK (f ρ μ) := (rfl)
@[simp] theorem tupK_ok (vs : List MV) : tupK (.ok vs μ) = .ok (.tup vs) μ := (rfl)
@[simp] theorem ev_list (f : DL) : dList f ρ μ = listK (f ρ μ) := (rfl)
@[simp] theorem listK_ok (vs : List MV) : listK (.ok vs μ) = .ok (.lst μ.length) (μ ++ [vs]) := (rfl)
@[simp] theorem ev_call (g : List MV → MH → Out MV) (f : DL) : dCall g f ρ μ = (f ρ μ).bind g := (rfl)
@[simp] theorem ev_op1 (g : MV → MH → Out MV) (f : D) : dOp1 g f ρ μ = (f ρ μ).bind g := (rfl)
@[simp] theorem ev_comp (s : DI) (c e : D) (i : Nat) : dComp s c e i ρ μ = compK (s ρ μ) c e i ρ := (rfl)
@[simp] theorem compK_ok (its : List MV) (G : MH → Prop) (c e : D) (i : Nat) : compK (.ok ⟨its, G⟩ μ) c e i ρ = compM G (putAt i) c e μ.length its ρ (μ ++ [[]]) := (rfl)
@[simp] theorem ev_skip : dSkip ρ μ = .ok (.next, ρ) μ := (rfl)
@[simp] theorem ev_seq (f g : DS) : dSeq f g ρ μ = seqK (f ρ μ) g := (rfl)
@[simp] theorem seqK_next (g : DS) : seqK (.ok (.next, ρ) μ) g = g ρ μ := (rfl)
@[simp] theorem seqK_ret (v : MV) (g : DS) : seqK (.ok (.ret v, ρ) μ) g = .ok (.ret v, ρ) μ := (rfl)
@[simp] theorem seqK_brk (g : DS) : seqK (.ok (.brk, ρ) μ) g = .ok (.brk, ρ) μ := (rfl)
@[simp] theorem seqK_exc (c : Str) (g : DS) : seqK (.exc c μ) g = .exc c μ := (rfl)
@[simp] theorem ev_ret (f : D) : dRet f ρ μ = retK (f ρ μ) ρ := (rfl)
@[simp] theorem retK_ok (v : MV) : retK (.ok v μ) ρ = .ok (.ret v, ρ) μ := (rfl)
@[simp] theorem retK_exc (c : Str) : retK (.exc c μ) ρ = .exc c μ := (rfl)
@[simp] theorem ev_retNone : dRetNone ρ μ = .ok (.ret .none, ρ) μ := (rfl)
@[simp] theorem ev_expr (f : D) : dExpr f ρ μ = exprK (f ρ μ) ρ := (rfl)
@[simp] theorem exprK_ok (v : MV) : exprK (.ok v μ) ρ = .ok (.next, ρ) μ := (rfl)
@[simp] theorem exprK_exc (c : Str) : exprK (.exc c μ) ρ = .exc c μ := (rfl)
@[simp] theorem ev_assign (i : Nat) (f : D) : dAssign i f ρ μ = asgK (f ρ μ) ρ i := (rfl)
@[simp] theorem asgK_ok (v : MV) (i : Nat) : asgK (.ok v μ) ρ i = .ok (.next, ρ.set i v) μ := (rfl)
@[simp] theorem asgK_exc (c : Str) (i : Nat) : asgK (.exc c μ) ρ i = .exc c μ := (rfl)
@[simp] theorem ev_for (s : DI) (p : Rho → MV → Rho) (f : DS) : dFor s p f ρ μ = forK (s ρ μ) p f ρ := (rfl)
@[simp] theorem forK_ok (its : List MV) (G : MH → Prop) (p : Rho → MV → Rho) (f : DS) : forK (.ok ⟨its, G⟩ μ) p f ρ = loopM G p f its ρ μ := (rfl)
@[simp] theorem ev_while (k : Nat) (t : D) (f : DS) : dWhile k t f ρ μ = whileM t f k ρ μ := (rfl)
@[simp] theorem ev_raise (c : Str) (f : D) : dRaise c f ρ μ = raiseK (f ρ μ) c := (rfl)
@[simp] theorem raiseK_ok (v : MV) (c : Str) : raiseK (.ok v μ) c = .exc c μ := (rfl)
@[simp] theorem ev_seqI (f : D) : iSeq f ρ μ = itK (f ρ μ) := (rfl)
theorem itK_lst {k : Nat} {xs : List MV} (h : μ[k]? = some xs) : itK (.ok (.lst k) μ) = .ok ⟨xs, fun μ => μ[k]? = some xs⟩ μ := by
  show (match μ[k]? with | some xs => Out.ok (Src.mk xs fun μ => μ[k]? = some xs) μ | none => .stuck) = _
  rw [h]
@[simp] theorem itK_tup (xs : List MV) : itK (.ok (.tup xs) μ) = .ok ⟨xs, fun _ => True⟩ μ := (rfl)
@[simp] theorem ev_rng1 (f : D) : iRange1 f ρ μ = rngK (f ρ μ) := (rfl)
theorem rngK_ok {b : Int} (h : -(2 ^ 62) ≤ b ∧ b < 2 ^ 62) : rngK (.ok (.int b) μ) = .ok ⟨rangeL 0 b, fun _ => True⟩ μ := by
  show rngO 0 b μ = _
  unfold rngO; rw [if_pos ⟨by decide, by decide, h.1, h.2⟩]
@[simp] theorem ev_enum (f : D) : iEnum f ρ μ = enumK (f ρ μ) := (rfl)
theorem enumK_lst {k : Nat} {xs : List MV} (h : μ[k]? = some xs) : enumK (.ok (.lst k) μ) = .ok ⟨enumL xs, fun μ => μ[k]? = some xs⟩ μ := by
  show (match μ[k]? with | some xs => Out.ok (Src.mk (enumL xs) fun μ => μ[k]? = some xs) μ | none => .stuck) = _
  rw [h]
@[simp] theorem putEnum_pair (a b : Nat) (ρ : Rho) (x y : MV) : putEnum a b ρ (.tup [x, y]) = (ρ.set a x).set b y := (rfl)
@[simp] theorem ev_append (fo fe : D) : dAppend fo fe ρ μ = appK (fo ρ μ) fe ρ := (rfl)
@[simp] theorem appK_lst (k : Nat) (fe : D) : appK (.ok (.lst k) μ) fe ρ = appK2 (fe ρ μ) k := (rfl)
theorem appK2_ok {v : MV} {k : Nat} {xs : List MV} (h : μ[k]? = some xs) (hl : xs.length ≤ sizeLine) : appK2 (.ok v μ) k = .ok .none (μ.set k (xs ++ [v])) := by
  show (match μ[k]? with | some xs => if xs.length ≤ sizeLine then Out.ok MV.none (μ.set k (xs ++ [v])) else .stuck | none => .stuck) = _
  rw [h]; exact if_pos hl
@[simp] theorem ev_pop (fo : D) : dPop0 fo ρ μ = popK (fo ρ μ) := (rfl)
theorem popK_ok {x : MV} {k : Nat} {xs : List MV} (h : μ[k]? = some (x :: xs)) (hl : xs.length < sizeLine) : popK (.ok (.lst k) μ) = .ok x (μ.set k xs) := by
  show (match μ[k]? with | some (x :: xs) => if xs.length < sizeLine then Out.ok x (μ.set k xs) else .stuck | _ => .stuck) = _
  rw [h]; exact if_pos hl
@[simp] theorem ev_setitem (fv fo fi : D) : dSetItem fv fo fi ρ μ = setK (fv ρ μ) fo fi ρ := (rfl)
@[simp] theorem setK_ok (v : MV) (fo fi : D) : setK (.ok v μ) fo fi ρ = setK2 (fo ρ μ) v fi ρ := (rfl)
@[simp] theorem setK2_ok (v ov : MV) (fi : D) : setK2 (.ok ov μ) v fi ρ = setK3 (fi ρ μ) v ov ρ := (rfl)
theorem setK3_ok {v : MV} {k : Nat} {j : Nat} {xs : List MV} (h : μ[k]? = some xs) (hj : j < xs.length) (hl : xs.length ≤ 2 ^ 62) : setK3 (.ok (.int j) μ) v (.lst k) ρ = .ok (.next, ρ) (μ.set k (xs.set j v)) := by
  have hc : (0 : Int) ≤ (j : Int) ∧ (j : Int) < 2 ^ 62 ∧ (j : Int) < xs.length := ⟨by first | assumption | exact Nat.zero_le _ | exact lt_big (by assumption) (by assumption) | decide | omega, by first | assumption | exact Nat.zero_le _ | exact lt_big (by assumption) (by assumption) | decide | omega, by first | assumption | exact Nat.zero_le _ | exact lt_big (by assumption) (by assumption) | decide | omega⟩
  simp only [setK3, Out.bind_ok, h]
  rw [if_pos hc]; rfl
@[simp] theorem rho_set (i j : Nat) (v : MV) : (ρ.set i v) j = if j = i then some v else ρ j := (rfl)
theorem rho_set_self (i : Nat) (v : MV) : (ρ.set i v) i = some v := by simp
@[simp] theorem defK_ret (v : MV) : defK (.ok (.ret v, ρ) μ) = .ok v μ := (rfl)
@[simp] theorem defK_next : defK (.ok (.next, ρ) μ) = .ok .none μ := (rfl)
@[simp] theorem defK_exc (c : Str) : defK (.exc c μ) = .exc c μ := (rfl)
end
theorem ev_def {k : Nat} {f : DS} {args : List MV} {μ : MH} (h : args.length = k) : dDef k f args μ = defK (f (fun i => args[i]?) μ) := by unfold dDef; rw [if_pos h]; rfl

/-! operations on plain values -/
section
variable {μ : MH}
@[simp] theorem add_int (a b : Int) : addM (.int a) (.int b) μ = .ok (.int (a + b)) μ := (rfl)
theorem add_tup {a b : List MV} (h : a.length + b.length ≤ sizeLine) : addM (.tup a) (.tup b) μ = .ok (.tup (a ++ b)) μ := if_pos h
theorem add_lst {i j : Nat} {a b : List MV} (hi : μ[i]? = some a) (hj : μ[j]? = some b) (h : a.length + b.length ≤ sizeLine) : addM (.lst i) (.lst j) μ = .ok (.lst μ.length) (μ ++ [a ++ b]) := by rw [addM_lst, hi, hj]; exact if_pos h
@[simp] theorem sub_int (a b : Int) : subM (.int a) (.int b) μ = .ok (.int (a - b)) μ := (rfl)
@[simp] theorem lt_int (a b : Int) : ltM (.int a) (.int b) μ = .ok (.bool (decide (a < b))) μ := (rfl)
@[simp] theorem le_int (a b : Int) : leM (.int a) (.int b) μ = .ok (.bool (decide (a ≤ b))) μ := (rfl)
@[simp] theorem gt_int (a b : Int) : gtM (.int a) (.int b) μ = .ok (.bool (decide (b < a))) μ := (rfl)
@[simp] theorem ge_int (a b : Int) : geM (.int a) (.int b) μ = .ok (.bool (decide (b ≤ a))) μ := (rfl)
theorem fdiv_int (a : Int) {b : Int} (h : 0 < b ∧ b < 2 ^ 30) : fdivM (.int a) (.int b) μ = .ok (.int (a.fdiv b)) μ := by
  show (match (if 0 < b ∧ b < 2 ^ 30 then some (MV.int (a.fdiv b)) else none) with | some v => Out.ok v μ | none => .stuck) = _
  rw [if_pos h]
theorem fmod_int (a : Int) {b : Int} (h : b ≠ 0) : fmodM (.int a) (.int b) μ = .ok (.int (a.fmod b)) μ := by
  show (match (if b = 0 then none else some (MV.int (a.fmod b))) with | some v => Out.ok v μ | none => .stuck) = _
  rw [if_neg h]
@[simp] theorem eq_int (a b : Int) : eqM (.int a) (.int b) μ = .ok (.bool (a == b)) μ := (rfl)
@[simp] theorem ne_int (a b : Int) : neM (.int a) (.int b) μ = .ok (.bool (!(a == b))) μ := (rfl)
theorem eq_str {a b : Str} (ha : PyData.strOk a = true) (hb : PyData.strOk b = true) : eqM (.str a) (.str b) μ = .ok (.bool (a == b)) μ := by
  show (if (PyData.strOk a && PyData.strOk b) = true then Out.ok (MV.bool (a == b)) μ else .stuck) = _
  rw [ha, hb]; rfl
theorem ne_str {a b : Str} (ha : PyData.strOk a = true) (hb : PyData.strOk b = true) : neM (.str a) (.str b) μ = .ok (.bool (!(a == b))) μ := by
  show (if (PyData.strOk a && PyData.strOk b) = true then Out.ok (MV.bool (!(a == b))) μ else .stuck) = _
  rw [ha, hb]; rfl
theorem eq_lit {a b : String} {r : Bool} (ha : PyData.strOk (Str.ofString a) = true) (hb : PyData.strOk (Str.ofString b) = true) (h : (Str.ofString a == Str.ofString b) = r) : eqM (.str (Str.ofString a)) (.str (Str.ofString b)) μ = .ok (.bool r) μ := by rw [eq_str ha hb, h]
@[simp] theorem isi_tup (xs : List MV) : isiM .tuple (.tup xs) μ = .ok (.bool true) μ := (rfl)
@[simp] theorem isi_str (x : Str) : isiM .str (.str x) μ = .ok (.bool true) μ := (rfl)
@[simp] theorem isi_lst (k : Nat) : isiM .list (.lst k) μ = .ok (.bool true) μ := (rfl)
@[simp] theorem isi_bool (b : Bool) : isiM .bool (.bool b) μ = .ok (.bool true) μ := (rfl)
@[simp] theorem isi_int (i : Int) : isiM .int (.int i) μ = .ok (.bool true) μ := (rfl)
@[simp] theorem isi_int_bool (i : Int) : isiM .bool (.int i) μ = .ok (.bool false) μ := (rfl)
theorem ne_lit {a b : String} {r : Bool} (ha : PyData.strOk (Str.ofString a) = true) (hb : PyData.strOk (Str.ofString b) = true) (h : (!(Str.ofString a == Str.ofString b)) = r) : neM (.str (Str.ofString a)) (.str (Str.ofString b)) μ = .ok (.bool r) μ := by rw [ne_str ha hb, h]
theorem len_lst {k : Nat} {xs : List MV} (h : μ[k]? = some xs) (hl : xs.length < 2 ^ 62) : lenM [.lst k] μ = .ok (.int xs.length) μ := by rw [lenM_lst, h]; exact if_pos hl
theorem len_tup {xs : List MV} (hl : xs.length < 2 ^ 62) : lenM [.tup xs] μ = .ok (.int xs.length) μ := if_pos hl
theorem pick_nat {α : Type} {xs : List α} {n : Nat} (h : n < 100000) : pick xs (n : Int) = xs[n]? := by
  unfold pick
  rw [if_pos ⟨by first | assumption | exact Nat.zero_le _ | exact lt_big (by assumption) (by assumption) | decide | omega, by first | assumption | exact Nat.zero_le _ | exact lt_big (by assumption) (by assumption) | decide | omega⟩]; rfl
theorem idx_tup {xs : List MV} {n : Nat} {v : MV} (h : xs[n]? = some v) (hl : n < 100000) : idxM (.tup xs) (.int n) μ = .ok v μ := by
  show optOut (pick xs (n : Int)) μ = _
  rw [pick_nat hl, h]; rfl
theorem idx_lst {k : Nat} {xs : List MV} {n : Nat} {v : MV} (hk : μ[k]? = some xs) (h : xs[n]? = some v) (hl : n < 100000) : idxM (.lst k) (.int n) μ = .ok v μ := by
  have : idxM (.lst k) (.int n) μ = optOut (pick xs (n : Int)) μ := by rw [idxM_lst, hk]
  rw [this, pick_nat hl, h]; rfl
theorem idx_scr {ns : List Int} {n : Nat} {v : Int} (h : ns[n]? = some v) (hl : n < 100000) : idxM (.scr ns) (.int n) μ = .ok (.int v) μ := by
  show optOut ((pick ns (n : Int)).map .int) μ = _
  rw [pick_nat hl, h]; rfl
@[simp] theorem idx_tup0 (a : MV) (xs : List MV) : idxM (.tup (a :: xs)) (.int 0) μ = .ok a μ := idx_tup (n := 0) rfl (by decide)
@[simp] theorem idx_tup1 (a b : MV) (xs : List MV) : idxM (.tup (a :: b :: xs)) (.int 1) μ = .ok b μ := idx_tup (n := 1) rfl (by decide)
@[simp] theorem idx_tup2 (a b c : MV) (xs : List MV) : idxM (.tup (a :: b :: c :: xs)) (.int 2) μ = .ok c μ := idx_tup (n := 2) rfl (by decide)
@[simp] theorem idx_tup3 (a b c d : MV) (xs : List MV) : idxM (.tup (a :: b :: c :: d :: xs)) (.int 3) μ = .ok d μ := idx_tup (n := 3) rfl (by decide)
@[simp] theorem len_tup1 (a : MV) : lenM [.tup [a]] μ = .ok (.int 1) μ := len_tup (xs := [a]) (by show 1 < 2 ^ 62; decide)
@[simp] theorem len_tup2 (a b : MV) : lenM [.tup [a, b]] μ = .ok (.int 2) μ := len_tup (xs := [a, b]) (by show 2 < 2 ^ 62; decide)
@[simp] theorem len_tup3 (a b c : MV) : lenM [.tup [a, b, c]] μ = .ok (.int 3) μ := len_tup (xs := [a, b, c]) (by show 3 < 2 ^ 62; decide)
theorem cutTo_tup {xs : List MV} {n : Nat} (hl : xs.length ≤ sizeLine) : cutTo (.tup xs) (.int n) μ = .ok (.tup (xs.take n)) μ := by
  exact if_pos ⟨Int.natCast_nonneg n, hl⟩
theorem cutFrom_tup {xs : List MV} {n : Nat} (hl : xs.length ≤ sizeLine) : cutFrom (.tup xs) (.int n) μ = .ok (.tup (xs.drop n)) μ := by
  exact if_pos ⟨Int.natCast_nonneg n, hl⟩
theorem cutTo_lst {k : Nat} {xs : List MV} {n : Nat} (hk : μ[k]? = some xs) (hl : xs.length ≤ sizeLine) : cutTo (.lst k) (.int n) μ = .ok (.lst μ.length) (μ ++ [xs.take n]) := by
  rw [cutTo_at, hk]; exact if_pos ⟨Int.natCast_nonneg n, hl⟩
theorem cutFrom_lst {k : Nat} {xs : List MV} {n : Nat} (hk : μ[k]? = some xs) (hl : xs.length ≤ sizeLine) : cutFrom (.lst k) (.int n) μ = .ok (.lst μ.length) (μ ++ [xs.drop n]) := by
  rw [cutFrom_at, hk]; exact if_pos ⟨Int.natCast_nonneg n, hl⟩
end

/-! loops -/
section
variable {G : MH → Prop} {put : Rho → MV → Rho} {f : DS}
theorem loop_nil {ρ : Rho} {μ : MH} (h : G μ) : loopM G put f [] ρ μ = .ok (.next, ρ) μ := if_pos h
theorem loop_next {v : MV} {vs : List MV} {ρ ρ' : Rho} {μ μ' : MH} (h : G μ) (e : f (put ρ v) μ = .ok (.next, ρ') μ') : loopM G put f (v :: vs) ρ μ = loopM G put f vs ρ' μ' := by rw [loopM_cons, if_pos h, e]; rfl
theorem loop_ret {v x : MV} {vs : List MV} {ρ ρ' : Rho} {μ μ' : MH} (h : G μ) (e : f (put ρ v) μ = .ok (.ret x, ρ') μ') : loopM G put f (v :: vs) ρ μ = .ok (.ret x, ρ') μ' := by rw [loopM_cons, if_pos h, e]; rfl
theorem loop_exc {v : MV} {c : Str} {vs : List MV} {ρ : Rho} {μ μ' : MH} (h : G μ) (e : f (put ρ v) μ = .exc c μ') : loopM G put f (v :: vs) ρ μ = .exc c μ' := by rw [loopM_cons, if_pos h, e]; rfl
/-- a loop that goes through -/
theorem loop_all {its : List MV} (I : Nat → Rho → MH → Prop) (hG : ∀ i ρ μ, I i ρ μ → G μ)
    (step : ∀ i v ρ μ, its[i]? = some v → I i ρ μ → ∃ ρ' μ', f (put ρ v) μ = .ok (.next, ρ') μ' ∧ I (i + 1) ρ' μ') :
    ∀ (j : Nat) (ρ : Rho) (μ : MH), j ≤ its.length → I j ρ μ → ∃ ρ' μ', loopM G put f (its.drop j) ρ μ = .ok (.next, ρ') μ' ∧ I its.length ρ' μ' := by
  intro j
  induction hd : its.length - j generalizing j with
  | zero =>
    intro ρ μ hj hI
    have : j = its.length := by first | assumption | exact Nat.zero_le _ | exact lt_big (by assumption) (by assumption) | decide | omega
    subst this
    rw [List.drop_length]
    exact ⟨ρ, μ, loop_nil (hG _ _ _ hI), hI⟩
  | succ d ih =>
    intro ρ μ hj hI
    have hlt : j < its.length := by first | assumption | exact Nat.zero_le _ | exact lt_big (by assumption) (by assumption) | decide | omega
    rw [List.drop_eq_getElem_cons hlt]
    obtain ⟨ρ', μ', e, hI'⟩ := step j its[j] ρ μ (List.getElem?_eq_getElem hlt) hI
    rw [loop_next (hG _ _ _ hI) e]
    exact ih (j + 1) (by first | assumption | exact Nat.zero_le _ | exact lt_big (by assumption) (by assumption) | decide | omega) ρ' μ' hlt hI'
theorem loop_all0 {its : List MV} (I : Nat → Rho → MH → Prop) (hG : ∀ i ρ μ, I i ρ μ → G μ)
    (step : ∀ i v ρ μ, its[i]? = some v → I i ρ μ → ∃ ρ' μ', f (put ρ v) μ = .ok (.next, ρ') μ' ∧ I (i + 1) ρ' μ') {ρ : Rho} {μ : MH} (h : I 0 ρ μ) : ∃ ρ' μ', loopM G put f its ρ μ = .ok (.next, ρ') μ' ∧ I its.length ρ' μ' := by
  have := loop_all I hG step 0 ρ μ (Nat.zero_le _) h
  rwa [List.drop_zero] at this
/-- goes on, with names and lists such that .. -/
noncomputable def NextTo (o : Out (Fl × Rho)) (Q : Rho → MH → Prop) : Prop := ∃ ρ' μ', o = .ok (.next, ρ') μ' ∧ Q ρ' μ'
@[simp] theorem nextTo_ok {ρ : Rho} {μ : MH} {Q : Rho → MH → Prop} : NextTo (.ok (.next, ρ) μ) Q ↔ Q ρ μ := ⟨fun ⟨_, _, e, h⟩ => by cases e; exact h, fun h => ⟨_, _, rfl, h⟩⟩
/-- goes on, or comes back with a value -/
noncomputable def NextRet (o : Out (Fl × Rho)) (Q : Rho → MH → Prop) (R : MV → Rho → MH → Prop) : Prop := (∃ ρ' μ', o = .ok (.next, ρ') μ' ∧ Q ρ' μ') ∨ ∃ x ρ' μ', o = .ok (.ret x, ρ') μ' ∧ R x ρ' μ'
@[simp] theorem nextRet_ok {ρ : Rho} {μ : MH} {Q : Rho → MH → Prop} {R : MV → Rho → MH → Prop} : NextRet (.ok (.next, ρ) μ) Q R ↔ Q ρ μ := ⟨fun h => by rcases h with ⟨_, _, e, h⟩ | ⟨_, _, _, e, _⟩ <;> cases e; exact h, fun h => .inl ⟨_, _, rfl, h⟩⟩
@[simp] theorem nextRet_ret {ρ : Rho} {μ : MH} {x : MV} {Q : Rho → MH → Prop} {R : MV → Rho → MH → Prop} : NextRet (.ok (.ret x, ρ) μ) Q R ↔ R x ρ μ := ⟨fun h => by rcases h with ⟨_, _, e, _⟩ | ⟨_, _, _, e, h⟩ <;> cases e; exact h, fun h => .inr ⟨_, _, _, rfl, h⟩⟩
/-- a value, and lists such that .. -/
noncomputable def Gives {α : Type} (o : Out α) (Q : α → MH → Prop) : Prop := ∃ a μ', o = .ok a μ' ∧ Q a μ'
@[simp] theorem gives_ok {α : Type} {a : α} {μ : MH} {Q : α → MH → Prop} : Gives (.ok a μ) Q ↔ Q a μ := ⟨fun ⟨_, _, e, h⟩ => by cases e; exact h, fun h => ⟨_, _, rfl, h⟩⟩
theorem loop_rule {its : List MV} {P : Out (Fl × Rho) → Prop} {ρ : Rho} {μ : MH} (I : Nat → Rho → MH → Prop) (hG : ∀ i ρ μ, I i ρ μ → G μ) (h0 : I 0 ρ μ)
    (step : ∀ i v ρ μ, its[i]? = some v → I i ρ μ → NextTo (f (put ρ v) μ) (I (i + 1))) (fin : ∀ ρ' μ', I its.length ρ' μ' → P (.ok (.next, ρ') μ')) : P (loopM G put f its ρ μ) := by
  obtain ⟨ρ', μ', e, h⟩ := loop_all0 I hG step h0
  rw [e]; exact fin ρ' μ' h
/-- a loop that may return -/
theorem loop_rule_ret {its : List MV} {P : Out (Fl × Rho) → Prop} {ρ : Rho} {μ : MH} (I : Nat → Rho → MH → Prop) (hG : ∀ i ρ μ, I i ρ μ → G μ) (h0 : I 0 ρ μ)
    (step : ∀ i v ρ μ, its[i]? = some v → I i ρ μ → NextRet (f (put ρ v) μ) (I (i + 1)) (fun x ρ' μ' => P (.ok (.ret x, ρ') μ')))
    (fin : ∀ ρ' μ', I its.length ρ' μ' → P (.ok (.next, ρ') μ')) : P (loopM G put f its ρ μ) := by
  suffices ∀ (j : Nat) (ρ : Rho) (μ : MH), j ≤ its.length → I j ρ μ → P (loopM G put f (its.drop j) ρ μ) by
    have := this 0 ρ μ (Nat.zero_le _) h0
    rwa [List.drop_zero] at this
  intro j
  induction hd : its.length - j generalizing j with
  | zero =>
    intro ρ μ hj hI
    have : j = its.length := by first | assumption | exact Nat.zero_le _ | exact lt_big (by assumption) (by assumption) | decide | omega
    subst this
    rw [List.drop_length, loop_nil (hG _ _ _ hI)]
    exact fin ρ μ hI
  | succ d ih =>
    intro ρ μ hj hI
    have hlt : j < its.length := by first | assumption | exact Nat.zero_le _ | exact lt_big (by assumption) (by assumption) | decide | omega
    rw [List.drop_eq_getElem_cons hlt]
    rcases step j its[j] ρ μ (List.getElem?_eq_getElem hlt) hI with ⟨ρ', μ', e, hI'⟩ | ⟨x, ρ', μ', e, h⟩
    · rw [loop_next (hG _ _ _ hI) e]
      exact ih (j + 1) (by first | assumption | exact Nat.zero_le _ | exact lt_big (by assumption) (by assumption) | decide | omega) ρ' μ' hlt hI'
    · rw [loop_ret (hG _ _ _ hI) e]; exact h
end
end Mine

set_option linter.unusedVariables false
namespace Mine.Com
open PySem Mine

inductive St where
  | put (b : Nat) (v : Int)
  | get (b : Nat)
  | fence
noncomputable def St.mv : St → MV
  | .put b v => .tup [.str (Str.ofString "put"), .int b, .int v]
  | .get b => .tup [.str (Str.ofString "get"), .int b]
  | .fence => .tup [.str (Str.ofString "fence")]
noncomputable def big : Int := 1000000000000000000000000000000
noncomputable def St.ok : St → Prop
  | .put b v => b < 4 ∧ -big < v ∧ v < big
  | .get b => b < 4
  | .fence => True
noncomputable def MV.isInt : MV → Bool
  | .int _ => true
  | _ => false
noncomputable def MV.plain : MV → Bool
  | .exc _ => false
  | _ => true

/-! the words of the program -/
section
variable {μ : MH}
@[simp] theorem w_put_fence : eqM (.str (Str.ofString "put")) (.str (Str.ofString "fence")) μ = .ok (.bool false) μ := eq_lit (by decide +kernel) (by decide +kernel) (by decide +kernel)
@[simp] theorem w_put_get : eqM (.str (Str.ofString "put")) (.str (Str.ofString "get")) μ = .ok (.bool false) μ := eq_lit (by decide +kernel) (by decide +kernel) (by decide +kernel)
@[simp] theorem w_put_put : eqM (.str (Str.ofString "put")) (.str (Str.ofString "put")) μ = .ok (.bool true) μ := eq_lit (by decide +kernel) (by decide +kernel) (by decide +kernel)
@[simp] theorem w_get_fence : eqM (.str (Str.ofString "get")) (.str (Str.ofString "fence")) μ = .ok (.bool false) μ := eq_lit (by decide +kernel) (by decide +kernel) (by decide +kernel)
@[simp] theorem w_get_get : eqM (.str (Str.ofString "get")) (.str (Str.ofString "get")) μ = .ok (.bool true) μ := eq_lit (by decide +kernel) (by decide +kernel) (by decide +kernel)
@[simp] theorem w_get_put : eqM (.str (Str.ofString "get")) (.str (Str.ofString "put")) μ = .ok (.bool false) μ := eq_lit (by decide +kernel) (by decide +kernel) (by decide +kernel)
@[simp] theorem w_fence_fence : eqM (.str (Str.ofString "fence")) (.str (Str.ofString "fence")) μ = .ok (.bool true) μ := eq_lit (by decide +kernel) (by decide +kernel) (by decide +kernel)
@[simp] theorem w_fence_get : eqM (.str (Str.ofString "fence")) (.str (Str.ofString "get")) μ = .ok (.bool false) μ := eq_lit (by decide +kernel) (by decide +kernel) (by decide +kernel)
@[simp] theorem w_fence_put : eqM (.str (Str.ofString "fence")) (.str (Str.ofString "put")) μ = .ok (.bool false) μ := eq_lit (by decide +kernel) (by decide +kernel) (by decide +kernel)
@[simp] theorem w_step_send : eqM (.str (Str.ofString "step")) (.str (Str.ofString "send")) μ = .ok (.bool false) μ := eq_lit (by decide +kernel) (by decide +kernel) (by decide +kernel)
@[simp] theorem w_send_send : eqM (.str (Str.ofString "send")) (.str (Str.ofString "send")) μ = .ok (.bool true) μ := eq_lit (by decide +kernel) (by decide +kernel) (by decide +kernel)
@[simp] theorem n_put_fence : neM (.str (Str.ofString "put")) (.str (Str.ofString "fence")) μ = .ok (.bool true) μ := ne_lit (by decide +kernel) (by decide +kernel) (by decide +kernel)
@[simp] theorem n_get_fence : neM (.str (Str.ofString "get")) (.str (Str.ofString "fence")) μ = .ok (.bool true) μ := ne_lit (by decide +kernel) (by decide +kernel) (by decide +kernel)
@[simp] theorem n_fence_fence : neM (.str (Str.ofString "fence")) (.str (Str.ofString "fence")) μ = .ok (.bool false) μ := ne_lit (by decide +kernel) (by decide +kernel) (by decide +kernel)
@[simp] theorem n_put_put : neM (.str (Str.ofString "put")) (.str (Str.ofString "put")) μ = .ok (.bool false) μ := ne_lit (by decide +kernel) (by decide +kernel) (by decide +kernel)
end

section
variable {μ : MH}
theorem is_whole_eq (v : MV) (h : MV.plain v = true) : f_is_whole [v] μ = .ok (.bool (MV.isInt v)) μ := by
  cases v <;> first | rfl | cases h
@[simp] theorem is_whole_int (i : Int) : f_is_whole [.int i] μ = .ok (.bool true) μ := is_whole_eq _ rfl
theorem is_box_int (i : Int) : f_is_box [.int i] μ = .ok (.bool (decide (0 ≤ i ∧ i < 4))) μ := by
  simp [f_is_box, ev_def, d_is_box, ev_var]
  by_cases h : 0 ≤ i <;> simp [h]
theorem is_box_nat {b : Nat} (h : b < 4) : f_is_box [.int b] μ = .ok (.bool true) μ := by
  rw [is_box_int]
  have : (0 : Int) ≤ b ∧ (b : Int) < 4 := by first | assumption | exact Nat.zero_le _ | exact lt_big (by assumption) (by assumption) | decide | omega
  rw [decide_eq_true this]
theorem is_step_mv {s : St} (h : s.ok) : f_is_step [s.mv] μ = .ok (.bool true) μ := by
  cases s with
  | put b v =>
    obtain ⟨h1, h2, h3⟩ := h
    simp [f_is_step, ev_def, d_is_step, ev_var, St.mv, is_box_nat h1]
    unfold big at h2 h3
    simp [h2, h3]
  | get b => 
    have h1 : b < 4 := h
    simp [f_is_step, ev_def, d_is_step, ev_var, St.mv, is_box_nat h1]
  | fence => simp [f_is_step, ev_def, d_is_step, ev_var, St.mv]
end

/-! webs -/
structure WebAt (μ : MH) (k : Nat) (rs : List Nat) (W : List (List St)) : Prop where
  top : μ[k]? = some (rs.map .lst)
  len : rs.length = W.length
  row : ∀ (i r : Nat) (row : List St), rs[i]? = some r → W[i]? = some row → μ[r]? = some (row.map St.mv)
theorem get_pre {α : Type} {a b : List α} (h : a <+: b) {k : Nat} {x : α} (e : a[k]? = some x) : b[k]? = some x := by
  obtain ⟨t, rfl⟩ := h
  rw [List.getElem?_append_left (List.getElem?_eq_some_iff.mp e).1]; exact e
theorem WebAt.mono {μ μ' : MH} {k : Nat} {rs : List Nat} {W : List (List St)} (x : WebAt μ k rs W) (h : μ <+: μ') : WebAt μ' k rs W := ⟨get_pre h x.top, x.len, fun i r row h1 h2 => get_pre h (x.row i r row h1 h2)⟩
noncomputable def St.isFence : St → Bool
  | .fence => true
  | _ => false
noncomputable def deeds (row : List St) : Nat := (row.filter fun s => !s.isFence).length
structure WebOk (W : List (List St)) : Prop where
  one : 1 ≤ W.length
  three : W.length ≤ 3
  ok : ∀ row ∈ W, ∀ s ∈ row, s.ok
  small : ∀ row ∈ W, row.length ≤ 100
  few : (W.map deeds).sum ≤ 8

theorem map_get {α β : Type} {f : α → β} {l : List α} {i : Nat} {v : β} (h : (l.map f)[i]? = some v) : ∃ a, l[i]? = some a ∧ v = f a := by
  rw [List.getElem?_map] at h
  obtain ⟨a, h1, h2⟩ := Option.map_eq_some_iff.mp h
  exact ⟨a, h1, h2.symm⟩

section
variable {μ : MH}
noncomputable def St.kind : St → MV
  | .put _ _ => .str (Str.ofString "put")
  | .get _ => .str (Str.ofString "get")
  | .fence => .str (Str.ofString "fence")
noncomputable def St.isPut : St → Bool
  | .put _ _ => true
  | _ => false
noncomputable def St.isGet : St → Bool
  | .get _ => true
  | _ => false
@[simp] theorem idx_kind (s : St) : idxM s.mv (.int 0) μ = .ok s.kind μ := by cases s <;> simp [St.mv, St.kind]
@[simp] theorem ne_fence (s : St) : neM s.kind (.str (Str.ofString "fence")) μ = .ok (.bool (!s.isFence)) μ := by cases s <;> simp [St.isFence, St.kind]
@[simp] theorem eq_put (s : St) : eqM s.kind (.str (Str.ofString "put")) μ = .ok (.bool s.isPut) μ := by cases s <;> simp [St.isPut, St.kind]
@[simp] theorem eq_get (s : St) : eqM s.kind (.str (Str.ofString "get")) μ = .ok (.bool s.isGet) μ := by cases s <;> simp [St.isGet, St.kind]

theorem deeds_take {row : List St} {i : Nat} {s : St} (h : row[i]? = some s) : deeds (row.take (i + 1)) = deeds (row.take i) + if s.isFence then 0 else 1 := by
  have hlt := (List.getElem?_eq_some_iff.mp h).1
  have he := (List.getElem?_eq_some_iff.mp h).2
  rw [List.take_succ_eq_append_getElem hlt, he]
  unfold deeds
  rw [List.filter_append, List.length_append]
  cases hf : s.isFence <;> simp [hf]
theorem sum_take {W : List (List St)} {i : Nat} {row : List St} (h : W[i]? = some row) : ((W.take (i + 1)).map deeds).sum = ((W.take i).map deeds).sum + deeds row := by
  have hlt := (List.getElem?_eq_some_iff.mp h).1
  have he := (List.getElem?_eq_some_iff.mp h).2
  rw [List.take_succ_eq_append_getElem hlt, he]
  simp

theorem need_web_eq {k : Nat} {rs : List Nat} {W : List (List St)} (hW : WebAt μ k rs W) (ok : WebOk W) : f_need_web [.lst k] μ = .ok (.lst k) μ := by
  have hlen : lenM [.lst k] μ = .ok (.int W.length) μ := by
    rw [len_lst hW.top (by have := ok.three; have := hW.len; simp; omega)]; simp [hW.len]
  have c1 : (1 : Int) ≤ W.length := by have := ok.one; omega
  have c2 : (W.length : Int) ≤ 3 := by have := ok.three; omega
  rw [f_need_web, ev_def (k := 1) rfl]
  simp [d_need_web, ev_var, hlen, c1, c2, itK_lst hW.top]
  refine loop_rule (P := fun o => defK (seqK o _) = _) (fun i ρ μ' => μ = μ' ∧ ρ 0 = some (.lst k) ∧ ∃ z : Int, ρ 1 = some (.int z) ∧ z = (((W.take i).map deeds).sum : Nat)) (fun i ρ μ' h => by rw [← h.1]; exact hW.top) ⟨rfl, by simp, 0, by simp, by simp⟩ ?_ ?_
  · rintro i v ρ μ' hv ⟨rfl, h0, z, h1, hz⟩
    obtain ⟨r, hr, rfl⟩ := map_get hv
    have hi : i < W.length := by rw [← hW.len]; exact (List.getElem?_eq_some_iff.mp hr).1
    have hrow : W[i]? = some W[i] := List.getElem?_eq_getElem hi
    have hat := hW.row i r _ hr hrow
    simp only [putAt, ev_seq, ev_ifs, ev_not, ev_op1, ev_var (rho_set_self ..), Out.bind_ok, isi_lst, notK_ok, Bool.not_true, ifK_false, ev_skip, seqK_next, ev_for, ev_seqI, itK_lst hat, forK_ok]
    refine loop_rule (P := fun o => NextTo (seqK o _) _) (fun j ρ μ' => μ = μ' ∧ ρ 0 = some (.lst k) ∧ ∃ y : Int, ρ 1 = some (.int y) ∧ y = z + (deeds (W[i].take j) : Nat)) (fun i ρ μ' h => by rw [← h.1]; exact hat) ⟨rfl, by simp [h0], z, by simp [h1], by simp [deeds]⟩ ?_ ?_
    · rintro j v ρ μ' hv ⟨rfl, h0, y, h1, hy⟩
      obtain ⟨s, hs, rfl⟩ := map_get hv
      have sok := ok.ok _ (List.getElem_mem hi) s (List.mem_of_getElem? hs)
      have hd := deeds_take hs
      simp [putAt, ev_var, is_step_mv sok]
      cases hf : s.isFence
      · rw [hf] at hd; simp at hd
        simp [ev_var, h1, h0]; omega
      · rw [hf] at hd; simp at hd
        simp [h1, h0]; omega
    · rintro ρ μ' ⟨rfl, h0, y, h1, hy⟩
      simp only [seqK_next, ev_skip, nextTo_ok]
      refine ⟨trivial, h0, y, h1, ?_⟩
      have := sum_take hrow
      rw [List.length_map, List.take_length] at hy
      omega
  · rintro ρ μ' ⟨rfl, h0, z, h1, hz⟩
    have hf := ok.few
    have hz' : z = ((W.map deeds).sum : Nat) := by rw [hz, List.length_map, hW.len, List.take_length]
    have c3 : ¬ ((8 : Int) < z) := by first | assumption | exact Nat.zero_le _ | exact lt_big (by assumption) (by assumption) | decide | omega
    simp [ev_var h0, ev_var h1, c3]
end
end Mine.Com

set_option linter.unusedVariables false
set_option linter.unusedSimpArgs false
namespace Mine.Com
open PySem Mine

structure S where
  done : List Nat
  lines : List (List (Nat × Int))
  boxes : List Int
  got : List (List Int)
noncomputable def intMv (n : Nat) : MV := .int n
noncomputable def pairMv (p : Nat × Int) : MV := .tup [.int p.1, .int p.2]
noncomputable def lineMv (l : List (Nat × Int)) : MV := .tup (l.map pairMv)
noncomputable def gotMv (l : List Int) : MV := .tup (l.map .int)
noncomputable def S.mv (s : S) : MV := .tup [.tup (s.done.map intMv), .tup (s.lines.map lineMv), .tup (s.boxes.map .int), .tup (s.got.map gotMv)]
structure SOk (n : Nat) (s : S) : Prop where
  done : s.done.length = n
  lines : s.lines.length = n
  boxes : s.boxes.length = 4
  got : s.got.length = n
  pairs : ∀ l ∈ s.lines, l.length ≤ 100 ∧ ∀ p ∈ l, p.1 < 4
  gots : ∀ g ∈ s.got, g.length ≤ 100
  small : ∀ d ∈ s.done, d ≤ 100
noncomputable def S0 (n : Nat) : S := ⟨List.replicate n 0, List.replicate n [], [0, 0, 0, 0], List.replicate n []⟩
theorem S0_ok (n : Nat) : SOk n (S0 n) := by
  refine ⟨by simp [S0], by simp [S0], by simp [S0], by simp [S0], ?_, ?_, ?_⟩
  · intro l hl; rw [S0] at hl; simp at hl; rw [hl.2]; simp
  · intro l hl; rw [S0] at hl; simp at hl; rw [hl.2]; simp
  · intro l hl; rw [S0] at hl; simp at hl; rw [hl.2]; simp

section
variable {μ : MH} {ρ : Rho}
@[simp] theorem get_last (xs : List MV) : (μ ++ [xs])[List.length μ]? = some xs := by simp
theorem mul_lst {k n : Nat} {xs : List MV} (h : μ[k]? = some xs) (hb : xs.length * n ≤ 1000) (hn : n ≤ 1000) : mulM (.lst k) (.int n) μ = .ok (.lst μ.length) (μ ++ [(List.replicate n xs).flatten]) := by
  have hc : (0 : Int) ≤ (n : Int) ∧ (n : Int) < 2 ^ 62 ∧ xs.length * (n : Int).toNat ≤ 2 ^ 24 := ⟨by first | assumption | exact Nat.zero_le _ | exact lt_big (by assumption) (by assumption) | decide | omega, by first | assumption | exact Nat.zero_le _ | exact lt_big (by assumption) (by assumption) | decide | omega, by simp; omega⟩
  rw [mulM_lst, h]
  exact if_pos hc
theorem flat_rep (n : Nat) (a : MV) : (List.replicate n [a]).flatten = List.replicate n a := by
  induction n with
  | zero => rfl
  | succ n ih => rw [List.replicate_succ, List.flatten_cons, ih, List.replicate_succ]; rfl
theorem tuple_lst {k : Nat} {xs : List MV} (h : μ[k]? = some xs) (hl : xs.length ≤ 1000) : tupleM [.lst k] μ = .ok (.tup xs) μ := by
  rw [tupleM_lst, h]
  exact if_pos (by unfold sizeLine; omega)
/-- tuple([a] * n) -/
theorem tup_rep {e f : D} {a : MV} {n : Nat} (hf : f ρ μ = .ok a μ) (he : ∀ μ', e ρ μ' = .ok (.int n) μ') (hn : n ≤ 100) : dCall tupleM (dCons (dBin mulM (dList (dCons f dNil)) e) dNil) ρ μ = .ok (.tup (List.replicate n a)) (μ ++ [[a]] ++ [List.replicate n a]) := by
  simp only [ev_call, ev_cons, ev_bin, ev_list, hf, consK_ok, ev_nil, consK2_ok, listK_ok, binK_ok, he, binK2_ok]
  rw [mul_lst (get_last _) (by simp; omega) (by first | assumption | exact Nat.zero_le _ | exact lt_big (by assumption) (by assumption) | decide | omega), flat_rep]
  simp only [consK_ok, ev_nil, consK2_ok, Out.bind_ok]
  rw [tuple_lst (get_last _) (by simp; omega)]
theorem pre_app (μ : MH) (xs : List (List MV)) : μ <+: μ ++ xs := List.prefix_append ..
theorem begun_eq {k : Nat} {rs : List Nat} {W : List (List St)} (hW : WebAt μ k rs W) (ok : WebOk W) : ∃ μ', f_begun [.lst k] μ = .ok (S0 W.length).mv μ' ∧ μ <+: μ' := by
  have hlen : lenM [.lst k] μ = .ok (.int W.length) μ := by
    rw [len_lst hW.top (by have := ok.three; have := hW.len; simp; omega)]; simp [hW.len]
  have h3 := ok.three
  rw [f_begun, ev_def (k := 1) rfl]
  have e1 : dExpr (dCall f_need_web (dCons (dVar 0) dNil)) (fun i => [MV.lst k][i]?) μ = .ok (.next, fun i => [MV.lst k][i]?) μ := by simp [ev_var, need_web_eq hW ok]
  have e2 : dAssign 1 (dCall lenM (dCons (dVar 0) dNil)) (fun i => [MV.lst k][i]?) μ = .ok (.next, Rho.set (fun i => [MV.lst k][i]?) 1 (.int W.length)) μ := by simp [ev_var, hlen]
  simp only [d_begun, ev_seq, e1, seqK_next, e2]
  have hr : ∀ μ', dVar 1 (Rho.set (fun i => [MV.lst k][i]?) 1 (.int W.length)) μ' = .ok (.int W.length) μ' := fun μ' => ev_var (rho_set_self ..)
  simp only [ev_ret, ev_tup, ev_cons]
  rw [tup_rep (a := .int 0) (n := W.length) rfl hr (by first | assumption | exact Nat.zero_le _ | exact lt_big (by assumption) (by assumption) | decide | omega), consK_ok, ev_cons, tup_rep (a := .tup []) (n := W.length) rfl hr (by first | assumption | exact Nat.zero_le _ | exact lt_big (by assumption) (by assumption) | decide | omega), consK_ok, ev_cons, tup_rep (a := .int 0) (n := 4) rfl (fun _ => rfl) (by first | assumption | exact Nat.zero_le _ | exact lt_big (by assumption) (by assumption) | decide | omega), consK_ok, ev_cons, tup_rep (a := .tup []) (n := W.length) rfl hr (by first | assumption | exact Nat.zero_le _ | exact lt_big (by assumption) (by assumption) | decide | omega)]
  simp only [consK_ok, ev_nil, consK2_ok, tupK_ok, retK_ok, seqK_ret, defK_ret]
  refine ⟨_, congrArg (fun v => Out.ok v _) ?_, ?_⟩
  · simp [S.mv, S0, intMv, lineMv, gotMv, List.map_replicate, List.replicate]
  · simp only [List.append_assoc]; exact pre_app _ _
end
end Mine.Com

set_option linter.unusedVariables false
set_option linter.unusedSimpArgs false
namespace Mine.Com
open PySem Mine

section
variable {μ : MH} {ρ : Rho}
theorem changed_eq {row : List MV} {n : Nat} {v : MV} (hl : row.length ≤ 1000) : f_changed [.tup row, .int n, v] μ = .ok (.tup (row.take n ++ [v] ++ row.drop (n + 1))) μ := by
  have h1 : ∀ a b : List MV, a.length + b.length ≤ 2002 → a.length + b.length ≤ sizeLine := fun a b h => by unfold sizeLine; omega
  rw [f_changed, ev_def (k := 3) rfl]
  simp only [d_changed, ev_seq, ev_ret, ev_bin, ev_tup, ev_cons]
  simp only [ev_var (ρ := fun i => [MV.tup row, .int n, v][i]?) (i := 0) (v := .tup row) rfl, ev_var (ρ := fun i => [MV.tup row, .int n, v][i]?) (i := 1) (v := .int n) rfl, ev_var (ρ := fun i => [MV.tup row, .int n, v][i]?) (i := 2) (v := v) rfl, binK_ok, binK2_ok, ev_const, add_int, ev_nil, ev_tup, ev_cons, consK_ok, consK2_ok, tupK_ok, ev_bin]
  have hs : row.length ≤ sizeLine := by unfold sizeLine; omega
  rw [cutTo_tup hs]
  simp only [binK_ok, ev_tup, ev_cons, ev_nil, ev_var (ρ := fun i => [MV.tup row, .int n, v][i]?) (i := 2) (v := v) rfl, consK_ok, consK2_ok, tupK_ok, binK2_ok]
  rw [add_tup (h1 _ _ (by simp; omega))]
  simp only [binK_ok, ev_bin, ev_var (ρ := fun i => [MV.tup row, .int n, v][i]?) (i := 0) (v := .tup row) rfl, ev_var (ρ := fun i => [MV.tup row, .int n, v][i]?) (i := 1) (v := .int n) rfl, ev_const, binK2_ok, add_int]
  rw [show ((n : Int) + 1) = ((n + 1 : Nat) : Int) from by first | assumption | exact Nat.zero_le _ | exact lt_big (by assumption) (by assumption) | decide | omega, cutFrom_tup hs]
  simp only [binK2_ok]
  rw [add_tup (h1 _ _ (by simp; omega))]
  simp

/-- what a hand sees in a box -/
noncomputable def seenP (s : S) (h b : Nat) : Int := (((s.lines[h]?.getD []).filter fun p => p.1 == b).getLast?.map (·.2)).getD (s.boxes[b]?.getD 0)

theorem seen_eq {n h b : Nat} {s : S} (ok : SOk n s) (n3 : n ≤ 3) (hh : h < n) (hb : b < 4) : f_seen [s.mv, .int h, .int b] μ = .ok (.int (seenP s h b)) μ := by
  have hl : h < s.lines.length := by rw [ok.lines]; exact hh
  have hn : ∀ (x : Nat), x < 4 → x < s.boxes.length := fun x hx => by rw [ok.boxes]; exact hx
  rw [f_seen, ev_def (k := 3) rfl]
  have i1 : idxM (.tup (s.boxes.map .int)) (.int b) μ = .ok (.int (s.boxes[b]?.getD 0)) μ := idx_tup (by simp [hn b hb]) (by first | assumption | exact Nat.zero_le _ | exact lt_big (by assumption) (by assumption) | decide | omega)
  have i2 : idxM (.tup (s.lines.map lineMv)) (.int h) μ = .ok (lineMv s.lines[h]) μ := idx_tup (by simp [hl]) (by first | assumption | exact Nat.zero_le _ | exact lt_big (by assumption) (by assumption) | decide | omega)
  simp [d_seen, ev_var, S.mv, i1, i2, lineMv]
  refine loop_rule (P := fun o => defK (seqK o _) = _) (fun i ρ μ' => μ = μ' ∧ ρ 2 = some (.int b) ∧ ρ 3 = some (.int ((((s.lines[h].take i).filter fun p => p.1 == b).getLast?.map (·.2)).getD (s.boxes[b]?.getD 0)))) (fun _ _ _ _ => trivial) ⟨rfl, by simp, by simp⟩ ?_ ?_
  · rintro i v ρ μ' hv ⟨rfl, h2, h3⟩
    obtain ⟨p, hp, rfl⟩ := map_get hv
    have hlt := (List.getElem?_eq_some_iff.mp hp).1
    have he := (List.getElem?_eq_some_iff.mp hp).2
    have ht : s.lines[h].take (i + 1) = s.lines[h].take i ++ [p] := by rw [List.take_succ_eq_append_getElem hlt, he]
    simp only [ht, List.filter_append]
    by_cases hpb : p.1 = b
    · have hpb' : ((p.1 : Int) == (b : Int)) = true := by simp [hpb]
      simp [putAt, ev_var, pairMv, h2, hpb', hpb]
    · have hpb' : ((p.1 : Int) == (b : Int)) = false := by simp; omega
      have hpb2 : (p.1 == b) = false := by simpa using hpb
      simp [putAt, ev_var, pairMv, h2, h3, hpb', hpb2]
  · rintro ρ μ' ⟨rfl, h2, h3⟩
    rw [List.length_map, List.take_length] at h3
    simp [ev_var h3, seenP, hl]
end
end Mine.Com

set_option linter.unusedVariables false
set_option linter.unusedSimpArgs false
namespace Mine.Com
open PySem Mine

noncomputable def canB (W : List (List St)) (s : S) (h : Nat) (x : Str) : Bool :=
  if x == Str.ofString "send" then decide (0 < (s.lines[h]?.getD []).length)
  else if x != Str.ofString "step" || decide ((W[h]?.getD []).length ≤ s.done[h]?.getD 0) then false
  else match (W[h]?.getD [])[s.done[h]?.getD 0]? with | some .fence => decide ((s.lines[h]?.getD []).length = 0) | _ => true

section
variable {μ : MH} {ρ : Rho} {k : Nat} {rs : List Nat} {W : List (List St)} {s : S}

theorem web_len (hW : WebAt μ k rs W) (ok : WebOk W) : lenM [.lst k] μ = .ok (.int W.length) μ := by
  rw [len_lst hW.top (by have := ok.three; have := hW.len; simp; omega)]; simp [hW.len]
theorem web_row (hW : WebAt μ k rs W) (ok : WebOk W) {h : Nat} (hh : h < W.length) : ∃ r, idxM (.lst k) (.int h) μ = .ok (.lst r) μ ∧ rs[h]? = some r ∧ μ[r]? = some (W[h].map St.mv) := by
  have hr : h < rs.length := by rw [hW.len]; exact hh
  refine ⟨rs[h], idx_lst hW.top (by simp [hr]) (by have := ok.three; omega), List.getElem?_eq_getElem hr, hW.row h _ _ (List.getElem?_eq_getElem hr) (List.getElem?_eq_getElem hh)⟩
theorem row_len {r : Nat} {row : List St} (h : μ[r]? = some (row.map St.mv)) (hl : row.length ≤ 100) : lenM [.lst r] μ = .ok (.int row.length) μ := by
  rw [len_lst h (by simp; omega)]; simp
theorem row_idx {r n : Nat} {row : List St} {st : St} (h : μ[r]? = some (row.map St.mv)) (hn : row[n]? = some st) (hl : row.length ≤ 100) : idxM (.lst r) (.int n) μ = .ok st.mv μ :=
  idx_lst h (by rw [List.getElem?_map, hn]; rfl) (by have := (List.getElem?_eq_some_iff.mp hn).1; omega)
theorem done_idx {n h : Nat} (ok : SOk n s) (hh : h < n) (n3 : n ≤ 3) : idxM (.tup (s.done.map intMv)) (.int h) μ = .ok (.int (s.done[h]?.getD 0 : Nat)) μ := by
  have hd : h < s.done.length := by rw [ok.done]; exact hh
  exact idx_tup (by simp [hd, intMv]) (by first | assumption | exact Nat.zero_le _ | exact lt_big (by assumption) (by assumption) | decide | omega)
theorem line_idx {n h : Nat} (ok : SOk n s) (hh : h < n) (n3 : n ≤ 3) : idxM (.tup (s.lines.map lineMv)) (.int h) μ = .ok (lineMv (s.lines[h]?.getD [])) μ := by
  have hd : h < s.lines.length := by rw [ok.lines]; exact hh
  exact idx_tup (by simp [hd]) (by first | assumption | exact Nat.zero_le _ | exact lt_big (by assumption) (by assumption) | decide | omega)
theorem got_idx {n h : Nat} (ok : SOk n s) (hh : h < n) (n3 : n ≤ 3) : idxM (.tup (s.got.map gotMv)) (.int h) μ = .ok (gotMv (s.got[h]?.getD [])) μ := by
  have hd : h < s.got.length := by rw [ok.got]; exact hh
  exact idx_tup (by simp [hd]) (by first | assumption | exact Nat.zero_le _ | exact lt_big (by assumption) (by assumption) | decide | omega)
theorem line_small {n h : Nat} (ok : SOk n s) (hh : h < n) : (s.lines[h]?.getD []).length ≤ 100 := by
  have hd : h < s.lines.length := by rw [ok.lines]; exact hh
  simp only [List.getElem?_eq_getElem hd, Option.getD_some]
  exact (ok.pairs _ (List.getElem_mem hd)).1
theorem line_len {l : List (Nat × Int)} (hl : l.length ≤ 100) : lenM [lineMv l] μ = .ok (.int l.length) μ := by
  unfold lineMv
  rw [len_tup (by simp; omega)]; simp
theorem can_eq (hW : WebAt μ k rs W) (ok : WebOk W) (so : SOk W.length s) {h : Nat} (hh : h < W.length) {x : Str} (hx : PyData.strOk x = true) :
    f_can [.lst k, s.mv, .tup [.int h, .str x]] μ = .ok (.bool (canB W s h x)) μ := by
  obtain ⟨r, e1, hr, hat⟩ := web_row hW ok hh
  have hlen := web_len hW ok
  have n3 := ok.three
  have hd := done_idx (μ := μ) so hh n3
  have hl := line_idx (μ := μ) so hh n3
  have hll := line_len (μ := μ) (line_small so hh)
  have hrow := ok.small _ (List.getElem_mem hh)
  have hrl := row_len hat hrow
  have hW' : W[h]?.getD [] = W[h] := by simp [hh]
  have c1 : (0 : Int) ≤ h := by first | assumption | exact Nat.zero_le _ | exact lt_big (by assumption) (by assumption) | decide | omega
  have c2 : (h : Int) < W.length := by first | assumption | exact Nat.zero_le _ | exact lt_big (by assumption) (by assumption) | decide | omega
  have s1 := eq_str (μ := μ) hx (show PyData.strOk (Str.ofString "send") = true from by decide +kernel)
  have s2 := ne_str (μ := μ) hx (show PyData.strOk (Str.ofString "step") = true from by decide +kernel)
  rw [f_can, ev_def (k := 3) rfl]
  unfold canB
  rw [hW']
  simp [d_can, ev_var, S.mv, hlen, c1, c2, hl, s1]
  by_cases hs : x = Str.ofString "send"
  · simp [hs, ev_var, hll]
  · have hs' : (x == Str.ofString "send") = false := by simpa using hs
    simp [hs, hs', ev_var, s2]
    by_cases ht : x = Str.ofString "step"
    · have ht' : (x == Str.ofString "step") = true := by simpa using ht
      simp [ht', ht, ev_var, hd, e1, hrl]
      by_cases hdn : W[h].length ≤ s.done[h]?.getD 0
      · have hdn' : ((W[h].length : Nat) : Int) ≤ (s.done[h]?.getD 0 : Nat) := by first | assumption | exact Nat.zero_le _ | exact lt_big (by assumption) (by assumption) | decide | omega
        simp [hdn]
      · have hlt : s.done[h]?.getD 0 < W[h].length := by first | assumption | exact Nat.zero_le _ | exact lt_big (by assumption) (by assumption) | decide | omega
        have hri := row_idx (n := s.done[h]?.getD 0) hat (List.getElem?_eq_getElem hlt) hrow
        simp [hdn, ev_var, e1, hd, hri, hlt]
        cases hf : W[h][s.done[h]?.getD 0] <;> simp [St.isFence, ev_var, hll]
        generalize s.lines[h]?.getD [] = l
        cases l <;> simp
        omega
    · have ht' : (x == Str.ofString "step") = false := by simpa using ht
      simp [ht', ht]

theorem can_out (hW : WebAt μ k rs W) (ok : WebOk W) {h : Int} (hh : ¬ (0 ≤ h ∧ h < W.length)) {x : Str} : f_can [.lst k, s.mv, .tup [.int h, .str x]] μ = .ok (.bool false) μ := by
  have hlen := web_len hW ok
  rw [f_can, ev_def (k := 3) rfl]
  by_cases c1 : 0 ≤ h
  · have c2 : ¬ h < W.length := fun q => hh ⟨c1, q⟩
    simp [d_can, ev_var, S.mv, hlen, c1, c2]
  · simp [d_can, ev_var, S.mv, hlen, c1]

/-- a thing that is no move at all -/
noncomputable def noMove : MV → Bool
  | .none | .bool _ | .int _ | .str _ | .lst _ => true
  | .tup [_] | .tup [_, _, _] => true
  | .tup [.bool _, .str _] | .tup [.str _, .str _] | .tup [.int _, .none] | .tup [.int _, .int _] => true
  | _ => false
theorem can_odd {v : MV} (h : noMove v = true) : f_can [.lst k, s.mv, v] μ = .ok (.bool false) μ := by
  rw [f_can, ev_def (k := 3) rfl]
  have w1 : ∀ b, f_is_whole [.bool b] μ = .ok (.bool false) μ := fun b => is_whole_eq _ rfl
  have w2 : ∀ x, f_is_whole [.str x] μ = .ok (.bool false) μ := fun b => is_whole_eq _ rfl
  unfold noMove at h
  split at h <;> first | (simp [d_can, ev_var, isiM, Ty.has, w1, w2]; done) | cases h

/-! moves -/
noncomputable def setL {α : Type} (l : List α) (i : Nat) (v : α) : List α := l.take i ++ [v] ++ l.drop (i + 1)
theorem setL_eq {α : Type} {l : List α} {i : Nat} (h : i < l.length) (v : α) : setL l i v = l.set i v := by
  unfold setL
  rw [List.set_eq_take_append_cons_drop, if_pos h]; simp
noncomputable def movedP (W : List (List St)) (s : S) (h : Nat) (x : Str) : S :=
  if x == Str.ofString "send" then match s.lines[h]?.getD [] with
    | p :: r => ⟨s.done, s.lines.set h r, s.boxes.set p.1 p.2, s.got⟩
    | [] => s
  else match (W[h]?.getD [])[s.done[h]?.getD 0]? with
    | some (.put b v) => ⟨s.done.set h (s.done[h]?.getD 0 + 1), s.lines.set h (s.lines[h]?.getD [] ++ [(b, v)]), s.boxes, s.got⟩
    | some (.get b) => ⟨s.done.set h (s.done[h]?.getD 0 + 1), s.lines, s.boxes, s.got.set h (s.got[h]?.getD [] ++ [seenP s h b])⟩
    | _ => ⟨s.done.set h (s.done[h]?.getD 0 + 1), s.lines, s.boxes, s.got⟩
theorem got_small {n h : Nat} (ok : SOk n s) (hh : h < n) : (s.got[h]?.getD []).length ≤ 100 := by
  have hd : h < s.got.length := by rw [ok.got]; exact hh
  simp only [List.getElem?_eq_getElem hd, Option.getD_some]
  exact ok.gots _ (List.getElem_mem hd)

theorem moved_no (hc : f_can [.lst k, s.mv, v] μ = .ok (.bool false) μ) : f_moved [.lst k, s.mv, v] μ = .exc (Str.ofString "NoMove") μ := by
  rw [f_moved, ev_def (k := 3) rfl]
  simp [d_moved, ev_var, hc]

theorem ch_tup {l : List MV} {n : Nat} {v : MV} (hl : l.length ≤ 1000) (hn : n < l.length) : f_changed [.tup l, .int n, v] μ = .ok (.tup (l.set n v)) μ := by
  rw [changed_eq hl]
  have := setL_eq hn v
  unfold setL at this
  rw [this]

theorem moved_send (hW : WebAt μ k rs W) (ok : WebOk W) (so : SOk W.length s) {h : Nat} (hh : h < W.length) (hc : canB W s h (Str.ofString "send") = true) :
    f_moved [.lst k, s.mv, .tup [.int h, .str (Str.ofString "send")]] μ = .ok (movedP W s h (Str.ofString "send")).mv μ := by
  have hcan := can_eq (x := Str.ofString "send") hW ok so hh (by decide +kernel)
  rw [hc] at hcan
  have n3 := ok.three
  have hl := line_idx (μ := μ) so hh n3
  have hls := line_small so hh
  have hlt : h < s.lines.length := by rw [so.lines]; exact hh
  cases hline : s.lines[h]?.getD [] with
  | nil => rw [canB, hline] at hc; simp at hc
  | cons p r =>
    have hp4 : p.1 < 4 := by
      have hm : s.lines[h]?.getD [] ∈ s.lines := by simp [hlt]
      exact (so.pairs _ hm).2 p (by rw [hline]; exact List.mem_cons_self)
    rw [hline] at hl hls
    have hcut : cutFrom (lineMv (p :: r)) (.int 1) μ = .ok (lineMv r) μ := by
      unfold lineMv
      exact (cutFrom_tup (n := 1) (by simp at hls; unfold sizeLine; simp; omega)).trans (by simp)
    have c1 : f_changed [.tup (s.lines.map lineMv), .int h, lineMv r] μ = .ok (.tup ((s.lines.set h r).map lineMv)) μ := by
      rw [ch_tup (by simp [so.lines]; omega) (by simpa using hlt), ← List.map_set]
    have c2 : f_changed [.tup (s.boxes.map .int), .int p.1, .int p.2] μ = .ok (.tup ((s.boxes.set p.1 p.2).map .int)) μ := by
      rw [ch_tup (by simp [so.boxes]) (by simp [so.boxes]; exact hp4), ← List.map_set]
    have hi : idxM (lineMv (p :: r)) (.int 0) μ = .ok (pairMv p) μ := by simp [lineMv]
    have p0 : idxM (pairMv p) (.int 0) μ = .ok (.int p.1) μ := by simp [pairMv]
    have p1 : idxM (pairMv p) (.int 1) μ = .ok (.int p.2) μ := by simp [pairMv]
    rw [f_moved, ev_def (k := 3) rfl]
    have hcan' := hcan
    unfold S.mv at hcan'
    simp [d_moved, ev_var, S.mv, hcan', hl, hi, hcut, c1, c2, p0, p1, movedP, hline]
end
end Mine.Com

set_option linter.unusedVariables false
set_option linter.unusedSimpArgs false
namespace Mine.Com
open PySem Mine

section
variable {μ : MH} {ρ : Rho} {k : Nat} {rs : List Nat} {W : List (List St)} {s : S}

theorem can_step (hc : canB W s h (Str.ofString "step") = true) (hh : h < W.length) : s.done[h]?.getD 0 < W[h].length := by
  unfold canB at hc
  rw [show (Str.ofString "step" == Str.ofString "send") = false from by decide +kernel, show (Str.ofString "step" != Str.ofString "step") = false from by simp] at hc
  have : W[h]?.getD [] = W[h] := by simp [hh]
  rw [this] at hc
  by_cases hd : W[h].length ≤ s.done[h]?.getD 0
  · simp [hd] at hc
  · omega

theorem moved_step (hW : WebAt μ k rs W) (ok : WebOk W) (so : SOk W.length s) {h : Nat} (hh : h < W.length) (hc : canB W s h (Str.ofString "step") = true) :
    f_moved [.lst k, s.mv, .tup [.int h, .str (Str.ofString "step")]] μ = .ok (movedP W s h (Str.ofString "step")).mv μ := by
  have hcan := can_eq (x := Str.ofString "step") hW ok so hh (by decide +kernel)
  rw [hc] at hcan
  unfold S.mv at hcan
  have hdlt := can_step hc hh
  have n3 := ok.three
  obtain ⟨r, e1, hr, hat⟩ := web_row hW ok hh
  have hd := done_idx (μ := μ) so hh n3
  have hl := line_idx (μ := μ) so hh n3
  have hg := got_idx (μ := μ) so hh n3
  have hls := line_small so hh
  have hgs := got_small so hh
  have hrow := ok.small _ (List.getElem_mem hh)
  have hri := row_idx (n := s.done[h]?.getD 0) hat (List.getElem?_eq_getElem hdlt) hrow
  have hlt : h < s.lines.length := by rw [so.lines]; exact hh
  have hltd : h < s.done.length := by rw [so.done]; exact hh
  have hltg : h < s.got.length := by rw [so.got]; exact hh
  have hW' : W[h]?.getD [] = W[h] := by simp [hh]
  have sok := ok.ok _ (List.getElem_mem hh) _ (List.getElem_mem hdlt)
  have hss : (Str.ofString "step" == Str.ofString "send") = false := by decide +kernel
  have cd : f_changed [.tup (s.done.map intMv), .int h, .int ((s.done[h]?.getD 0 : Nat) + 1)] μ = .ok (.tup ((s.done.set h (s.done[h]?.getD 0 + 1)).map intMv)) μ := by
    rw [ch_tup (by simp [so.done]; omega) (by simpa using hltd), List.map_set]; rfl
  have hst : (W[h]?.getD [])[s.done[h]?.getD 0]? = some W[h][s.done[h]?.getD 0] := by rw [hW']; exact List.getElem?_eq_getElem hdlt
  rw [f_moved, ev_def (k := 3) rfl, movedP, hss, hst]
  cases hst2 : W[h][s.done[h]?.getD 0] with
  | put b v =>
    rw [hst2] at hri sok
    have ad : addM (lineMv (s.lines[h]?.getD [])) (.tup [.tup [.int b, .int v]]) μ = .ok (lineMv (s.lines[h]?.getD [] ++ [(b, v)])) μ := by
      unfold lineMv
      rw [add_tup (by simp; unfold sizeLine; omega)]; simp [pairMv]
    have cl : f_changed [.tup (s.lines.map lineMv), .int h, lineMv (s.lines[h]?.getD [] ++ [(b, v)])] μ = .ok (.tup ((s.lines.set h (s.lines[h]?.getD [] ++ [(b, v)])).map lineMv)) μ := by
      rw [ch_tup (by simp [so.lines]; omega) (by simpa using hlt), ← List.map_set]
    have k1 : idxM (St.put b v).mv (.int 1) μ = .ok (.int b) μ := by simp [St.mv]
    have k2 : idxM (St.put b v).mv (.int 2) μ = .ok (.int v) μ := by simp [St.mv]
    simp [d_moved, ev_var, S.mv, hcan, e1, hd, hri, St.isPut, hl, k1, k2, ad, cl, cd]
  | get b =>
    rw [hst2] at hri sok
    have sb : b < 4 := sok
    have hsn := seen_eq (μ := μ) (b := b) so n3 hh sb
    unfold S.mv at hsn
    have k1 : idxM (St.get b).mv (.int 1) μ = .ok (.int b) μ := by simp [St.mv]
    have ad : addM (gotMv (s.got[h]?.getD [])) (.tup [.int (seenP s h b)]) μ = .ok (gotMv (s.got[h]?.getD [] ++ [seenP s h b])) μ := by
      unfold gotMv
      rw [add_tup (by simp; unfold sizeLine; omega)]; simp
    have cg : f_changed [.tup (s.got.map gotMv), .int h, gotMv (s.got[h]?.getD [] ++ [seenP s h b])] μ = .ok (.tup ((s.got.set h (s.got[h]?.getD [] ++ [seenP s h b])).map gotMv)) μ := by
      rw [ch_tup (by simp [so.got]; omega) (by simpa using hltg), ← List.map_set]
    simp [d_moved, ev_var, S.mv, hcan, e1, hd, hri, St.isPut, St.isGet, hg, k1, hsn, ad, cg, cd]
  | fence =>
    rw [hst2] at hri
    simp [d_moved, ev_var, S.mv, hcan, e1, hd, hri, St.isPut, St.isGet, cd]

/-- all is done and sent -/
noncomputable def overB (W : List (List St)) (s : S) : Bool := (List.range W.length).all fun h => decide ((W[h]?.getD []).length ≤ s.done[h]?.getD 0) && decide ((s.lines[h]?.getD []).length = 0)
theorem over_eq (hW : WebAt μ k rs W) (ok : WebOk W) (so : SOk W.length s) : f_is_over [.lst k, s.mv] μ = .ok (.bool (overB W s)) μ := by
  have n3 := ok.three
  rw [f_is_over, ev_def (k := 2) rfl]
  simp [d_is_over, ev_var, enumK_lst hW.top]
  refine loop_rule_ret (P := fun o => defK (seqK o _) = _) (fun i ρ μ' => μ = μ' ∧ ρ 1 = some s.mv ∧ (∀ h, h < i → ((W[h]?.getD []).length ≤ s.done[h]?.getD 0 ∧ (s.lines[h]?.getD []).length = 0))) (fun i ρ μ' h => by rw [← h.1]; exact hW.top) ⟨rfl, by simp, fun h hh => by first | assumption | exact Nat.zero_le _ | exact lt_big (by assumption) (by assumption) | decide | omega⟩ ?_ ?_
  · rintro i v ρ μ' hv ⟨rfl, h1, hall⟩
    obtain ⟨y, hy, rfl⟩ := enumL_get hv
    obtain ⟨r, hr, rfl⟩ := map_get hy
    have hi : i < W.length := by rw [← hW.len]; exact (List.getElem?_eq_some_iff.mp hr).1
    have hat := hW.row i r _ hr (List.getElem?_eq_getElem hi)
    have hrl := row_len hat (ok.small _ (List.getElem_mem hi))
    have hd := done_idx (μ := μ) so hi n3
    have hl := line_idx (μ := μ) so hi n3
    have hll := line_len (μ := μ) (line_small so hi)
    have hW' : W[i]?.getD [] = W[i] := by simp [hi]
    by_cases c1 : s.done[i]?.getD 0 < W[i].length
    · have hov : overB W s = false := by
        unfold overB
        rw [List.all_eq_false]
        exact ⟨i, by simpa using hi, by rw [hW']; simp; omega⟩
      simp [putEnum_pair, ev_var, h1, S.mv, hd, hrl, c1, hov]
    · by_cases c2 : 0 < (s.lines[i]?.getD []).length
      · have hov : overB W s = false := by
          unfold overB
          rw [List.all_eq_false]
          exact ⟨i, by simpa using hi, by rw [hW']; simp; intro _ h; rw [h] at c2; simp at c2⟩
        simp [putEnum_pair, ev_var, h1, S.mv, hd, hrl, c1, hl, hll, c2, hov]
      · have c3 : s.lines[i]?.getD [] = [] := by
          cases hq : s.lines[i]?.getD [] with
          | nil => rfl
          | cons a b => rw [hq] at c2; simp at c2
        rw [c3] at hl hll
        simp [putEnum_pair, ev_var, h1, S.mv, hd, hrl, c1, hl, hll]
        intro h hh
        by_cases he : h = i
        · subst he; rw [hW']; exact ⟨by first | assumption | exact Nat.zero_le _ | exact lt_big (by assumption) (by assumption) | decide | omega, c3⟩
        · have := hall h (by first | assumption | exact Nat.zero_le _ | exact lt_big (by assumption) (by assumption) | decide | omega)
          simpa using this
  · rintro ρ μ' ⟨rfl, h1, hall⟩
    have hn : (enumL (rs.map MV.lst)).length = W.length := by simp [enumL, hW.len]
    rw [hn] at hall
    have hov : overB W s = true := by
      unfold overB
      rw [List.all_eq_true]
      intro h hh
      have := hall h (by simpa using hh)
      simp [this.1]; simpa using this.2
    simp [hov]
end
end Mine.Com

set_option linter.unusedVariables false
set_option linter.unusedSimpArgs false
namespace Mine
open PySem

/-! comprehensions -/
section
variable {G : MH → Prop} {put : Rho → MV → Rho} {c e : D} {k : Nat} {ρ : Rho}
theorem comp_nil {μ : MH} (h : G μ) : compM G put c e k [] ρ μ = .ok (.lst k) μ := if_pos h
theorem comp_yes {v x : MV} {vs xs : List MV} {μ μ₁ μ₂ : MH} (h : G μ) (e1 : c (put ρ v) μ = .ok (.bool true) μ₁) (e2 : e (put ρ v) μ₁ = .ok x μ₂) (hk : μ₂[k]? = some xs) (hl : xs.length ≤ 1000) :
    compM G put c e k (v :: vs) ρ μ = compM G put c e k vs ρ (μ₂.set k (xs ++ [x])) := by
  have hl' : xs.length ≤ sizeLine := by unfold sizeLine; omega
  rw [compM_cons, if_pos h, e1]
  simp only [Out.bind_ok, e2, hk]
  rw [if_pos hl']
theorem comp_no {v : MV} {vs : List MV} {μ μ₁ : MH} (h : G μ) (e1 : c (put ρ v) μ = .ok (.bool false) μ₁) : compM G put c e k (v :: vs) ρ μ = compM G put c e k vs ρ μ₁ := by
  rw [compM_cons, if_pos h, e1]
  simp only [Out.bind_ok]
theorem comp_rule {its : List MV} {P : Out MV → Prop} {μ : MH} (I : Nat → List MV → MH → Prop) (hG : ∀ i acc μ, I i acc μ → G μ) (hk : ∀ i acc μ, I i acc μ → acc.length ≤ 1000) (h0 : I 0 [] μ)
    (step : ∀ i v acc μ, its[i]? = some v → I i acc μ → (∃ μ₁ x μ₂, c (put ρ v) μ = .ok (.bool true) μ₁ ∧ e (put ρ v) μ₁ = .ok x μ₂ ∧ μ₂[k]? = some acc ∧ I (i + 1) (acc ++ [x]) (μ₂.set k (acc ++ [x]))) ∨ (∃ μ₁, c (put ρ v) μ = .ok (.bool false) μ₁ ∧ I (i + 1) acc μ₁))
    (fin : ∀ acc μ, I its.length acc μ → P (.ok (.lst k) μ)) : P (compM G put c e k its ρ μ) := by
  suffices ∀ (j : Nat) (acc : List MV) (μ : MH), j ≤ its.length → I j acc μ → P (compM G put c e k (its.drop j) ρ μ) by
    have := this 0 [] μ (Nat.zero_le _) h0
    rwa [List.drop_zero] at this
  intro j
  induction hd : its.length - j generalizing j with
  | zero =>
    intro acc μ hj hI
    have : j = its.length := by first | assumption | exact Nat.zero_le _ | exact lt_big (by assumption) (by assumption) | decide | omega
    subst this
    rw [List.drop_length, comp_nil (hG _ _ _ hI)]
    exact fin acc μ hI
  | succ d ih =>
    intro acc μ hj hI
    have hlt : j < its.length := by first | assumption | exact Nat.zero_le _ | exact lt_big (by assumption) (by assumption) | decide | omega
    rw [List.drop_eq_getElem_cons hlt]
    rcases step j its[j] acc μ (List.getElem?_eq_getElem hlt) hI with ⟨μ₁, x, μ₂, e1, e2, h3, hI'⟩ | ⟨μ₁, e1, hI'⟩
    · rw [comp_yes (hG _ _ _ hI) e1 e2 h3 (hk _ _ _ hI)]
      exact ih (j + 1) (by first | assumption | exact Nat.zero_le _ | exact lt_big (by assumption) (by assumption) | decide | omega) _ _ hlt hI'
    · rw [comp_no (hG _ _ _ hI) e1]
      exact ih (j + 1) (by first | assumption | exact Nat.zero_le _ | exact lt_big (by assumption) (by assumption) | decide | omega) _ _ hlt hI'
end

theorem pre_set {α : Type} {a b : List α} {k : Nat} {x : α} (h : a <+: b) (hk : a.length ≤ k) : a <+: b.set k x := by
  obtain ⟨t, rfl⟩ := h
  rw [List.set_append_right _ _ hk]
  exact List.prefix_append ..
theorem get_set_self {α : Type} {l : List α} {k : Nat} {x y : α} (h : l[k]? = some x) : (l.set k y)[k]? = some y := by
  rw [List.getElem?_set_self (List.getElem?_eq_some_iff.mp h).1]
theorem get_set_ne {α : Type} {l : List α} {k j : Nat} {y : α} (h : k ≠ j) : (l.set k y)[j]? = l[j]? := List.getElem?_set_ne h

/-! comparing plain data -/
/-- data with no list in it -/
noncomputable def Flat (v : MV) : Prop := ∃ p, p.canLay0 = true ∧ ∀ μ, toPy μ 7 v = some p
theorem mapM_flat {μ : MH} : ∀ {xs : List MV}, (∀ x ∈ xs, Flat x) → ∃ ps, xs.mapM (toPy μ 7) = some ps ∧ PyData.canLayAll0 ps = true ∧ ps.length = xs.length
  | [], _ => ⟨[], rfl, rfl, rfl⟩
  | x :: xs, h => by
    obtain ⟨p, hp, e⟩ := h x List.mem_cons_self
    obtain ⟨ps, e2, h2, h3⟩ := mapM_flat (μ := μ) (xs := xs) fun y hy => h y (List.mem_cons_of_mem _ hy)
    refine ⟨p :: ps, ?_, by simp [PyData.canLayAll0, hp, h2], by simp [h3]⟩
    simp [List.mapM_cons, e μ, e2]
theorem toPy_lst {μ : MH} {k : Nat} {xs : List MV} {ps : List PyData} (h : μ[k]? = some xs) (e : xs.mapM (toPy μ 7) = some ps) : toPy μ 8 (.lst k) = some (.list ps) := by
  show (match μ[k]? with | some xs => (xs.mapM (toPy μ 7)).map PyData.list | none => none) = _
  rw [h]
  show (xs.mapM (toPy μ 7)).map PyData.list = _
  rw [e]; rfl
theorem ne_nil {μ : MH} {k j : Nat} {xs : List MV} (h : μ[k]? = some xs) (hj : μ[j]? = some []) (hf : ∀ x ∈ xs, Flat x) : neM (.lst k) (.lst j) μ = .ok (.bool (decide (0 < xs.length))) μ := by
  obtain ⟨ps, e1, h1, h2⟩ := mapM_flat (μ := μ) hf
  rw [neM, toPy_lst h e1, toPy_lst (ps := []) hj rfl]
  simp only [PyData.canLay0, h1, PyData.canLayAll0, Bool.and_self, if_true]
  cases ps with
  | nil => simp at h2; simp [PyData.eqv, PyData.eqvAll, ← h2]
  | cons p r => simp at h2; simp [PyData.eqv, PyData.eqvAll]; omega
theorem eq_nil {μ : MH} {k j : Nat} {xs : List MV} (h : μ[k]? = some xs) (hj : μ[j]? = some []) (hf : ∀ x ∈ xs, Flat x) : eqM (.lst k) (.lst j) μ = .ok (.bool (decide (xs.length = 0))) μ := by
  obtain ⟨ps, e1, h1, h2⟩ := mapM_flat (μ := μ) hf
  rw [eqM, toPy_lst h e1, toPy_lst (ps := []) hj rfl]
  simp only [PyData.canLay0, h1, PyData.canLayAll0, Bool.and_self, if_true]
  cases ps with
  | nil => simp at h2; simp [PyData.eqv, PyData.eqvAll, ← h2]
  | cons p r =>
    have : xs ≠ [] := by rintro rfl; simp at h2
    simp [PyData.eqv, PyData.eqvAll, this]
mutual
theorem eqv_refl : ∀ p : PyData, p.canLay0 = true → PyData.eqv p p = true
  | .none, _ => rfl
  | .bool b, _ => by simp [PyData.eqv]
  | .int i, _ => by simp [PyData.eqv]
  | .str x, _ => by simp [PyData.eqv]
  | .list xs, h => by
    rw [PyData.canLay0] at h
    rw [PyData.eqv]; exact eqvAll_refl xs h
  | .tuple xs, h => by
    rw [PyData.canLay0] at h
    rw [PyData.eqv]; exact eqvAll_refl xs h
  | .dict _, h => by simp [PyData.canLay0] at h
theorem eqvAll_refl : ∀ ps : List PyData, PyData.canLayAll0 ps = true → PyData.eqvAll ps ps = true
  | [], _ => rfl
  | p :: r, h => by
    rw [PyData.canLayAll0, Bool.and_eq_true] at h
    rw [PyData.eqvAll, eqv_refl p h.1, eqvAll_refl r h.2]; rfl
end
end Mine

namespace Mine.Com
open PySem Mine
theorem flat_pair (p : Nat × Int) : Flat (pairMv p) := ⟨.tuple [.int p.1, .int p.2], by simp [PyData.canLay0, PyData.canLayAll0], fun μ => rfl⟩
noncomputable def moveMv (m : Nat × Str) : MV := .tup [.int m.1, .str m.2]
theorem flat_move {m : Nat × Str} (h : PyData.strOk m.2 = true) : Flat (moveMv m) := ⟨.tuple [.int m.1, .str m.2], by simp [PyData.canLay0, PyData.canLayAll0, h], fun μ => rfl⟩
end Mine.Com

set_option linter.unusedVariables false
set_option linter.unusedSimpArgs false
namespace Mine.Com
open PySem Mine

noncomputable def canN (row : List St) (dn ll : Nat) (x : Str) : Bool :=
  if x == Str.ofString "send" then decide (0 < ll)
  else if x != Str.ofString "step" || decide (row.length ≤ dn) then false
  else match row[dn]? with | some .fence => decide (ll = 0) | _ => true
theorem canB_canN (W : List (List St)) (s : S) (h : Nat) (x : Str) : canB W s h x = canN (W[h]?.getD []) (s.done[h]?.getD 0) (s.lines[h]?.getD []).length x := rfl

/-- the law's own state: the list o, with its first two parts -/
structure OwnAt (μ : MH) (o a b : Nat) (ls : List Nat) (done : List Nat) (lines : List (List MV)) : Prop where
  top : ∃ rest, μ[o]? = some (.lst a :: .lst b :: rest)
  dn : μ[a]? = some (done.map intMv)
  lns : μ[b]? = some (ls.map .lst)
  len : ls.length = lines.length
  line : ∀ (i l : Nat) (xs : List MV), ls[i]? = some l → lines[i]? = some xs → μ[l]? = some xs
  flat : ∀ xs ∈ lines, ∀ x ∈ xs, Flat x
theorem OwnAt.mono {μ μ' : MH} {o a b : Nat} {ls done : List Nat} {lines : List (List MV)} (x : OwnAt μ o a b ls done lines) (h : μ <+: μ') : OwnAt μ' o a b ls done lines :=
  ⟨let ⟨r, e⟩ := x.top; ⟨r, get_pre h e⟩, get_pre h x.dn, get_pre h x.lns, x.len, fun i l xs h1 h2 => get_pre h (x.line i l xs h1 h2), x.flat⟩

section
variable {μ : MH} {ρ : Rho} {k o a b : Nat} {rs ls done : List Nat} {W : List (List St)} {lines : List (List MV)}

@[simp] theorem idx_lst0 {k : Nat} {x : MV} {xs : List MV} (h : μ[k]? = some (x :: xs)) : idxM (.lst k) (.int 0) μ = .ok x μ := idx_lst (n := 0) h rfl (by decide)
@[simp] theorem idx_lst1 {k : Nat} {x y : MV} {xs : List MV} (h : μ[k]? = some (x :: y :: xs)) : idxM (.lst k) (.int 1) μ = .ok y μ := idx_lst (n := 1) h rfl (by decide)
@[simp] theorem idx_lst2 {k : Nat} {x y z : MV} {xs : List MV} (h : μ[k]? = some (x :: y :: z :: xs)) : idxM (.lst k) (.int 2) μ = .ok z μ := idx_lst (n := 2) h rfl (by decide)
@[simp] theorem idx_lst3 {k : Nat} {x y z u : MV} {xs : List MV} (h : μ[k]? = some (x :: y :: z :: u :: xs)) : idxM (.lst k) (.int 3) μ = .ok u μ := idx_lst (n := 3) h rfl (by decide)

theorem cell_at_eq {ns : List Int} {n : Nat} (hl : ns.length ≤ 1000) (hn : n < 10000) : f__law_cell_at [.scr ns, .int n] μ = .ok (.int (ns[n]?.getD 0)) μ := by
  have hlen : lenM [.scr ns] μ = .ok (.int ns.length) μ := by
    exact if_pos (show ns.length < 2 ^ 62 by first | assumption | exact Nat.zero_le _ | exact lt_big (by assumption) (by assumption) | decide | omega)
  rw [f__law_cell_at, ev_def (k := 2) rfl]
  by_cases h : n < ns.length
  · have hi := idx_scr (μ := μ) (List.getElem?_eq_getElem h) (by first | assumption | exact Nat.zero_le _ | exact lt_big (by assumption) (by assumption) | decide | omega)
    have h' : (n : Int) < ns.length := by first | assumption | exact Nat.zero_le _ | exact lt_big (by assumption) (by assumption) | decide | omega
    simp [d__law_cell_at, ev_var, hlen, h, hi]
  · have h' : ¬ (n : Int) < ns.length := by first | assumption | exact Nat.zero_le _ | exact lt_big (by assumption) (by assumption) | decide | omega
    simp [d__law_cell_at, ev_var, hlen, h]

theorem own_done (O : OwnAt μ o a b ls done lines) {h : Nat} (hh : h < done.length) (n3 : h < 1000) : idxM (.lst a) (.int h) μ = .ok (.int (done[h]?.getD 0 : Nat)) μ := idx_lst O.dn (by simp [hh, intMv]) (by first | assumption | exact Nat.zero_le _ | exact lt_big (by assumption) (by assumption) | decide | omega)
theorem own_line (O : OwnAt μ o a b ls done lines) {h : Nat} (hh : h < lines.length) (n3 : h < 1000) : ∃ l, idxM (.lst b) (.int h) μ = .ok (.lst l) μ ∧ ls[h]? = some l ∧ μ[l]? = some lines[h] := by
  have hr : h < ls.length := by rw [O.len]; exact hh
  exact ⟨ls[h], idx_lst O.lns (by simp [hr]) (by first | assumption | exact Nat.zero_le _ | exact lt_big (by assumption) (by assumption) | decide | omega), List.getElem?_eq_getElem hr, O.line h _ _ (List.getElem?_eq_getElem hr) (List.getElem?_eq_getElem hh)⟩

theorem law_can_eq (hW : WebAt μ k rs W) (ok : WebOk W) (O : OwnAt μ o a b ls done lines) (hd : done.length = W.length) (hl : lines.length = W.length) {h : Nat} (hh : h < W.length) (hdn : done[h]?.getD 0 ≤ W[h].length)
    {x : Str} (hx : x = Str.ofString "step" ∨ x = Str.ofString "send") : ∃ μ', f__law_can [.lst k, .lst o, .int h, .str x] μ = .ok (.bool (canN W[h] (done[h]?.getD 0) (lines[h]?.getD []).length x)) μ' ∧ μ <+: μ' := by
  have n3 := ok.three
  obtain ⟨r, e1, hr, hat⟩ := web_row hW ok hh
  have hrow := ok.small _ (List.getElem_mem hh)
  have hrl := row_len hat hrow
  obtain ⟨rest, ht⟩ := O.top
  have i0 := idx_lst0 (μ := μ) ht
  have i1 := idx_lst1 (μ := μ) ht
  have hdi := own_done O (h := h) (by first | assumption | exact Nat.zero_le _ | exact lt_big (by assumption) (by assumption) | decide | omega) (by first | assumption | exact Nat.zero_le _ | exact lt_big (by assumption) (by assumption) | decide | omega)
  obtain ⟨l, e2, hl1, hl2⟩ := own_line O (h := h) (by first | assumption | exact Nat.zero_le _ | exact lt_big (by assumption) (by assumption) | decide | omega) (by first | assumption | exact Nat.zero_le _ | exact lt_big (by assumption) (by assumption) | decide | omega)
  have hlt : h < lines.length := by first | assumption | exact Nat.zero_le _ | exact lt_big (by assumption) (by assumption) | decide | omega
  have hlg : lines[h]?.getD [] = lines[h] := by simp [hlt]
  have hfl := O.flat _ (List.getElem_mem hlt)
  have hpre : μ <+: μ ++ [[]] := pre_app _ _
  have hne := ne_nil (μ := μ ++ [[]]) (get_pre hpre hl2) (get_last []) hfl
  have heq := eq_nil (μ := μ ++ [[]]) (get_pre hpre hl2) (get_last []) hfl
  rw [f__law_can, ev_def (k := 4) rfl, hlg]
  rcases hx with rfl | rfl
  · have hss : (Str.ofString "step" == Str.ofString "send") = false := by decide +kernel
    unfold canN
    rw [hss]
    by_cases hdl : done[h]?.getD 0 = W[h].length
    · have hd' : (((done[h]?.getD 0 : Nat) : Int) == ((W[h].length : Nat) : Int)) = true := by rw [hdl]; simp
      refine ⟨μ, ?_, List.prefix_refl _⟩
      simp [d__law_can, ev_var, i0, hdi, e1, hrl, hd']
      omega
    · have hd' : (((done[h]?.getD 0 : Nat) : Int) == ((W[h].length : Nat) : Int)) = false := by simp; omega
      have hlt2 : done[h]?.getD 0 < W[h].length := by first | assumption | exact Nat.zero_le _ | exact lt_big (by assumption) (by assumption) | decide | omega
      have hri := row_idx (n := done[h]?.getD 0) hat (List.getElem?_eq_getElem hlt2) hrow
      have hle : ¬ W[h].length ≤ done[h]?.getD 0 := by first | assumption | exact Nat.zero_le _ | exact lt_big (by assumption) (by assumption) | decide | omega
      cases hf : W[h][done[h]?.getD 0] with
      | fence =>
        refine ⟨μ ++ [[]], ?_, hpre⟩
        rw [hf] at hri
        simp [d__law_can, ev_var, i0, i1, hdi, e1, hrl, hd', hri, St.isFence, e2, heq, hle, hlt2, hf]
      | put b v =>
        refine ⟨μ, ?_, List.prefix_refl _⟩
        rw [hf] at hri
        simp [d__law_can, ev_var, i0, i1, hdi, e1, hrl, hd', hri, St.isFence, e2, hle, hlt2, hf]
      | get b =>
        refine ⟨μ, ?_, List.prefix_refl _⟩
        rw [hf] at hri
        simp [d__law_can, ev_var, i0, i1, hdi, e1, hrl, hd', hri, St.isFence, e2, hle, hlt2, hf]
  · refine ⟨μ ++ [[]], ?_, hpre⟩
    simp [d__law_can, ev_var, i1, e2, hne, canN]
end
end Mine.Com

set_option linter.unusedVariables false
set_option linter.unusedSimpArgs false
namespace Mine
open PySem

theorem take_filter {α : Type} {l : List α} {i : Nat} {x : α} (h : l[i]? = some x) (p : α → Bool) : (l.take (i + 1)).filter p = (l.take i).filter p ++ if p x then [x] else [] := by
  have hlt := (List.getElem?_eq_some_iff.mp h).1
  have he := (List.getElem?_eq_some_iff.mp h).2
  rw [List.take_succ_eq_append_getElem hlt, he, List.filter_append]
  cases hp : p x <;> simp [hp]

/-- a comprehension whose values hang on no list made on the way -/
theorem comp_filter {α : Type} {G : MH → Prop} {put : Rho → MV → Rho} {c e : D} {ρ : Rho} {μ₀ : MH} (xs : List α) (emb : α → MV) (b : α → Bool) (g : α → MV)
    (hc : ∀ x ∈ xs, ∀ μ, μ₀ <+: μ → ∃ μ', c (put ρ (emb x)) μ = .ok (.bool (b x)) μ' ∧ μ <+: μ') (he : ∀ x ∈ xs, ∀ μ, μ₀ <+: μ → ∃ μ', e (put ρ (emb x)) μ = .ok (g x) μ' ∧ μ <+: μ') (hG : ∀ μ, μ₀ <+: μ → G μ) (hl : xs.length ≤ 1000) :
    ∃ μ', compM G put c e μ₀.length (xs.map emb) ρ (μ₀ ++ [[]]) = .ok (.lst μ₀.length) μ' ∧ μ₀ <+: μ' ∧ μ'[μ₀.length]? = some ((xs.filter b).map g) := by
  refine comp_rule (P := fun o => ∃ μ', o = .ok (.lst μ₀.length) μ' ∧ μ₀ <+: μ' ∧ μ'[μ₀.length]? = some ((xs.filter b).map g)) (fun i acc μ => μ₀ <+: μ ∧ μ[μ₀.length]? = some acc ∧ acc = ((xs.take i).filter b).map g) (fun i acc μ h => hG μ h.1) (fun i acc μ h => ?_) ⟨List.prefix_append .., by simp, by simp⟩ ?_ ?_
  · rw [h.2.2, List.length_map]
    have := List.length_filter_le b (xs.take i)
    have := List.length_take_le i xs
    have := List.length_take (i := i) (l := xs)
    omega
  · rintro i v acc μ hv ⟨h1, h2, rfl⟩
    rw [List.getElem?_map] at hv
    obtain ⟨x, hx, rfl⟩ := Option.map_eq_some_iff.mp hv
    have hm := List.mem_of_getElem? hx
    obtain ⟨μ₁, e1, p1⟩ := hc x hm μ h1
    have htf := take_filter hx b
    cases hb : b x with
    | true =>
      obtain ⟨μ₂, e2, p2⟩ := he x hm μ₁ (h1.trans p1)
      rw [hb] at e1 htf
      have hk := Com.get_pre (p1.trans p2) h2
      refine .inl ⟨μ₁, g x, μ₂, e1, e2, hk, pre_set ((h1.trans p1).trans p2) (Nat.le_refl _), get_set_self hk, ?_⟩
      rw [htf]; simp
    | false =>
      rw [hb] at e1 htf
      refine .inr ⟨μ₁, e1, h1.trans p1, Com.get_pre p1 h2, ?_⟩
      rw [htf]; simp
  · rintro acc μ ⟨h1, h2, rfl⟩
    rw [List.length_map, List.take_length] at h2
    exact ⟨μ, rfl, h1, h2⟩
end Mine

namespace Mine.Com
open PySem Mine
noncomputable def kinds : List Str := [Str.ofString "step", Str.ofString "send"]
noncomputable def movesN (f : Nat → Str → Bool) (n : Nat) : List (Nat × Str) := (List.range n).flatMap fun h => (kinds.filter (f h)).map fun x => (h, x)
theorem movesN_succ (f : Nat → Str → Bool) (n : Nat) : movesN f (n + 1) = movesN f n ++ (kinds.filter (f n)).map fun x => (n, x) := by
  simp [movesN, List.range_succ]
theorem movesN_len (f : Nat → Str → Bool) (n : Nat) : (movesN f n).length ≤ 2 * n := by
  induction n with
  | zero => simp [movesN]
  | succ n ih =>
    rw [movesN_succ, List.length_append, List.length_map]
    have := List.length_filter_le (f n) kinds
    simp [kinds] at this
    simp only [kinds]
    omega
theorem mem_movesN {f : Nat → Str → Bool} {n : Nat} {m : Nat × Str} : m ∈ movesN f n ↔ m.1 < n ∧ m.2 ∈ kinds ∧ f m.1 m.2 = true := by
  obtain ⟨h, x⟩ := m
  simp only [movesN, List.mem_flatMap, List.mem_range, List.mem_map, List.mem_filter, Prod.mk.injEq]
  constructor
  · rintro ⟨a, ha, y, ⟨h1, h2⟩, rfl, rfl⟩; exact ⟨ha, h1, h2⟩
  · rintro ⟨ha, h1, h2⟩; exact ⟨h, ha, x, ⟨h1, h2⟩, rfl, rfl⟩
theorem kinds_ok {x : Str} (h : x ∈ kinds) : PyData.strOk x = true := by
  simp [kinds] at h
  rcases h with h | h <;> (rw [h]; decide +kernel)

section
variable {μ : MH} {ρ : Rho} {k o a b : Nat} {rs ls done : List Nat} {W : List (List St)} {lines : List (List MV)}
theorem range0 (n : Nat) : rangeL 0 (n : Int) = (List.range n).map intMv := by
  unfold rangeL intMv
  simp

theorem law_moves_eq (hW : WebAt μ k rs W) (ok : WebOk W) (O : OwnAt μ o a b ls done lines) (hd : done.length = W.length) (hl : lines.length = W.length) (hdn : ∀ h, h < W.length → done[h]?.getD 0 ≤ (W[h]?.getD []).length) :
    ∃ μ' j, f__law_moves [.lst k, .lst o] μ = .ok (.lst j) μ' ∧ μ <+: μ' ∧ μ'[j]? = some ((movesN (fun h x => canN (W[h]?.getD []) (done[h]?.getD 0) (lines[h]?.getD []).length x) W.length).map moveMv) := by
  have n3 := ok.three
  have hlen := web_len (hW.mono (pre_app μ [[]])) ok
  rw [f__law_moves, ev_def (k := 2) rfl]
  suffices h : Gives (defK (d__law_moves (fun i => [MV.lst k, MV.lst o][i]?) μ)) (fun v μ' => ∃ j, v = .lst j ∧ μ <+: μ' ∧ μ'[j]? = some ((movesN (fun h x => canN (W[h]?.getD []) (done[h]?.getD 0) (lines[h]?.getD []).length x) W.length).map moveMv)) by
    obtain ⟨v, μ', e, j, rfl, h⟩ := h
    exact ⟨μ', j, e, h⟩
  simp [d__law_moves, ev_var, hlen]
  rw [rngK_ok (by first | assumption | exact Nat.zero_le _ | exact lt_big (by assumption) (by assumption) | decide | omega)]
  simp only [forK_ok, range0]
  refine loop_rule (P := fun o => Gives (defK (seqK o _)) _) (fun i ρ μ' => μ <+: μ' ∧ ρ 0 = some (.lst k) ∧ ρ 1 = some (.lst o) ∧ ∃ j, ρ 2 = some (.lst j) ∧ i ≤ W.length ∧
      μ'[j]? = some ((movesN (fun h x => canN (W[h]?.getD []) (done[h]?.getD 0) (lines[h]?.getD []).length x) i).map moveMv)) (fun _ _ _ _ => trivial) ⟨pre_app _ _, by simp, by simp, μ.length, by simp, by first | assumption | exact Nat.zero_le _ | exact lt_big (by assumption) (by assumption) | decide | omega, by simp [movesN]⟩ ?_ ?_
  · rintro i v ρ μ' hv ⟨hp, h0, h1, j, h2, hi, hj⟩
    obtain ⟨y, hy, rfl⟩ := map_get hv
    obtain ⟨hlt, rfl⟩ : i < W.length ∧ y = i := by
      rw [List.getElem?_eq_some_iff] at hy
      obtain ⟨q, e⟩ := hy
      simp at q e; exact ⟨q, e.symm⟩
    have hWi : W[y]?.getD [] = W[y] := by simp [hlt]
    have cf := comp_filter (μ₀ := μ') (ρ := ρ.set 3 (.int y)) (put := putAt 4) (G := fun _ => True) (c := dCall f__law_can (dCons (dVar 0) (dCons (dVar 1) (dCons (dVar 3) (dCons (dVar 4) dNil))))) (e := dTup (dCons (dVar 3) (dCons (dVar 4) dNil)))
      kinds .str (fun x => canN (W[y]?.getD []) (done[y]?.getD 0) (lines[y]?.getD []).length x) (fun x => moveMv (y, x))
      (fun x hx μ₂ p2 => by
        obtain ⟨μ₃, e3, p3⟩ := law_can_eq (hW.mono (hp.trans p2)) ok (O.mono (hp.trans p2)) hd hl hlt (hWi ▸ hdn y hlt) (x := x) (by simpa [kinds] using hx)
        refine ⟨μ₃, ?_, p3⟩
        rw [hWi, ← e3]
        simp [putAt, ev_var, h0, h1])
      (fun x hx μ₂ p2 => ⟨μ₂, by simp [putAt, ev_var, moveMv], List.prefix_refl _⟩) (fun _ _ => trivial) (by simp [kinds])
    obtain ⟨μ₄, e4, p4, h4⟩ := cf
    have e4' : compM (fun _ => True) (putAt 4) (dCall f__law_can (dCons (dVar 0) (dCons (dVar 1) (dCons (dVar 3) (dCons (dVar 4) dNil))))) (dTup (dCons (dVar 3) (dCons (dVar 4) dNil))) (List.length μ') [.str (Str.ofString "step"), .str (Str.ofString "send")] (ρ.set 3 (.int y)) (μ' ++ [[]]) = .ok (.lst (List.length μ')) μ₄ := e4
    have hj4 := get_pre p4 hj
    have hadd := add_lst hj4 h4 (by
      have := movesN_len (fun h x => canN (W[h]?.getD []) (done[h]?.getD 0) (lines[h]?.getD []).length x) y
      have := List.length_filter_le (fun x => canN (W[y]?.getD []) (done[y]?.getD 0) (lines[y]?.getD []).length x) kinds
      simp [kinds] at this
      simp only [List.length_map, kinds]; unfold sizeLine; omega)
    simp only [putAt, intMv, ev_seq, ev_assign, ev_bin, ev_var (show (ρ.set 3 (MV.int y)) 2 = some (.lst j) from by simp [h2]), binK_ok, ev_comp, ev_seqI, ev_tup, ev_cons, ev_const, consK_ok, ev_nil, consK2_ok, tupK_ok, itK_tup, compK_ok, e4', binK2_ok, hadd, asgK_ok, seqK_next, ev_skip, nextTo_ok]
    refine ⟨hp.trans (p4.trans (pre_app _ _)), by simp [h0], by simp [h1], μ₄.length, by simp, by first | assumption | exact Nat.zero_le _ | exact lt_big (by assumption) (by assumption) | decide | omega, ?_⟩
    rw [get_last, movesN_succ]
    simp
  · rintro ρ μ' ⟨hp, h0, h1, j, h2, hi, hj⟩
    rw [List.length_map, List.length_range] at hj
    simp [ev_var h2]
    exact ⟨hp, by simpa using hj⟩
end
end Mine.Com

set_option linter.unusedVariables false
set_option linter.unusedSimpArgs false
namespace Mine.Com
open PySem Mine

/-- n new lists, in a list of their own -/
theorem comp_new {G : MH → Prop} {ρ : Rho} {i : Nat} {μ₀ : MH} {its : List MV} (hG : ∀ μ, μ₀ <+: μ → G μ) (hl : its.length ≤ 1000) :
    compM G (putAt i) (dConst (.bool true)) (dList dNil) μ₀.length its ρ (μ₀ ++ [[]]) = .ok (.lst μ₀.length) (μ₀ ++ [((List.range its.length).map fun j => MV.lst (μ₀.length + 1 + j))] ++ List.replicate its.length []) := by
  refine comp_rule (P := fun o => o = _) (fun j acc μ => j ≤ its.length ∧ acc = (List.range j).map (fun j => MV.lst (μ₀.length + 1 + j)) ∧ μ = μ₀ ++ [(List.range j).map fun j => MV.lst (μ₀.length + 1 + j)] ++ List.replicate j []) (fun j acc μ h => ?_) (fun j acc μ h => ?_) ⟨by first | assumption | exact Nat.zero_le _ | exact lt_big (by assumption) (by assumption) | decide | omega, by simp, by simp⟩ ?_ ?_
  · rw [h.2.2, List.append_assoc]; exact hG _ (pre_app _ _)
  · rw [h.2.1]; simp; omega
  · rintro j v acc μ hv ⟨h1, rfl, rfl⟩
    have hlt := (List.getElem?_eq_some_iff.mp hv).1
    refine .inl ⟨_, .lst (μ₀.length + 1 + j), μ₀ ++ [(List.range j).map fun j => MV.lst (μ₀.length + 1 + j)] ++ List.replicate j [] ++ [[]], rfl, ?_, ?_, by first | assumption | exact Nat.zero_le _ | exact lt_big (by assumption) (by assumption) | decide | omega, ?_, ?_⟩
    · simp only [ev_list, ev_nil, listK_ok]
      congr 2
      simp; omega
    · simp
    · simp [List.range_succ]
    · simp [List.range_succ, List.set_append_right, List.replicate_succ']
  · rintro acc μ ⟨h1, rfl, rfl⟩
    rfl

/-- the ids of a web's rows, made one behind another -/
noncomputable def ids (K n : Nat) : List Nat := (List.range n).map fun j => K + 1 + j
theorem ids_get {K n i : Nat} (h : i < n) : (ids K n)[i]? = some (K + 1 + i) := by simp [ids, h]
theorem ids_len (K n : Nat) : (ids K n).length = n := by simp [ids]
theorem ids_inv {K n i r : Nat} (h : (ids K n)[i]? = some r) : i < n ∧ r = K + 1 + i := by
  have := (List.getElem?_eq_some_iff.mp h).1
  rw [ids_len] at this
  rw [ids_get this] at h
  exact ⟨this, (Option.some.inj h).symm⟩

theorem web_new (μ₀ : MH) (n : Nat) : WebAt (μ₀ ++ [((List.range n).map fun j => MV.lst (μ₀.length + 1 + j))] ++ List.replicate n []) μ₀.length (ids μ₀.length n) (List.replicate n []) := by
  refine ⟨?_, by simp [ids_len], fun i r row h1 h2 => ?_⟩
  · rw [List.append_assoc, List.getElem?_append_right (Nat.le_refl _)]
    simp [ids]
  · obtain ⟨hi, rfl⟩ := ids_inv h1
    have h2' : row = [] := by
      rw [List.getElem?_replicate, if_pos hi] at h2; exact (Option.some.inj h2).symm
    subst h2'
    rw [List.append_assoc, List.getElem?_append_right (by first | assumption | exact Nat.zero_le _ | exact lt_big (by assumption) (by assumption) | decide | omega)]
    have : μ₀.length + 1 + i - μ₀.length = i + 1 := by first | assumption | exact Nat.zero_le _ | exact lt_big (by assumption) (by assumption) | decide | omega
    rw [this]
    simp [hi]

noncomputable def total (W : List (List St)) : Nat := (W.map List.length).sum
theorem total_set {W : List (List St)} {h : Nat} {row : List St} {st : St} (hh : W[h]? = some row) : total (W.set h (row ++ [st])) = total W + 1 := by
  induction W generalizing h with
  | nil => simp at hh
  | cons r W ih =>
    cases h with
    | zero => simp at hh; subst hh; simp [total]; omega
    | succ h => simp at hh; have := ih hh; simp [total] at this ⊢; omega
theorem deeds_le (row : List St) : deeds row ≤ row.length := List.length_filter_le _ _
theorem sum_deeds_le : ∀ W : List (List St), (W.map deeds).sum ≤ total W
  | [] => by simp [total]
  | r :: W => by
    have := sum_deeds_le W
    have := deeds_le r
    simp [total] at *; omega
theorem row_le_total : ∀ {W : List (List St)} {row : List St}, row ∈ W → row.length ≤ total W
  | r :: W, row, h => by
    rcases List.mem_cons.mp h with rfl | h
    · simp [total]
    · have := row_le_total h; simp [total] at *; omega
theorem webOk_of {W : List (List St)} (h1 : 1 ≤ W.length) (h3 : W.length ≤ 3) (h8 : total W ≤ 8) (ok : ∀ row ∈ W, ∀ s ∈ row, s.ok) : WebOk W :=
  ⟨h1, h3, ok, fun row hr => by have := row_le_total hr; omega, by have := sum_deeds_le W; omega⟩
theorem mem_set_append {W : List (List St)} {h : Nat} {row : List St} {st : St} (ok : ∀ row ∈ W, ∀ s ∈ row, s.ok) (hh : W[h]? = some row) (hs : st.ok) : ∀ r ∈ W.set h (row ++ [st]), ∀ s ∈ r, s.ok := by
  intro r hr s hsr
  rcases List.mem_or_eq_of_mem_set hr with hr | rfl
  · exact ok r hr s hsr
  · rcases List.mem_append.mp hsr with q | q
    · exact ok row (List.mem_of_getElem? hh) s q
    · simp at q; subst q; exact hs

theorem fmod_nn (a : Int) {b : Int} (h : 0 < b) : 0 ≤ a.fmod b ∧ a.fmod b < b := ⟨Int.fmod_nonneg_of_pos a h, Int.fmod_lt_of_pos a h⟩
end Mine.Com

set_option linter.unusedVariables false
set_option linter.unusedSimpArgs false
namespace Mine.Com
open PySem Mine

section
variable {μ : MH} {ρ : Rho}
theorem mul3 {n : Nat} (h : n ≤ 100) : mulM (.int 3) (.int n) μ = .ok (.int (3 * n)) μ := by
  exact if_pos (IntMulOk.of_left (by decide +kernel))

end
end Mine.Com

set_option linter.unusedVariables false
set_option linter.unusedSimpArgs false
namespace Mine.Com
open PySem Mine

/-! the machine, in numbers: steps done, and how many puts wait -/
structure Ab where
  done : List Nat
  ll : List Nat
noncomputable def canA (W : List (List St)) (A : Ab) (h : Nat) (x : Str) : Bool := canN (W[h]?.getD []) (A.done[h]?.getD 0) (A.ll[h]?.getD 0) x
noncomputable def nextSt (W : List (List St)) (A : Ab) (h : Nat) : Option St := (W[h]?.getD [])[A.done[h]?.getD 0]?
noncomputable def stepA (W : List (List St)) (A : Ab) (h : Nat) (x : Str) : Ab :=
  if x == Str.ofString "send" then ⟨A.done, A.ll.set h (A.ll[h]?.getD 0 - 1)⟩
  else ⟨A.done.set h (A.done[h]?.getD 0 + 1), if (match nextSt W A h with | some s => s.isPut | none => false) then A.ll.set h (A.ll[h]?.getD 0 + 1) else A.ll⟩
noncomputable def overA (W : List (List St)) (A : Ab) : Bool := (List.range W.length).all fun h => decide ((W[h]?.getD []).length ≤ A.done[h]?.getD 0) && decide (A.ll[h]?.getD 0 = 0)
noncomputable def S.ab (s : S) : Ab := ⟨s.done, s.lines.map List.length⟩
theorem ab_ll (s : S) (h : Nat) : s.ab.ll[h]?.getD 0 = (s.lines[h]?.getD []).length := by
  simp only [S.ab, List.getElem?_map]
  cases s.lines[h]? <;> rfl
theorem can_ab (W : List (List St)) (s : S) (h : Nat) (x : Str) : canB W s h x = canA W s.ab h x := by rw [canB_canN, canA, ab_ll]; rfl
theorem over_ab (W : List (List St)) (s : S) : overB W s = overA W s.ab := by
  unfold overB overA
  congr 1
  funext h
  rw [ab_ll]; rfl
theorem moved_ab {W : List (List St)} {s : S} {h : Nat} {x : Str} (hx : x ∈ kinds) (so : SOk W.length s) (hh : h < W.length) (hc : canA W s.ab h x = true) : (movedP W s h x).ab = stepA W s.ab h x := by
  have hl : h < s.lines.length := by rw [so.lines]; exact hh
  simp [kinds] at hx
  rcases hx with rfl | rfl
  · have hss : (Str.ofString "step" == Str.ofString "send") = false := by decide +kernel
    unfold movedP stepA
    rw [hss]
    simp only [Bool.false_eq_true, if_false, nextSt]
    show Ab.mk _ _ = _
    cases hst : (W[h]?.getD [])[s.done[h]?.getD 0]? with
    | none => simp [S.ab, hst]
    | some st => cases st with
      | put b v =>
        simp [S.ab, hst, St.isPut, List.map_set, hl]
      | get b => simp [S.ab, hst, St.isPut]
      | fence => simp [S.ab, hst, St.isPut]
  · unfold movedP stepA
    simp only [beq_self_eq_true, if_true]
    cases hline : s.lines[h]?.getD [] with
    | nil =>
      rw [← can_ab, canB, hline] at hc
      simp at hc
    | cons p r =>
      have h1 : s.ab.ll[h]?.getD 0 = r.length + 1 := by rw [ab_ll, hline]; rfl
      rw [h1]
      simp [S.ab, List.map_set]

theorem set_len_mem {α : Type} {l : List α} {i : Nat} {v x : α} (h : x ∈ l.set i v) : x ∈ l ∨ x = v := List.mem_or_eq_of_mem_set h
theorem moved_ok {W : List (List St)} {s : S} {h : Nat} {x : Str} {c : Nat} (ok : WebOk W) (hx : x ∈ kinds) (so : SOk W.length s) (hh : h < W.length) (hc : canB W s h x = true) (hb1 : (∀ l ∈ s.lines, l.length ≤ c) ∧ (∀ g ∈ s.got, g.length ≤ c) ∧ (∀ d ∈ s.done, d ≤ c)) (c99 : c ≤ 99) :
    SOk W.length (movedP W s h x) ∧ (∀ l ∈ (movedP W s h x).lines, l.length ≤ c + 1) ∧ (∀ g ∈ (movedP W s h x).got, g.length ≤ c + 1) ∧ (∀ d ∈ (movedP W s h x).done, d ≤ c + 1) := by
  obtain ⟨b1, b2, b3⟩ := hb1
  have hld : h < s.done.length := by rw [so.done]; exact hh
  have hll : h < s.lines.length := by rw [so.lines]; exact hh
  have hlg : h < s.got.length := by rw [so.got]; exact hh
  have hdh : s.done[h]?.getD 0 ≤ c := by simp [hld]; exact b3 _ (List.getElem_mem hld)
  have hlh : (s.lines[h]?.getD []).length ≤ c := by simp [hll]; exact b1 _ (List.getElem_mem hll)
  have hgh : (s.got[h]?.getD []).length ≤ c := by simp [hlg]; exact b2 _ (List.getElem_mem hlg)
  have hpr : ∀ p ∈ s.lines[h]?.getD [], p.1 < 4 := by simp [hll]; exact fun a b h => (so.pairs _ (List.getElem_mem hll)).2 (a, b) h
  have l1 : ∀ l ∈ s.lines, l.length ≤ c + 1 := fun l hl => by have := b1 l hl; omega
  have g1 : ∀ l ∈ s.got, l.length ≤ c + 1 := fun l hl => by have := b2 l hl; omega
  have d1 : ∀ l ∈ s.done, l ≤ c + 1 := fun l hl => by have := b3 l hl; omega
  have ds : ∀ d ∈ s.done.set h (s.done[h]?.getD 0 + 1), d ≤ c + 1 := fun d hd => by
    rcases set_len_mem hd with q | q
    · exact d1 d q
    · omega
  simp [kinds] at hx
  rcases hx with rfl | rfl
  · have hss : (Str.ofString "step" == Str.ofString "send") = false := by decide +kernel
    have hlt := can_step hc hh
    have hst : (W[h]?.getD [])[s.done[h]?.getD 0]? = some W[h][s.done[h]?.getD 0] := by simp [hh]
    have sok := ok.ok _ (List.getElem_mem hh) _ (List.getElem_mem hlt)
    unfold movedP
    rw [hss, hst]
    simp only [Bool.false_eq_true, if_false]
    cases hs2 : W[h][s.done[h]?.getD 0] with
    | put b v =>
      rw [hs2] at sok
      have ls : ∀ l ∈ s.lines.set h (s.lines[h]?.getD [] ++ [(b, v)]), l.length ≤ c + 1 ∧ ∀ p ∈ l, p.1 < 4 := fun l hl => by
        rcases set_len_mem hl with q | q
        · exact ⟨l1 l q, (so.pairs l q).2⟩
        · subst q
          refine ⟨by simp; omega, fun p hp => ?_⟩
          rcases List.mem_append.mp hp with q | q
          · exact hpr p q
          · simp at q; subst q; exact sok.1
      exact ⟨⟨by simpa using so.done, by simpa using so.lines, so.boxes, so.got, fun l hl => ⟨by have := (ls l hl).1; omega, (ls l hl).2⟩, so.gots, fun d hd => by have := ds d hd; omega⟩, fun l hl => (ls l hl).1, g1, ds⟩
    | get b =>
      have gs : ∀ l ∈ s.got.set h (s.got[h]?.getD [] ++ [seenP s h b]), l.length ≤ c + 1 := fun l hl => by
        rcases set_len_mem hl with q | q
        · exact g1 l q
        · subst q; simp; omega
      exact ⟨⟨by simpa using so.done, so.lines, so.boxes, by simpa using so.got, so.pairs, fun l hl => by have := gs l hl; omega, fun d hd => by have := ds d hd; omega⟩, l1, gs, ds⟩
    | fence => exact ⟨⟨by simpa using so.done, so.lines, so.boxes, so.got, so.pairs, so.gots, fun d hd => by have := ds d hd; omega⟩, l1, g1, ds⟩
  · unfold movedP
    simp only [beq_self_eq_true, if_true]
    cases hline : s.lines[h]?.getD [] with
    | nil => exact ⟨so, l1, g1, d1⟩
    | cons p r =>
      rw [hline] at hlh hpr
      have ls : ∀ l ∈ s.lines.set h r, l.length ≤ c + 1 ∧ ∀ p ∈ l, p.1 < 4 := fun l hl => by
        rcases set_len_mem hl with q | q
        · exact ⟨l1 l q, (so.pairs l q).2⟩
        · subst q
          simp at hlh
          exact ⟨by first | assumption | exact Nat.zero_le _ | exact lt_big (by assumption) (by assumption) | decide | omega, fun p hp => hpr p (List.mem_cons_of_mem _ hp)⟩
      exact ⟨⟨so.done, by simpa using so.lines, by simpa using so.boxes, so.got, fun l hl => ⟨by have := (ls l hl).1; omega, (ls l hl).2⟩, so.gots, so.small⟩, fun l hl => (ls l hl).1, g1, d1⟩

section
variable {μ : MH}
@[simp] theorem idx_move0 (m : Nat × Str) : idxM (moveMv m) (.int 0) μ = .ok (.int m.1) μ := by simp [moveMv]
@[simp] theorem idx_move1 (m : Nat × Str) : idxM (moveMv m) (.int 1) μ = .ok (.str m.2) μ := by simp [moveMv]
theorem moved_any {k : Nat} {rs : List Nat} {W : List (List St)} {s : S} (hW : WebAt μ k rs W) (ok : WebOk W) (so : SOk W.length s) {h : Nat} (hh : h < W.length) {x : Str} (hx : x ∈ kinds) (hc : canB W s h x = true) :
    f_moved [.lst k, s.mv, moveMv (h, x)] μ = .ok (movedP W s h x).mv μ := by
  simp [kinds] at hx
  rcases hx with rfl | rfl
  · exact moved_step hW ok so hh hc
  · exact moved_send hW ok so hh hc
/-- a thing that can never moves by -/
noncomputable def Refused (n : Nat) (v : MV) : Prop := noMove v = true ∨ (∃ (h : Int) (x : Str), v = .tup [.int h, .str x] ∧ ¬ (0 ≤ h ∧ h < n)) ∨ ∃ (h : Nat) (x : Str), v = .tup [.int h, .str x] ∧ x ∉ kinds ∧ PyData.strOk x = true
theorem can_refused {k : Nat} {rs : List Nat} {W : List (List St)} {s : S} {v : MV} (hW : WebAt μ k rs W) (ok : WebOk W) (so : SOk W.length s) (hv : Refused W.length v) : f_can [.lst k, s.mv, v] μ = .ok (.bool false) μ := by
  rcases hv with hv | ⟨h, x, rfl, hh⟩ | ⟨h, x, rfl, hx, ho⟩
  · exact can_odd hv
  · exact can_out hW ok hh
  · by_cases hh : h < W.length
    · rw [can_eq hW ok so hh ho]
      have h1 : (x == Str.ofString "send") = false := by
        rw [beq_eq_false_iff_ne]; rintro rfl; exact hx (by simp [kinds])
      have h2 : (x != Str.ofString "step") = true := by
        rw [bne_iff_ne]; rintro rfl; exact hx (by simp [kinds])
      simp [canB, h1, h2]
    · exact can_out hW ok (by first | assumption | exact Nat.zero_le _ | exact lt_big (by assumption) (by assumption) | decide | omega)
end
end Mine.Com

set_option linter.unusedVariables false
set_option linter.unusedSimpArgs false
namespace Mine.Com
open PySem Mine

section
variable {μ : MH} {B n o h : Nat} {done done' : List Nat} {lines : List (List MV)} {new : List MV}
end
end Mine.Com

set_option linter.unusedVariables false
set_option linter.unusedSimpArgs false
namespace Mine
open PySem
/-- a while loop with a number that falls -/
theorem while_rule {t : D} {f : DS} {P : Out (Fl × Rho) → Prop} (I : Nat → Rho → MH → Prop)
    (step : ∀ j ρ μ, I j ρ μ → (∃ μ₁, t ρ μ = .ok (.bool false) μ₁ ∧ P (.ok (.next, ρ) μ₁)) ∨ (∃ μ₁, t ρ μ = .ok (.bool true) μ₁ ∧ NextTo (f ρ μ₁) (fun ρ' μ' => ∃ j', j' < j ∧ I j' ρ' μ'))) :
    ∀ (k j : Nat) (ρ : Rho) (μ : MH), j < k → I j ρ μ → P (whileM t f k ρ μ) := by
  intro k
  induction k with
  | zero => intro j ρ μ h; omega
  | succ k ih =>
    intro j ρ μ h hI
    rw [whileM]
    rcases step j ρ μ hI with ⟨μ₁, e, hp⟩ | ⟨μ₁, e, ρ', μ', e', j', hj, hI'⟩
    · rw [e]; exact hp
    · rw [e]
      simp only [Out.bind_ok, e']
      exact ih j' ρ' μ' (by first | assumption | exact Nat.zero_le _ | exact lt_big (by assumption) (by assumption) | decide | omega) hI'
theorem idx_last {μ : MH} {k : Nat} {xs : List MV} {x : MV} (hk : μ[k]? = some (xs ++ [x])) (hl : xs.length ≤ 1000) : idxM (.lst k) (.int (-1)) μ = .ok x μ := by
  have : idxM (.lst k) (.int (-1)) μ = optOut (pick (xs ++ [x]) (-1)) μ := by rw [idxM_lst, hk]
  rw [this]
  unfold pick
  rw [if_neg (by first | assumption | exact Nat.zero_le _ | exact lt_big (by assumption) (by assumption) | decide | omega), if_pos (by simp; omega)]
  have : (-1 + ((xs ++ [x]).length : Int)).toNat = xs.length := by rw [List.length_append]; simp only [List.length_cons, List.length_nil]; omega
  rw [this, List.getElem?_append_right (Nat.le_refl _)]
  simp [optOut]
/-- xs[:a] + [..] + xs[b:] -/
theorem splice {ρ : Rho} {μ : MH} {w a b : Nat} {xs vs : List MV} {fw fa fb : D} {fm : DL} (hw : μ[w]? = some xs) (hxs : xs.length ≤ 1000) (hvs : vs.length ≤ 1000) (h1 : ∀ μ', μ <+: μ' → fw ρ μ' = .ok (.lst w) μ') (h2 : ∀ μ', μ <+: μ' → fa ρ μ' = .ok (.int a) μ') (h3 : ∀ μ', μ <+: μ' → fb ρ μ' = .ok (.int b) μ')
    (h4 : ∀ μ', μ <+: μ' → ∃ μ'', fm ρ μ' = .ok vs μ'' ∧ μ' <+: μ'') : ∃ μ' j, dBin addM (dBin addM (dBin cutTo fw fa) (dList fm)) (dBin cutFrom fw fb) ρ μ = .ok (.lst j) μ' ∧ μ <+: μ' ∧ μ'[j]? = some (xs.take a ++ vs ++ xs.drop b) := by
  have c1 := cutTo_lst (n := a) hw (by unfold sizeLine; omega)
  have p1 := Com.pre_app μ [xs.take a]
  obtain ⟨μ₂, e2, p2⟩ := h4 _ p1
  have p3 : μ <+: μ₂ ++ [vs] := p1.trans (p2.trans (Com.pre_app _ _))
  have g1 : (μ₂ ++ [vs])[μ.length]? = some (xs.take a) := Com.get_pre (p2.trans (Com.pre_app _ _)) (Com.get_last _)
  have l1 := List.length_take (i := a) (l := xs)
  have a1 := add_lst g1 (Com.get_last vs) (by unfold sizeLine; omega)
  have p4 : μ <+: μ₂ ++ [vs] ++ [xs.take a ++ vs] := p3.trans (Com.pre_app _ _)
  have c2 := cutFrom_lst (n := b) (Com.get_pre p4 hw) (by unfold sizeLine; omega)
  have g2 : (μ₂ ++ [vs] ++ [xs.take a ++ vs] ++ [xs.drop b])[(μ₂ ++ [vs]).length]? = some (xs.take a ++ vs) := Com.get_pre (Com.pre_app _ _) (Com.get_last _)
  have l2 := List.length_drop (i := b) (l := xs)
  have a2 := add_lst g2 (Com.get_last (xs.drop b)) (by rw [List.length_append]; unfold sizeLine; omega)
  refine ⟨μ₂ ++ [vs] ++ [xs.take a ++ vs] ++ [xs.drop b] ++ [xs.take a ++ vs ++ xs.drop b], _, ?_, p4.trans ((Com.pre_app _ _).trans (Com.pre_app _ _)), Com.get_last _⟩
  rw [ev_bin, ev_bin, ev_bin, h1 μ (List.prefix_refl _), binK_ok, h2 μ (List.prefix_refl _), binK2_ok, c1, binK_ok, ev_list, e2, listK_ok, binK2_ok, a1, binK_ok, ev_bin, h1 _ p4, binK_ok, h3 _ p4, binK2_ok, c2, binK2_ok, a2]
end Mine
namespace Mine.Com
open PySem Mine

/-! a number that falls with each move -/
noncomputable def meas (W : List (List St)) (A : Ab) : Nat := ((List.range W.length).map fun h => 2 * ((W[h]?.getD []).length - A.done[h]?.getD 0) + A.ll[h]?.getD 0).sum
theorem sum_range_lt {n h : Nat} {f g : Nat → Nat} (hh : h < n) (ho : ∀ i, i ≠ h → f i = g i) (hlt : f h < g h) : ((List.range n).map f).sum < ((List.range n).map g).sum := by
  induction n with
  | zero => omega
  | succ n ih =>
    rw [List.range_succ, List.map_append, List.map_append, List.sum_append, List.sum_append]
    by_cases e : h = n
    · subst e
      have : (List.range h).map f = (List.range h).map g := List.map_congr_left fun i hi => ho i (by have := List.mem_range.mp hi; omega)
      rw [this]; simp; exact hlt
    · have := ih (by first | assumption | exact Nat.zero_le _ | exact lt_big (by assumption) (by assumption) | decide | omega)
      have := ho n (by first | assumption | exact Nat.zero_le _ | exact lt_big (by assumption) (by assumption) | decide | omega)
      simp; omega
theorem canA_step {W : List (List St)} {A : Ab} {h : Nat} (hc : canA W A h (Str.ofString "step") = true) : A.done[h]?.getD 0 < (W[h]?.getD []).length := by
  have hss : (Str.ofString "step" == Str.ofString "send") = false := by decide +kernel
  unfold canA canN at hc
  rw [hss] at hc
  by_cases hd : (W[h]?.getD []).length ≤ A.done[h]?.getD 0
  · simp [hd] at hc
  · omega
theorem canA_send {W : List (List St)} {A : Ab} {h : Nat} : canA W A h (Str.ofString "send") = decide (0 < A.ll[h]?.getD 0) := by
  unfold canA canN
  simp
theorem set_getD {l : List Nat} {h i v : Nat} (hh : h < l.length) : (l.set h v)[i]?.getD 0 = if i = h then v else l[i]?.getD 0 := by
  by_cases e : i = h
  · subst e; simp [hh]
  · rw [get_set_ne (by first | assumption | exact Nat.zero_le _ | exact lt_big (by assumption) (by assumption) | decide | omega), if_neg e]
theorem stepA_done {W : List (List St)} {A : Ab} {h : Nat} {x : Str} (hd : h < A.done.length) (i : Nat) : (stepA W A h x).done[i]?.getD 0 = if x == Str.ofString "send" then A.done[i]?.getD 0 else if i = h then A.done[h]?.getD 0 + 1 else A.done[i]?.getD 0 := by
  unfold stepA
  by_cases hx : (x == Str.ofString "send") = true
  · simp [hx]
  · simp only [hx, if_false]
    exact set_getD hd
theorem stepA_ll {W : List (List St)} {A : Ab} {h : Nat} {x : Str} (hl : h < A.ll.length) (i : Nat) : (stepA W A h x).ll[i]?.getD 0 = if i = h then (if x == Str.ofString "send" then A.ll[h]?.getD 0 - 1 else if (match nextSt W A h with | some s => s.isPut | none => false) then A.ll[h]?.getD 0 + 1 else A.ll[h]?.getD 0) else A.ll[i]?.getD 0 := by
  unfold stepA
  by_cases hx : (x == Str.ofString "send") = true
  · simp only [hx, if_true]
    exact set_getD hl
  · simp only [hx, if_false, Bool.false_eq_true]
    have key : ∀ b : Bool, (if b = true then A.ll.set h (A.ll[h]?.getD 0 + 1) else A.ll)[i]?.getD 0 = if i = h then (if b = true then A.ll[h]?.getD 0 + 1 else A.ll[h]?.getD 0) else A.ll[i]?.getD 0 := fun b => by
      cases b
      · simp only [Bool.false_eq_true, if_false]
        by_cases e : i = h
        · subst e; simp
        · simp [e]
      · simp only [if_true]; exact set_getD hl
    exact key _
theorem meas_step {W : List (List St)} {A : Ab} {h : Nat} {x : Str} (hx : x ∈ kinds) (hh : h < W.length) (hd : A.done.length = W.length) (hl : A.ll.length = W.length) (hc : canA W A h x = true) : meas W (stepA W A h x) < meas W A := by
  unfold meas
  refine sum_range_lt hh (fun i hi => ?_) ?_
  · rw [stepA_done (by first | assumption | exact Nat.zero_le _ | exact lt_big (by assumption) (by assumption) | decide | omega), stepA_ll (by first | assumption | exact Nat.zero_le _ | exact lt_big (by assumption) (by assumption) | decide | omega), if_neg hi, if_neg hi]
    simp
  · rw [stepA_done (by first | assumption | exact Nat.zero_le _ | exact lt_big (by assumption) (by assumption) | decide | omega), stepA_ll (by first | assumption | exact Nat.zero_le _ | exact lt_big (by assumption) (by assumption) | decide | omega), if_pos rfl, if_pos rfl]
    simp [kinds] at hx
    rcases hx with rfl | rfl
    · have hss : (Str.ofString "step" == Str.ofString "send") = false := by decide +kernel
      have := canA_step hc
      simp only [hss, Bool.false_eq_true, if_false]
      have key : ∀ (b : Bool) (l : Nat), 2 * ((W[h]?.getD []).length - (A.done[h]?.getD 0 + 1)) + (if b = true then l + 1 else l) < 2 * ((W[h]?.getD []).length - A.done[h]?.getD 0) + l := fun b l => by
        cases b <;> simp <;> omega
      exact key _ _
    · rw [canA_send] at hc
      simp at hc
      simp; omega
theorem sum_range_total : ∀ (W : List (List St)), ((List.range W.length).map fun h => (W[h]?.getD []).length).sum = total W
  | [] => by simp [total]
  | r :: W => by
    have := sum_range_total W
    rw [List.length_cons, List.range_succ_eq_map]
    simp [total] at this ⊢
    rw [← this]
    congr 1
theorem meas_begun (W : List (List St)) : meas W ⟨List.replicate W.length 0, List.replicate W.length 0⟩ = 2 * total W := by
  rw [← sum_range_total]
  unfold meas
  have : ∀ l : List Nat, (∀ h ∈ l, h < W.length) → (l.map fun h => 2 * ((W[h]?.getD []).length - (List.replicate W.length 0)[h]?.getD 0) + (List.replicate W.length 0)[h]?.getD 0).sum = 2 * (l.map fun h => (W[h]?.getD []).length).sum := by
    intro l
    induction l with
    | nil => simp
    | cons a l ih =>
      intro h
      have h1 := h a List.mem_cons_self
      have := ih fun b hb => h b (List.mem_cons_of_mem _ hb)
      rw [List.map_cons, List.map_cons, List.sum_cons, List.sum_cons, this]
      simp [h1]; omega
  exact this _ fun h hh => List.mem_range.mp hh
theorem stepA_done_le {W : List (List St)} {A : Ab} {h : Nat} {x : Str} (hx : x ∈ kinds) (hh : h < W.length) (hd : A.done.length = W.length) (hc : canA W A h x = true) (hle : ∀ i, i < W.length → A.done[i]?.getD 0 ≤ (W[i]?.getD []).length) : ∀ i, i < W.length → (stepA W A h x).done[i]?.getD 0 ≤ (W[i]?.getD []).length := by
  intro i hi
  rw [stepA_done (by first | assumption | exact Nat.zero_le _ | exact lt_big (by assumption) (by assumption) | decide | omega)]
  have := hle i hi
  simp [kinds] at hx
  rcases hx with rfl | rfl
  · have hss : (Str.ofString "step" == Str.ofString "send") = false := by decide +kernel
    have := canA_step hc
    simp only [hss, Bool.false_eq_true, if_false]
    split
    · rename_i e; subst e; omega
    · omega
  · simpa using this
end Mine.Com

set_option linter.unusedVariables false
set_option linter.unusedSimpArgs false
namespace Mine.Com
open PySem Mine
theorem fmod_nat (a : Int) {b : Nat} (h : 0 < b) : ∃ q : Nat, a.fmod (b : Int) = (q : Int) ∧ q < b := by
  obtain ⟨q0, q1⟩ := fmod_nn a (b := (b : Int)) (by first | assumption | exact Nat.zero_le _ | exact lt_big (by assumption) (by assumption) | decide | omega)
  exact ⟨(a.fmod (b : Int)).toNat, by first | assumption | exact Nat.zero_le _ | exact lt_big (by assumption) (by assumption) | decide | omega, by first | assumption | exact Nat.zero_le _ | exact lt_big (by assumption) (by assumption) | decide | omega⟩
@[simp] theorem ne_bool {μ : MH} (a b : Bool) : neM (.bool a) (.bool b) μ = .ok (.bool (!(a == b))) μ := by
  cases a <;> cases b <;> rfl
theorem ne_same {μ : MH} {k j : Nat} {xs : List MV} (h : μ[k]? = some xs) (hj : μ[j]? = some xs) (hf : ∀ x ∈ xs, Flat x) : neM (.lst k) (.lst j) μ = .ok (.bool false) μ := by
  obtain ⟨ps, e1, h1, h2⟩ := mapM_flat (μ := μ) hf
  rw [neM, toPy_lst h e1, toPy_lst hj e1]
  simp only [PyData.canLay0, h1, Bool.and_self, if_true]
  rw [eqv_refl _ (by rw [PyData.canLay0]; exact h1)]; rfl
/-- [list(row) for row in web] -/
theorem comp_copy {μ₀ : MH} {k i : Nat} {rs : List Nat} {W : List (List St)} {ρ : Rho} (hW : WebAt μ₀ k rs W) (ok : WebOk W) :
    ∃ μ', compM (fun μ => μ[k]? = some (rs.map .lst)) (putAt i) (dConst (.bool true)) (dCall listM (dCons (dVar i) dNil)) μ₀.length (rs.map .lst) ρ (μ₀ ++ [[]]) = .ok (.lst μ₀.length) μ' ∧ μ₀ <+: μ' ∧ WebAt μ' μ₀.length (ids μ₀.length W.length) W := by
  have n3 := ok.three
  refine comp_rule (P := fun o => ∃ μ', o = .ok (.lst μ₀.length) μ' ∧ μ₀ <+: μ' ∧ WebAt μ' μ₀.length (ids μ₀.length W.length) W) (fun j acc μ => j ≤ W.length ∧ acc = (ids μ₀.length j).map .lst ∧ μ = μ₀ ++ [(ids μ₀.length j).map .lst] ++ (W.take j).map (·.map St.mv)) (fun j acc μ h => ?_) (fun j acc μ h => ?_) ⟨by first | assumption | exact Nat.zero_le _ | exact lt_big (by assumption) (by assumption) | decide | omega, by simp [ids], by simp [ids]⟩ ?_ ?_
  · rw [h.2.2, List.append_assoc]; exact get_pre (pre_app _ _) hW.top
  · rw [h.2.1]; simp [ids_len]; omega
  · rintro j v acc μ hv ⟨h1, rfl, rfl⟩
    obtain ⟨r, hr, rfl⟩ := map_get hv
    have hlt : j < W.length := by rw [← hW.len]; exact (List.getElem?_eq_some_iff.mp hr).1
    have hrow : W[j]? = some W[j] := List.getElem?_eq_getElem hlt
    have hat := hW.row j r _ hr hrow
    have hat' : (μ₀ ++ [(ids μ₀.length j).map MV.lst] ++ (W.take j).map (·.map St.mv))[r]? = some (W[j].map St.mv) := by
      rw [List.append_assoc]; exact get_pre (pre_app _ _) hat
    have hsm := ok.small _ (List.getElem_mem hlt)
    have hlen : (μ₀ ++ [(ids μ₀.length j).map MV.lst] ++ (W.take j).map (·.map St.mv)).length = μ₀.length + 1 + j := by simp; omega
    have hl : listM [.lst r] (μ₀ ++ [(ids μ₀.length j).map MV.lst] ++ (W.take j).map (·.map St.mv)) = .ok (.lst (μ₀.length + 1 + j)) (μ₀ ++ [(ids μ₀.length j).map MV.lst] ++ (W.take j).map (·.map St.mv) ++ [W[j].map St.mv]) := by
      rw [listM_lst, hat', ← hlen]
      exact if_pos (by simp; unfold sizeLine; omega)
    have hids : (ids μ₀.length (j + 1)).map MV.lst = (ids μ₀.length j).map MV.lst ++ [.lst (μ₀.length + 1 + j)] := by simp [ids, List.range_succ]
    refine .inl ⟨_, .lst (μ₀.length + 1 + j), _, rfl, (by simp only [putAt, ev_call, ev_cons, ev_var (rho_set_self ..), ev_nil, consK_ok, consK2_ok, Out.bind_ok]; exact hl), by simp, by first | assumption | exact Nat.zero_le _ | exact lt_big (by assumption) (by assumption) | decide | omega, hids.symm, ?_⟩
    rw [hids]
    generalize (ids μ₀.length j).map MV.lst = A
    rw [List.append_assoc, List.append_assoc, List.set_append_right _ _ (Nat.le_refl _), Nat.sub_self, List.append_assoc]
    congr 1
    show _ :: _ = _ :: _
    congr 1
    rw [List.take_succ_eq_append_getElem hlt, List.map_append]; rfl
  · rintro acc μ ⟨h1, rfl, rfl⟩
    rw [List.length_map, hW.len]
    refine ⟨_, rfl, by rw [List.append_assoc]; exact pre_app _ _, ?_, by simp [ids_len], fun i r row h1 h2 => ?_⟩
    · rw [List.append_assoc, List.getElem?_append_right (Nat.le_refl _)]; simp
    · obtain ⟨hi, rfl⟩ := ids_inv h1
      rw [List.append_assoc, List.getElem?_append_right (by first | assumption | exact Nat.zero_le _ | exact lt_big (by assumption) (by assumption) | decide | omega), show μ₀.length + 1 + i - μ₀.length = i + 1 from by first | assumption | exact Nat.zero_le _ | exact lt_big (by assumption) (by assumption) | decide | omega]
      simp [h2]

/-! webs as data -/
noncomputable def St.py : St → PyData
  | .put b v => .tuple [.str (Str.ofString "put"), .int b, .int v]
  | .get b => .tuple [.str (Str.ofString "get"), .int b]
  | .fence => .tuple [.str (Str.ofString "fence")]
theorem toPy_st {μ : MH} {n : Nat} (s : St) : toPy μ (n + 1) s.mv = some s.py := by cases n <;> cases s <;> rfl
theorem py_ok (s : St) : s.py.canLay0 = true := by
  cases s <;> simp [St.py, PyData.canLay0, PyData.canLayAll0] <;> decide +kernel
theorem toPy_row {μ : MH} {n : Nat} : ∀ row : List St, (row.map St.mv).mapM (toPy μ (n + 1)) = some (row.map St.py)
  | [] => rfl
  | s :: row => by
    rw [List.map_cons, List.mapM_cons, toPy_st, toPy_row row]; rfl
theorem row_ok : ∀ row : List St, PyData.canLayAll0 (row.map St.py) = true
  | [] => rfl
  | s :: row => by rw [List.map_cons, PyData.canLayAll0, py_ok, row_ok row]; rfl
noncomputable def rowPy (row : List St) : PyData := .list (row.map St.py)
theorem rows_ok : ∀ W : List (List St), PyData.canLayAll0 (W.map rowPy) = true
  | [] => rfl
  | r :: W => by
    rw [List.map_cons, PyData.canLayAll0, rows_ok W, rowPy, PyData.canLay0, row_ok]; rfl
theorem mapM_get {α β : Type} {f : α → Option β} : ∀ {xs : List α} {ys : List β}, xs.length = ys.length → (∀ (i : Nat) (x : α) (y : β), xs[i]? = some x → ys[i]? = some y → f x = some y) → xs.mapM f = some ys
  | [], [], _, _ => rfl
  | x :: xs, y :: ys, hl, h => by
    have h0 := h 0 x y rfl rfl
    have := mapM_get (xs := xs) (ys := ys) (by simpa using hl) fun i a b ha hb => h (i + 1) a b (by simpa using ha) (by simpa using hb)
    rw [List.mapM_cons, h0, this]; rfl
  | [], _ :: _, hl, _ => by simp at hl
  | _ :: _, [], hl, _ => by simp at hl
theorem toPy_web {μ : MH} {k : Nat} {rs : List Nat} {W : List (List St)} (hW : WebAt μ k rs W) : toPy μ 8 (.lst k) = some (.list (W.map rowPy)) := by
  show (match μ[k]? with | some xs => (xs.mapM (toPy μ 7)).map PyData.list | none => none) = _
  rw [hW.top]
  have : (rs.map MV.lst).mapM (toPy μ 7) = some (W.map rowPy) := mapM_get (by simp [hW.len]) fun i x y hx hy => by
    obtain ⟨r, hr, rfl⟩ := map_get hx
    obtain ⟨row, hrow, rfl⟩ := map_get hy
    show (match μ[r]? with | some xs => (xs.mapM (toPy μ 6)).map PyData.list | none => none) = _
    rw [hW.row i r row hr hrow]
    have := toPy_row (μ := μ) (n := 5) row
    simp only [this, rowPy]; rfl
  simp [this]
theorem ne_web {μ : MH} {k j : Nat} {rs rs' : List Nat} {W : List (List St)} (h : WebAt μ k rs W) (h' : WebAt μ j rs' W) : neM (.lst k) (.lst j) μ = .ok (.bool false) μ := by
  have hok : (PyData.list (W.map rowPy)).canLay0 = true := by rw [PyData.canLay0]; exact rows_ok W
  rw [neM, toPy_web h, toPy_web h']
  simp only [hok, Bool.and_self, if_true]
  rw [eqv_refl _ hok]; rfl
end Mine.Com

set_option linter.unusedVariables false
set_option linter.unusedSimpArgs false
namespace Mine
open PySem
/-- goes on, or raises -/
noncomputable def NextX (o : Out (Fl × Rho)) (Q : Rho → MH → Prop) (R : Str → MH → Prop) : Prop := (∃ ρ' μ', o = .ok (.next, ρ') μ' ∧ Q ρ' μ') ∨ ∃ c μ', o = .exc c μ' ∧ R c μ'
@[simp] theorem nextX_ok {ρ : Rho} {μ : MH} {Q : Rho → MH → Prop} {R : Str → MH → Prop} : NextX (.ok (.next, ρ) μ) Q R ↔ Q ρ μ := ⟨fun h => by rcases h with ⟨_, _, e, h⟩ | ⟨_, _, e, _⟩ <;> cases e; exact h, fun h => .inl ⟨_, _, rfl, h⟩⟩
@[simp] theorem nextX_exc {c : Str} {μ : MH} {Q : Rho → MH → Prop} {R : Str → MH → Prop} : NextX (.exc c μ) Q R ↔ R c μ := ⟨fun h => by rcases h with ⟨_, _, e, _⟩ | ⟨_, _, e, h⟩ <;> cases e; exact h, fun h => .inr ⟨_, _, rfl, h⟩⟩
theorem loop_rule_exc {G : MH → Prop} {put : Rho → MV → Rho} {f : DS} {its : List MV} {P : Out (Fl × Rho) → Prop} {ρ : Rho} {μ : MH} (I : Nat → Rho → MH → Prop) (hG : ∀ i ρ μ, I i ρ μ → G μ) (h0 : I 0 ρ μ)
    (step : ∀ i v ρ μ, its[i]? = some v → I i ρ μ → NextX (f (put ρ v) μ) (I (i + 1)) (fun c μ' => P (.exc c μ')))
    (fin : ∀ ρ' μ', I its.length ρ' μ' → P (.ok (.next, ρ') μ')) : P (loopM G put f its ρ μ) := by
  suffices ∀ (j : Nat) (ρ : Rho) (μ : MH), j ≤ its.length → I j ρ μ → P (loopM G put f (its.drop j) ρ μ) by
    have := this 0 ρ μ (Nat.zero_le _) h0
    rwa [List.drop_zero] at this
  intro j
  induction hd : its.length - j generalizing j with
  | zero =>
    intro ρ μ hj hI
    have : j = its.length := by first | assumption | exact Nat.zero_le _ | exact lt_big (by assumption) (by assumption) | decide | omega
    subst this
    rw [List.drop_length, loop_nil (hG _ _ _ hI)]
    exact fin ρ μ hI
  | succ d ih =>
    intro ρ μ hj hI
    have hlt : j < its.length := by first | assumption | exact Nat.zero_le _ | exact lt_big (by assumption) (by assumption) | decide | omega
    rw [List.drop_eq_getElem_cons hlt]
    rcases step j its[j] ρ μ (List.getElem?_eq_getElem hlt) hI with ⟨ρ', μ', e, hI'⟩ | ⟨c, μ', e, h⟩
    · rw [loop_next (hG _ _ _ hI) e]
      exact ih (j + 1) (by first | assumption | exact Nat.zero_le _ | exact lt_big (by assumption) (by assumption) | decide | omega) ρ' μ' hlt hI'
    · rw [loop_exc (hG _ _ _ hI) e]; exact h
end Mine
namespace Mine
open PySem
/-- try: f, with an exception of ours that is caught and a handler that comes back -/
theorem tryAs_ret {cs : List Str} {d c : Str} {i : Nat} {f h : DS} {ρ ρ' : Rho} {μ μ₁ μ₂ : MH} {v : MV} (e : f ρ μ = .exc c μ₁) (hc : c ∈ cs) (hs : subX c d = true) (e2 : h (ρ.set i (.exc c)) μ₁ = .ok (.ret v, ρ') μ₂) : dTryAs cs d i f h ρ μ = .ok (.ret v, clrAt i ρ') μ₂ := by
  unfold dTryAs
  rw [e]
  simp only [hc, hs, if_true, e2]
theorem isiX_ok {cs : List Str} {c d : Str} {μ : MH} (hc : c ∈ cs) : isiX cs d (.exc c) μ = .ok (.bool (subX c d)) μ := if_pos hc
end Mine
namespace Mine.Com
open PySem Mine
/-- data with no list in it, within a depth -/
noncomputable def PyOk (d : Nat) (v : MV) : Prop := ∃ p, p.canLay0 = true ∧ ∀ μ, toPy μ d v = some p
theorem PyOk.int {d : Nat} {i : Int} : PyOk d (.int i) := ⟨.int i, by simp [PyData.canLay0], fun μ => by cases d <;> rfl⟩
theorem mapM_py {d : Nat} : ∀ {xs : List MV}, (∀ x ∈ xs, PyOk d x) → ∃ ps, PyData.canLayAll0 ps = true ∧ ∀ μ, xs.mapM (toPy μ d) = some ps
  | [], _ => ⟨[], rfl, fun _ => rfl⟩
  | x :: xs, h => by
    obtain ⟨p, hp, e⟩ := h x List.mem_cons_self
    obtain ⟨ps, h2, e2⟩ := mapM_py (xs := xs) fun y hy => h y (List.mem_cons_of_mem _ hy)
    exact ⟨p :: ps, by simp [PyData.canLayAll0, hp, h2], fun μ => by simp [List.mapM_cons, e μ, e2 μ]⟩
theorem PyOk.tup {d : Nat} {xs : List MV} (h : ∀ x ∈ xs, PyOk d x) : PyOk (d + 1) (.tup xs) := by
  obtain ⟨ps, h1, e⟩ := mapM_py h
  exact ⟨.tuple ps, by rw [PyData.canLay0]; exact h1, fun μ => by show (xs.mapM (toPy μ d)).map PyData.tuple = _; rw [e μ]; rfl⟩
theorem ne_py {μ : MH} {v : MV} (h : PyOk 8 v) : neM v v μ = .ok (.bool false) μ := by
  obtain ⟨p, h1, e⟩ := h
  rw [neM, e μ]
  simp only [h1, Bool.and_self, if_true]
  rw [eqv_refl _ h1]; rfl
theorem eq_py {μ : MH} {v : MV} (h : PyOk 8 v) : eqM v v μ = .ok (.bool true) μ := by
  obtain ⟨p, h1, e⟩ := h
  rw [eqM, e μ]
  simp only [h1, Bool.and_self, if_true]
  rw [eqv_refl _ h1]
end Mine.Com

set_option linter.unusedVariables false
set_option linter.unusedSimpArgs false
namespace Mine.O4
open PySem Mine Mine.Com
/-! the two functions, as laws 03 and 04 both have them -/
noncomputable def d__law_begun : DS := (dSeq (dRet (dList (dCons (dBin mulM (dList (dCons (dConst (.int 0)) dNil)) (dCall lenM (dCons (dVar 0) dNil))) (dCons (dComp (iSeq (dVar 0)) (dConst (.bool true)) (dList dNil) 2) (dCons (dList (dCons (dConst (.int 0)) (dCons (dConst (.int 0)) (dCons (dConst (.int 0)) (dCons (dConst (.int 0)) dNil))))) (dCons (dComp (iSeq (dVar 0)) (dConst (.bool true)) (dList dNil) 1) dNil)))))) dSkip)
noncomputable def f__law_begun : List MV → MH → Out MV := dDef 1 d__law_begun
noncomputable def d__law_do : DS := (dSeq (dIfS (dBin eqM (dVar 3) (dConst (.str (Str.ofString "send")))) (dSeq (dAssign 4 (dPop0 (dBin idxM (dBin idxM (dVar 1) (dConst (.int 1))) (dVar 2)))) (dSeq (dSetItem (dBin idxM (dVar 4) (dConst (.int 1))) (dBin idxM (dVar 1) (dConst (.int 2))) (dBin idxM (dVar 4) (dConst (.int 0)))) (dSeq dRetNone dSkip))) dSkip) (dSeq (dAssign 5 (dBin idxM (dBin idxM (dVar 0) (dVar 2)) (dBin idxM (dBin idxM (dVar 1) (dConst (.int 0))) (dVar 2)))) (dSeq (dSetItem (dBin addM (dBin idxM (dBin idxM (dVar 1) (dConst (.int 0))) (dVar 2)) (dConst (.int 1))) (dBin idxM (dVar 1) (dConst (.int 0))) (dVar 2)) (dSeq (dIfS (dBin eqM (dBin idxM (dVar 5) (dConst (.int 0))) (dConst (.str (Str.ofString "put")))) (dSeq (dExpr (dAppend (dBin idxM (dBin idxM (dVar 1) (dConst (.int 1))) (dVar 2)) (dTup (dCons (dBin idxM (dVar 5) (dConst (.int 1))) (dCons (dBin idxM (dVar 5) (dConst (.int 2))) dNil))))) dSkip) dSkip) (dSeq (dIfS (dBin eqM (dBin idxM (dVar 5) (dConst (.int 0))) (dConst (.str (Str.ofString "get")))) (dSeq (dAssign 6 (dComp (iSeq (dBin idxM (dBin idxM (dVar 1) (dConst (.int 1))) (dVar 2))) (dBin eqM (dBin idxM (dVar 7) (dConst (.int 0))) (dBin idxM (dVar 5) (dConst (.int 1)))) (dBin idxM (dVar 7) (dConst (.int 1))) 7)) (dSeq (dExpr (dAppend (dBin idxM (dBin idxM (dVar 1) (dConst (.int 3))) (dVar 2)) (dIf (dBin neM (dVar 6) (dList dNil)) (dBin idxM (dVar 6) (dNeg (dConst (.int 1)))) (dBin idxM (dBin idxM (dVar 1) (dConst (.int 2))) (dBin idxM (dVar 5) (dConst (.int 1))))))) dSkip)) dSkip) dSkip)))))
noncomputable def f__law_do : List MV → MH → Out MV := dDef 4 d__law_do

structure Own (μ : MH) (B n : Nat) (s : S) : Prop where
  top : μ[B + 2 * n + 5]? = some [.lst (B + 1), .lst (B + 2), .lst (B + n + 3), .lst (B + n + 4)]
  dn : μ[B + 1]? = some (s.done.map intMv)
  lns : μ[B + 2]? = some ((ids (B + 2) n).map .lst)
  line : ∀ i, i < n → μ[B + 2 + 1 + i]? = some ((s.lines[i]?.getD []).map pairMv)
  box : μ[B + n + 3]? = some (s.boxes.map .int)
  gts : μ[B + n + 4]? = some ((ids (B + n + 4) n).map .lst)
  got : ∀ i, i < n → μ[B + n + 4 + 1 + i]? = some ((s.got[i]?.getD []).map .int)

section
variable {μ μ' : MH} {k B n h : Nat} {rs : List Nat} {W : List (List St)} {s : S}
theorem Own.mono (O : Own μ B n s) (p : μ <+: μ') : Own μ' B n s := ⟨get_pre p O.top, get_pre p O.dn, get_pre p O.lns, fun i hi => get_pre p (O.line i hi), get_pre p O.box, get_pre p O.gts, fun i hi => get_pre p (O.got i hi)⟩
theorem Own.at_ (O : Own μ B n s) (hl : s.lines.length = n) : OwnAt μ (B + 2 * n + 5) (B + 1) (B + 2) (ids (B + 2) n) s.done (s.lines.map (·.map pairMv)) := by
  refine ⟨⟨_, O.top⟩, O.dn, O.lns, by simp [ids_len, hl], fun i l xs h1 h2 => ?_, fun xs hx x hxx => ?_⟩
  · obtain ⟨hi, rfl⟩ := ids_inv h1
    rw [O.line i hi]
    rw [List.getElem?_map, Option.map_eq_some_iff] at h2
    obtain ⟨l, e, rfl⟩ := h2
    rw [e]; rfl
  · obtain ⟨l, _, rfl⟩ := List.mem_map.mp hx
    obtain ⟨p, _, rfl⟩ := List.mem_map.mp hxx
    exact flat_pair p
theorem Own.setDone (O : Own μ B n s) (d : List Nat) : Own (μ.set (B + 1) (d.map intMv)) B n ⟨d, s.lines, s.boxes, s.got⟩ :=
  ⟨by rw [get_set_ne (by first | assumption | exact Nat.zero_le _ | exact lt_big (by assumption) (by assumption) | decide | omega)]; exact O.top, get_set_self O.dn, by rw [get_set_ne (by first | assumption | exact Nat.zero_le _ | exact lt_big (by assumption) (by assumption) | decide | omega)]; exact O.lns, fun i hi => by rw [get_set_ne (by first | assumption | exact Nat.zero_le _ | exact lt_big (by assumption) (by assumption) | decide | omega)]; exact O.line i hi, by rw [get_set_ne (by first | assumption | exact Nat.zero_le _ | exact lt_big (by assumption) (by assumption) | decide | omega)]; exact O.box, by rw [get_set_ne (by first | assumption | exact Nat.zero_le _ | exact lt_big (by assumption) (by assumption) | decide | omega)]; exact O.gts, fun i hi => by rw [get_set_ne (by first | assumption | exact Nat.zero_le _ | exact lt_big (by assumption) (by assumption) | decide | omega)]; exact O.got i hi⟩
theorem Own.setBox (O : Own μ B n s) (b : List Int) : Own (μ.set (B + n + 3) (b.map .int)) B n ⟨s.done, s.lines, b, s.got⟩ :=
  ⟨by rw [get_set_ne (by first | assumption | exact Nat.zero_le _ | exact lt_big (by assumption) (by assumption) | decide | omega)]; exact O.top, by rw [get_set_ne (by first | assumption | exact Nat.zero_le _ | exact lt_big (by assumption) (by assumption) | decide | omega)]; exact O.dn, by rw [get_set_ne (by first | assumption | exact Nat.zero_le _ | exact lt_big (by assumption) (by assumption) | decide | omega)]; exact O.lns, fun i hi => by rw [get_set_ne (by first | assumption | exact Nat.zero_le _ | exact lt_big (by assumption) (by assumption) | decide | omega)]; exact O.line i hi, get_set_self O.box, by rw [get_set_ne (by first | assumption | exact Nat.zero_le _ | exact lt_big (by assumption) (by assumption) | decide | omega)]; exact O.gts, fun i hi => by rw [get_set_ne (by first | assumption | exact Nat.zero_le _ | exact lt_big (by assumption) (by assumption) | decide | omega)]; exact O.got i hi⟩
theorem Own.setLine (O : Own μ B n s) (hl : s.lines.length = n) (hh : h < n) (l : List (Nat × Int)) : Own (μ.set (B + 2 + 1 + h) (l.map pairMv)) B n ⟨s.done, s.lines.set h l, s.boxes, s.got⟩ := by
  refine ⟨by rw [get_set_ne (by first | assumption | exact Nat.zero_le _ | exact lt_big (by assumption) (by assumption) | decide | omega)]; exact O.top, by rw [get_set_ne (by first | assumption | exact Nat.zero_le _ | exact lt_big (by assumption) (by assumption) | decide | omega)]; exact O.dn, by rw [get_set_ne (by first | assumption | exact Nat.zero_le _ | exact lt_big (by assumption) (by assumption) | decide | omega)]; exact O.lns, fun i hi => ?_, by rw [get_set_ne (by first | assumption | exact Nat.zero_le _ | exact lt_big (by assumption) (by assumption) | decide | omega)]; exact O.box, by rw [get_set_ne (by first | assumption | exact Nat.zero_le _ | exact lt_big (by assumption) (by assumption) | decide | omega)]; exact O.gts, fun i hi => by rw [get_set_ne (by first | assumption | exact Nat.zero_le _ | exact lt_big (by assumption) (by assumption) | decide | omega)]; exact O.got i hi⟩
  by_cases e : h = i
  · subst e
    rw [get_set_self (O.line h hi)]
    simp [hl, hh]
  · rw [get_set_ne (by first | assumption | exact Nat.zero_le _ | exact lt_big (by assumption) (by assumption) | decide | omega), O.line i hi]
    show _ = some ((((s.lines.set h l)[i]?).getD []).map pairMv)
    rw [get_set_ne e]
theorem Own.setGot (O : Own μ B n s) (hl : s.got.length = n) (hh : h < n) (g : List Int) : Own (μ.set (B + n + 4 + 1 + h) (g.map .int)) B n ⟨s.done, s.lines, s.boxes, s.got.set h g⟩ := by
  refine ⟨by rw [get_set_ne (by first | assumption | exact Nat.zero_le _ | exact lt_big (by assumption) (by assumption) | decide | omega)]; exact O.top, by rw [get_set_ne (by first | assumption | exact Nat.zero_le _ | exact lt_big (by assumption) (by assumption) | decide | omega)]; exact O.dn, by rw [get_set_ne (by first | assumption | exact Nat.zero_le _ | exact lt_big (by assumption) (by assumption) | decide | omega)]; exact O.lns, fun i hi => by rw [get_set_ne (by first | assumption | exact Nat.zero_le _ | exact lt_big (by assumption) (by assumption) | decide | omega)]; exact O.line i hi, by rw [get_set_ne (by first | assumption | exact Nat.zero_le _ | exact lt_big (by assumption) (by assumption) | decide | omega)]; exact O.box, by rw [get_set_ne (by first | assumption | exact Nat.zero_le _ | exact lt_big (by assumption) (by assumption) | decide | omega)]; exact O.gts, fun i hi => ?_⟩
  by_cases e : h = i
  · subst e
    rw [get_set_self (O.got h hi)]
    simp [hl, hh]
  · rw [get_set_ne (by first | assumption | exact Nat.zero_le _ | exact lt_big (by assumption) (by assumption) | decide | omega), O.got i hi]
    show _ = some ((((s.got.set h g)[i]?).getD []).map MV.int)
    rw [get_set_ne e]

theorem law_begun_eq (hW : WebAt μ k rs W) (ok : WebOk W) : ∃ μ', f__law_begun [.lst k] μ = .ok (.lst (μ.length + 2 * W.length + 5)) μ' ∧ μ <+: μ' ∧ Own μ' μ.length W.length (S0 W.length) := by
  have n3 := ok.three
  have hlen := web_len (hW.mono (pre_app μ [[.int 0]])) ok
  obtain ⟨ν, hν⟩ : ∃ ν, ν = μ ++ [[.int 0]] ++ [List.replicate W.length (.int 0)] := ⟨_, rfl⟩
  have pν : μ <+: ν := by rw [hν, List.append_assoc]; exact pre_app μ _
  have lν : ν.length = μ.length + 2 := by rw [hν]; simp
  have hWν := hW.mono pν
  have cn := comp_new (μ₀ := ν) (G := fun μ => μ[k]? = some (rs.map .lst)) (i := 2) (its := rs.map .lst) (ρ := fun i => [MV.lst k][i]?) (fun μ' h => get_pre h hWν.top) (by simp [hW.len]; omega)
  simp only [List.length_map, hW.len] at cn
  obtain ⟨ξ, hξ⟩ : ∃ ξ, ξ = ν ++ [(List.range W.length).map fun j => MV.lst (ν.length + 1 + j)] ++ List.replicate W.length [] := ⟨_, rfl⟩
  have pξ : ν <+: ξ := by rw [hξ, List.append_assoc]; exact pre_app ν _
  have lξ : ξ.length = μ.length + W.length + 3 := by rw [hξ]; simp; omega
  rw [← hξ] at cn
  obtain ⟨ζ, hζ⟩ : ∃ ζ, ζ = ξ ++ [[MV.int 0, .int 0, .int 0, .int 0]] := ⟨_, rfl⟩
  have pζ : ξ <+: ζ := by rw [hζ]; exact pre_app ξ _
  have lζ : ζ.length = μ.length + W.length + 4 := by rw [hζ]; simp [lξ]
  have hWζ := hWν.mono (pξ.trans pζ)
  have cn2 := comp_new (μ₀ := ζ) (G := fun μ => μ[k]? = some (rs.map .lst)) (i := 1) (its := rs.map .lst) (ρ := fun i => [MV.lst k][i]?) (fun μ' h => get_pre h hWζ.top) (by simp [hW.len]; omega)
  simp only [List.length_map, hW.len] at cn2
  obtain ⟨θ, hθ⟩ : ∃ θ, θ = ζ ++ [(List.range W.length).map fun j => MV.lst (ζ.length + 1 + j)] ++ List.replicate W.length [] := ⟨_, rfl⟩
  have pθ : ζ <+: θ := by rw [hθ, List.append_assoc]; exact pre_app ζ _
  have lθ : θ.length = μ.length + 2 * W.length + 5 := by rw [hθ]; simp; omega
  rw [← hθ] at cn2
  rw [lν] at cn
  rw [lζ] at cn2
  have hl2 : List.length (μ ++ [[MV.int 0]]) = μ.length + 1 := by simp
  have hmul := mul_lst (get_last (μ := μ) [MV.int 0]) (n := W.length) (by simp; omega) (by first | assumption | exact Nat.zero_le _ | exact lt_big (by assumption) (by assumption) | decide | omega)
  rw [flat_rep, ← hν, hl2] at hmul
  obtain ⟨top, htop⟩ : ∃ t : List MV, t = [.lst (μ.length + 1), .lst (μ.length + 2), .lst (μ.length + W.length + 3), .lst (μ.length + W.length + 4)] := ⟨_, rfl⟩
  have pt := pre_app θ [top]
  refine ⟨θ ++ [top], ?_, pν.trans (pξ.trans (pζ.trans (pθ.trans pt))), ?_⟩
  · rw [f__law_begun, ev_def (k := 1) rfl]
    simp only [d__law_begun, ev_seq, ev_ret, ev_list, ev_cons, ev_bin, ev_const, ev_nil, consK_ok, consK2_ok, listK_ok, binK_ok, ev_call, ev_var (show (fun i => [MV.lst k][i]?) 0 = some (.lst k) from rfl), Out.bind_ok, hlen, binK2_ok, hmul, ev_comp, ev_seqI, itK_lst hWν.top, compK_ok, cn, ← hζ, itK_lst hWζ.top, cn2, retK_ok, seqK_ret, defK_ret, lν, lξ, lζ, lθ, ← htop]
  · refine ⟨by rw [← lθ, htop]; exact get_last _, ?_, ?_, fun i hi => ?_, ?_, ?_, fun i hi => ?_⟩
    · refine get_pre (pξ.trans (pζ.trans (pθ.trans pt))) ?_
      rw [hν, ← hl2, get_last]
      simp [S0, intMv]
    · refine get_pre (pζ.trans (pθ.trans pt)) ?_
      rw [hξ, List.append_assoc, ← lν, List.getElem?_append_right (Nat.le_refl _)]
      simp [ids]
    · refine get_pre (pζ.trans (pθ.trans pt)) ?_
      rw [hξ, List.append_assoc, ← lν, List.getElem?_append_right (by first | assumption | exact Nat.zero_le _ | exact lt_big (by assumption) (by assumption) | decide | omega), show ν.length + 1 + i - ν.length = i + 1 from by first | assumption | exact Nat.zero_le _ | exact lt_big (by assumption) (by assumption) | decide | omega]
      simp [hi, S0]
    · refine get_pre (pθ.trans pt) ?_
      rw [hζ, ← lξ, get_last]
      simp [S0]
    · refine get_pre pt ?_
      rw [hθ, List.append_assoc, ← lζ, List.getElem?_append_right (Nat.le_refl _)]
      simp [ids]
    · refine get_pre pt ?_
      rw [hθ, List.append_assoc, ← lζ, List.getElem?_append_right (by first | assumption | exact Nat.zero_le _ | exact lt_big (by assumption) (by assumption) | decide | omega), show ζ.length + 1 + i - ζ.length = i + 1 from by first | assumption | exact Nat.zero_le _ | exact lt_big (by assumption) (by assumption) | decide | omega]
      simp [hi, S0]

theorem flat_int (i : Int) : Flat (.int i) := ⟨.int i, rfl, fun μ => rfl⟩

theorem law_do_eq {x : Str} (hW : WebAt μ k rs W) (ok : WebOk W) (O : Own μ B W.length s) (so : SOk W.length s) (hh : h < W.length) (hx : x ∈ kinds) (hc : canB W s h x = true) :
    ∃ μ', f__law_do [.lst k, .lst (B + 2 * W.length + 5), .int h, .str x] μ = .ok .none μ' ∧ Own μ' B W.length (movedP W s h x) ∧ (∀ p : MH, p.length ≤ B + 1 → p <+: μ → p <+: μ') ∧ (∀ (j : Nat) (x : List MV), B + 2 * W.length + 5 < j → μ[j]? = some x → μ'[j]? = some x) := by
  have n3 := ok.three
  have i0 := idx_lst0 (μ := μ) O.top
  have i1 := idx_lst1 (μ := μ) O.top
  have hld : h < s.done.length := by rw [so.done]; exact hh
  have hll : h < s.lines.length := by rw [so.lines]; exact hh
  have hlg : h < s.got.length := by rw [so.got]; exact hh
  have hdi : idxM (.lst (B + 1)) (.int h) μ = .ok (.int (s.done[h]?.getD 0 : Nat)) μ := idx_lst O.dn (by simp [hld, intMv]) (by first | assumption | exact Nat.zero_le _ | exact lt_big (by assumption) (by assumption) | decide | omega)
  have hli : ∀ ν, Own ν B W.length ⟨s.done, s.lines, s.boxes, s.got⟩ ∨ True → True := fun _ _ => trivial
  have e2 : idxM (.lst (B + 2)) (.int h) μ = .ok (.lst (B + 2 + 1 + h)) μ := idx_lst O.lns (by rw [List.getElem?_map, ids_get hh]; rfl) (by first | assumption | exact Nat.zero_le _ | exact lt_big (by assumption) (by assumption) | decide | omega)
  have hsl := (so.pairs _ (List.getElem_mem hll)).1
  rw [f__law_do, ev_def (k := 4) rfl]
  simp [kinds] at hx
  rcases hx with rfl | rfl
  · -- a step
    have hlt := can_step hc hh
    have hss : (Str.ofString "step" == Str.ofString "send") = false := by decide +kernel
    obtain ⟨r, e1, hr, hat⟩ := web_row hW ok hh
    have hri := row_idx (n := s.done[h]?.getD 0) hat (List.getElem?_eq_getElem hlt) (ok.small _ (List.getElem_mem hh))
    have hst : (W[h]?.getD [])[s.done[h]?.getD 0]? = some W[h][s.done[h]?.getD 0] := by simp [hh]
    have sok := ok.ok _ (List.getElem_mem hh) _ (List.getElem_mem hlt)
    obtain ⟨d', hd'⟩ : ∃ d', d' = s.done.set h (s.done[h]?.getD 0 + 1) := ⟨_, rfl⟩
    have hset : ∀ ρ : Rho, setK3 (.ok (.int h) μ) (.int ((s.done[h]?.getD 0 : Nat) + 1)) (.lst (B + 1)) ρ = .ok (.next, ρ) (μ.set (B + 1) (d'.map intMv)) := fun ρ => by
      rw [setK3_ok O.dn (by simpa using hld) (by have := so.done; simp; omega), hd', List.map_set]; rfl
    have O1 := O.setDone d'
    obtain ⟨ν, hν⟩ : ∃ ν, ν = μ.set (B + 1) (d'.map intMv) := ⟨_, rfl⟩
    rw [← hν] at O1
    simp only [← hν] at hset
    have hpre1 : ∀ p : MH, p.length ≤ B + 1 → p <+: μ → p <+: ν := fun p hp hq => by rw [hν]; exact pre_set hq hp
    have hsame : ∀ (j : Nat) (x : List MV), B + 2 * W.length + 5 < j → μ[j]? = some x → ν[j]? = some x := fun j x hj hq => by rw [hν, get_set_ne (by first | assumption | exact Nat.zero_le _ | exact lt_big (by assumption) (by assumption) | decide | omega)]; exact hq
    have i1' := idx_lst1 O1.top
    have e2' : idxM (.lst (B + 2)) (.int h) ν = .ok (.lst (B + 2 + 1 + h)) ν := idx_lst O1.lns (by rw [List.getElem?_map, ids_get hh]; rfl) (by first | assumption | exact Nat.zero_le _ | exact lt_big (by assumption) (by assumption) | decide | omega)
    unfold movedP
    rw [hss, hst]
    simp only [Bool.false_eq_true, if_false, ← hd']
    cases hs2 : W[h][s.done[h]?.getD 0] with
    | put b v =>
      rw [hs2] at hri
      have hap := appK2_ok (v := pairMv (b, v)) (O1.line h hh) (by simp [hll]; unfold sizeLine; omega)
      have O2 := O1.setLine so.lines hh (s.lines[h]?.getD [] ++ [(b, v)])
      rw [List.map_append] at O2
      refine ⟨_, ?_, O2, fun p hp hq => pre_set (hpre1 p hp hq) (by first | assumption | exact Nat.zero_le _ | exact lt_big (by assumption) (by assumption) | decide | omega), fun j x hj hq => by rw [get_set_ne (by first | assumption | exact Nat.zero_le _ | exact lt_big (by assumption) (by assumption) | decide | omega)]; exact hsame j x hj hq⟩
      simp only [pairMv] at hap
      simp [d__law_do, ev_var, i0, hdi, e1, hri, hset, St.mv, i1', e2', hap]
      rfl
    | get b =>
      rw [hs2] at hri sok
      have hb4 : b < 4 := sok
      have hln := O1.line h hh
      have hLh : s.lines[h]?.getD [] = s.lines[h] := by simp [hll]
      simp only [hLh] at hln
      obtain ⟨ρ₁, hρ₁⟩ : ∃ ρ₁ : Rho, ρ₁ = Rho.set (fun i => [MV.lst k, MV.lst (B + 2 * W.length + 5), MV.int h, MV.str (Str.ofString "step")][i]?) 5 (.tup [.str (Str.ofString "get"), .int b]) := ⟨_, rfl⟩
      obtain ⟨ξ, e4, p4, h4⟩ := comp_filter (μ₀ := ν) (ρ := ρ₁) (put := putAt 7) (G := fun μ => μ[B + 2 + 1 + h]? = some (s.lines[h].map pairMv)) (c := dBin eqM (dBin idxM (dVar 7) (dConst (.int 0))) (dBin idxM (dVar 5) (dConst (.int 1)))) (e := dBin idxM (dVar 7) (dConst (.int 1)))
        s.lines[h] pairMv (fun p => p.1 == b) (fun p => .int p.2)
        (fun x hx μ₂ p2 => ⟨μ₂, by
          simp [putAt, ev_var, pairMv, hρ₁]
          rw [Bool.eq_iff_iff]; simp; omega, List.prefix_refl _⟩)
        (fun x hx μ₂ p2 => ⟨μ₂, by simp [putAt, ev_var, pairMv], List.prefix_refl _⟩) (fun μ p => get_pre p hln) (by first | assumption | exact Nat.zero_le _ | exact lt_big (by assumption) (by assumption) | decide | omega)
      obtain ⟨mine, hmine⟩ : ∃ m, m = s.lines[h].filter fun p => p.1 == b := ⟨_, rfl⟩
      rw [← hmine] at h4
      have hml : mine.length ≤ 100 := by rw [hmine]; have := List.length_filter_le (fun p : Nat × Int => p.1 == b) s.lines[h]; omega
      have p5 := pre_app ξ [[]]
      have hne := ne_nil (μ := ξ ++ [[]]) (get_pre p5 h4) (get_last []) (fun x hx => by
        obtain ⟨p, _, rfl⟩ := List.mem_map.mp hx; exact flat_int _)
      have O5 := O1.mono (p4.trans p5)
      have O4 := O1.mono p4
      have hbx : idxM (.lst (B + W.length + 3)) (.int b) (ξ ++ [[]]) = .ok (.int (s.boxes[b]?.getD 0)) (ξ ++ [[]]) := idx_lst O5.box (by simp [show b < s.boxes.length by rw [so.boxes]; exact hb4]) (by first | assumption | exact Nat.zero_le _ | exact lt_big (by assumption) (by assumption) | decide | omega)
      have i2 := idx_lst2 O5.top
      have i3 := idx_lst3 O4.top
      have e3 : idxM (.lst (B + W.length + 4)) (.int h) ξ = .ok (.lst (B + W.length + 4 + 1 + h)) ξ := idx_lst O4.gts (by rw [List.getElem?_map, ids_get hh]; rfl) (by first | assumption | exact Nat.zero_le _ | exact lt_big (by assumption) (by assumption) | decide | omega)
      have hseen : seenP s h b = ((mine.getLast?.map (·.2)).getD (s.boxes[b]?.getD 0)) := by rw [hmine, seenP, hLh]
      have hif : ∀ ρ' : Rho, ρ' 1 = some (.lst (B + 2 * W.length + 5)) → ρ' 5 = some (.tup [.str (Str.ofString "get"), .int b]) → ρ' 6 = some (.lst ν.length) → (dIf (dBin neM (dVar 6) (dList dNil)) (dBin idxM (dVar 6) (dNeg (dConst (.int 1)))) (dBin idxM (dBin idxM (dVar 1) (dConst (.int 2))) (dBin idxM (dVar 5) (dConst (.int 1))))) ρ' ξ = .ok (.int (seenP s h b)) (ξ ++ [[]]) := fun ρ' r1 r5 r6 => by
        rcases List.eq_nil_or_concat mine with hm | ⟨init, m0, hm⟩
        · rw [hm] at hne hseen
          simp at hseen
          simp [ev_var, r1, r5, r6, hne, i2, hbx, hseen]
        · rw [hm] at hne hseen h4
          simp at hseen
          have hil := idx_last (μ := ξ ++ [[]]) (xs := init.map fun p : Nat × Int => MV.int p.2) (x := .int m0.2) (by rw [get_pre p5 h4]; simp) (by rw [hm] at hml; simp at hml; simp; omega)
          have hlt0 : (0 : Int) < (init.length : Int) + 1 := by first | assumption | exact Nat.zero_le _ | exact lt_big (by assumption) (by assumption) | decide | omega
          simp [ev_var, r1, r5, r6, hne, hil, hseen]
      have hif' := hif (ρ₁.set 6 (.lst ν.length)) (by simp [hρ₁]) (by simp [hρ₁]) (by simp)
      have hap := appK2_ok (v := .int (seenP s h b)) (O5.got h hh) (by
        have := so.gots _ (List.getElem_mem hlg)
        simp [hlg]; unfold sizeLine; omega)
      have O6 := O5.setGot so.got hh (s.got[h]?.getD [] ++ [seenP s h b])
      rw [List.map_append] at O6
      refine ⟨_, ?_, O6, fun p hp hq => pre_set ((hpre1 p hp hq).trans (p4.trans p5)) (by first | assumption | exact Nat.zero_le _ | exact lt_big (by assumption) (by assumption) | decide | omega), fun j x hj hq => by rw [get_set_ne (by first | assumption | exact Nat.zero_le _ | exact lt_big (by assumption) (by assumption) | decide | omega)]; exact get_pre (p4.trans p5) (hsame j x hj hq)⟩
      have v1 : ρ₁ 1 = some (.lst (B + 2 * W.length + 5)) := by simp [hρ₁]
      have v2 : ρ₁ 2 = some (.int h) := by simp [hρ₁]
      have v5 : ρ₁ 5 = some (.tup [.str (Str.ofString "get"), .int b]) := by simp [hρ₁]
      have w1 : ∀ x, (Rho.set ρ₁ 6 x) 1 = some (.lst (B + 2 * W.length + 5)) := fun x => by simp [v1]
      have w2 : ∀ x, (Rho.set ρ₁ 6 x) 2 = some (.int h) := fun x => by simp [v2]
      simp only [d__law_do, ev_seq, ev_ifs, ev_bin, ev_var (show (fun i => [MV.lst k, MV.lst (B + 2 * W.length + 5), MV.int h, MV.str (Str.ofString "step")][i]?) 3 = some (.str (Str.ofString "step")) from rfl), ev_var (show (fun i => [MV.lst k, MV.lst (B + 2 * W.length + 5), MV.int h, MV.str (Str.ofString "step")][i]?) 0 = some (.lst k) from rfl), ev_var (show (fun i => [MV.lst k, MV.lst (B + 2 * W.length + 5), MV.int h, MV.str (Str.ofString "step")][i]?) 1 = some (.lst (B + 2 * W.length + 5)) from rfl), ev_var (show (fun i => [MV.lst k, MV.lst (B + 2 * W.length + 5), MV.int h, MV.str (Str.ofString "step")][i]?) 2 = some (.int h) from rfl), binK_ok, ev_const, binK2_ok, w_step_send, ifK_false, ev_skip, seqK_next, ev_assign, e1, i0, hdi, hri, St.mv, asgK_ok, ← hρ₁]
      simp only [ev_setitem, ev_bin addM _ _, ev_bin idxM _ _, ev_var v1, ev_var v2, ev_var v5, ev_const, binK_ok, binK2_ok, i0, hdi, add_int, setK_ok, setK2_ok, hset, seqK_next, ev_seq, ev_ifs, ev_bin eqM _ _, idx_tup0, w_get_put, w_get_get, ifK_false, ifK_true, ev_skip, ev_assign, ev_comp, ev_seqI, i1', e2', itK_lst hln, compK_ok, e4, asgK_ok, ev_expr, ev_append, ev_var (w1 _), ev_var (w2 _), i3, e3, appK_lst, hif', hap, exprK_ok, defK_next]
      rfl
    | fence =>
      rw [hs2] at hri
      refine ⟨ν, ?_, O1, hpre1, hsame⟩
      simp [d__law_do, ev_var, i0, hdi, e1, hri, hset, St.mv]
  · -- a send
    cases hline : s.lines[h]?.getD [] with
    | nil =>
      unfold canB at hc
      rw [hline] at hc
      simp at hc
    | cons p r =>
      have hLh : s.lines[h]?.getD [] = s.lines[h] := by simp [hll]
      have hp4 := (so.pairs _ (List.getElem_mem hll)).2 p (by rw [← hLh, hline]; exact List.mem_cons_self)
      have hln := O.line h hh
      rw [hline] at hln
      have hrl : r.length ≤ 100 := by
        have : (s.lines[h]?.getD []).length = r.length + 1 := by rw [hline]; rfl
        rw [hLh] at this; omega
      have hpop := popK_ok (x := pairMv p) (xs := r.map pairMv) hln (by simp; unfold sizeLine; omega)
      have O1 := O.setLine so.lines hh r
      have i2 := idx_lst2 O1.top
      have hset : ∀ ρ : Rho, setK3 (.ok (.int p.1) (μ.set (B + 2 + 1 + h) (r.map pairMv))) (.int p.2) (.lst (B + W.length + 3)) ρ = .ok (.next, ρ) ((μ.set (B + 2 + 1 + h) (r.map pairMv)).set (B + W.length + 3) ((s.boxes.set p.1 p.2).map .int)) := fun ρ => by
        rw [setK3_ok O1.box (by simp [so.boxes]; exact hp4) (by simp [so.boxes]), List.map_set]
      refine ⟨(μ.set (B + 2 + 1 + h) (r.map pairMv)).set (B + W.length + 3) ((s.boxes.set p.1 p.2).map .int), ?_, ?_, fun q hp hq => pre_set (pre_set hq (by first | assumption | exact Nat.zero_le _ | exact lt_big (by assumption) (by assumption) | decide | omega)) (by first | assumption | exact Nat.zero_le _ | exact lt_big (by assumption) (by assumption) | decide | omega), fun j x hj hq => by rw [get_set_ne (by first | assumption | exact Nat.zero_le _ | exact lt_big (by assumption) (by assumption) | decide | omega), get_set_ne (by first | assumption | exact Nat.zero_le _ | exact lt_big (by assumption) (by assumption) | decide | omega)]; exact hq⟩
      rotate_left
      · unfold movedP
        simp only [beq_self_eq_true, if_true, hline]
        exact O1.setBox (s.boxes.set p.1 p.2)
      · simp only [pairMv] at hpop hset
        simp [d__law_do, ev_var, i1, e2, hpop, pairMv, i2, hset]
end
end Mine.O4

set_option linter.unusedVariables false
set_option Elab.async false
set_option maxRecDepth 100000
namespace Mine.L04
open PySem Mine Mine.Com
noncomputable def xs : List Str := [(Str.ofString "WebError"), (Str.ofString "BadWeb"), (Str.ofString "NoMove"), (Str.ofString "NotOver"), (Str.ofString "NoPlace"), (Str.ofString "NoText")]
noncomputable def sg_is_whole : Sg := ⟨namesAt Challenge.pw_uf030029_04 12, [((Str.ofString "thing"), 0)], true⟩
theorem v_is_whole_thing {C : Cx} {q : Bool} {n : Nat} {pos : Pos} : ESound C q n sg_is_whole (.Name (Str.ofString "thing") pos) (dVar 0) := snd_var (by decide +kernel) (.inl (by decide +kernel)) (by decide +kernel)
noncomputable def sg_is_box : Sg := ⟨namesAt Challenge.pw_uf030029_04 13, [((Str.ofString "thing"), 0)], true⟩
theorem v_is_box_thing {C : Cx} {q : Bool} {n : Nat} {pos : Pos} : ESound C q n sg_is_box (.Name (Str.ofString "thing") pos) (dVar 0) := snd_var (by decide +kernel) (.inl (by decide +kernel)) (by decide +kernel)
noncomputable def sg_is_step : Sg := ⟨namesAt Challenge.pw_uf030029_04 14, [((Str.ofString "thing"), 0)], true⟩
theorem v_is_step_thing {C : Cx} {q : Bool} {n : Nat} {pos : Pos} : ESound C q n sg_is_step (.Name (Str.ofString "thing") pos) (dVar 0) := snd_var (by decide +kernel) (.inl (by decide +kernel)) (by decide +kernel)
noncomputable def sg_need_web : Sg := ⟨namesAt Challenge.pw_uf030029_04 15, [((Str.ofString "web"), 0), ((Str.ofString "deeds"), 1), ((Str.ofString "row"), 2), ((Str.ofString "step"), 3)], true⟩
theorem V_need_web : VarsOk sg_need_web.vars := VarsOk.of (by decide +kernel) (by decide +kernel)
theorem v_need_web_web {C : Cx} {q : Bool} {n : Nat} {pos : Pos} : ESound C q n sg_need_web (.Name (Str.ofString "web") pos) (dVar 0) := snd_var (by decide +kernel) (.inl (by decide +kernel)) (by decide +kernel)
theorem v_need_web_deeds {C : Cx} {q : Bool} {n : Nat} {pos : Pos} : ESound C q n sg_need_web (.Name (Str.ofString "deeds") pos) (dVar 1) := snd_var (by decide +kernel) (.inl (by decide +kernel)) (by decide +kernel)
theorem v_need_web_row {C : Cx} {q : Bool} {n : Nat} {pos : Pos} : ESound C q n sg_need_web (.Name (Str.ofString "row") pos) (dVar 2) := snd_var (by decide +kernel) (.inl (by decide +kernel)) (by decide +kernel)
theorem v_need_web_step {C : Cx} {q : Bool} {n : Nat} {pos : Pos} : ESound C q n sg_need_web (.Name (Str.ofString "step") pos) (dVar 3) := snd_var (by decide +kernel) (.inl (by decide +kernel)) (by decide +kernel)
noncomputable def sg_begun : Sg := ⟨namesAt Challenge.pw_uf030029_04 17, [((Str.ofString "web"), 0), ((Str.ofString "many"), 1)], true⟩
theorem V_begun : VarsOk sg_begun.vars := VarsOk.of (by decide +kernel) (by decide +kernel)
theorem v_begun_web {C : Cx} {q : Bool} {n : Nat} {pos : Pos} : ESound C q n sg_begun (.Name (Str.ofString "web") pos) (dVar 0) := snd_var (by decide +kernel) (.inl (by decide +kernel)) (by decide +kernel)
theorem v_begun_many {C : Cx} {q : Bool} {n : Nat} {pos : Pos} : ESound C q n sg_begun (.Name (Str.ofString "many") pos) (dVar 1) := snd_var (by decide +kernel) (.inl (by decide +kernel)) (by decide +kernel)
noncomputable def sg_can : Sg := ⟨namesAt Challenge.pw_uf030029_04 18, [((Str.ofString "web"), 0), ((Str.ofString "state"), 1), ((Str.ofString "move"), 2), ((Str.ofString "hand"), 3), ((Str.ofString "line"), 4)], true⟩
theorem V_can : VarsOk sg_can.vars := VarsOk.of (by decide +kernel) (by decide +kernel)
theorem v_can_web {C : Cx} {q : Bool} {n : Nat} {pos : Pos} : ESound C q n sg_can (.Name (Str.ofString "web") pos) (dVar 0) := snd_var (by decide +kernel) (.inl (by decide +kernel)) (by decide +kernel)
theorem v_can_state {C : Cx} {q : Bool} {n : Nat} {pos : Pos} : ESound C q n sg_can (.Name (Str.ofString "state") pos) (dVar 1) := snd_var (by decide +kernel) (.inl (by decide +kernel)) (by decide +kernel)
theorem v_can_move {C : Cx} {q : Bool} {n : Nat} {pos : Pos} : ESound C q n sg_can (.Name (Str.ofString "move") pos) (dVar 2) := snd_var (by decide +kernel) (.inl (by decide +kernel)) (by decide +kernel)
theorem v_can_hand {C : Cx} {q : Bool} {n : Nat} {pos : Pos} : ESound C q n sg_can (.Name (Str.ofString "hand") pos) (dVar 3) := snd_var (by decide +kernel) (.inl (by decide +kernel)) (by decide +kernel)
theorem v_can_line {C : Cx} {q : Bool} {n : Nat} {pos : Pos} : ESound C q n sg_can (.Name (Str.ofString "line") pos) (dVar 4) := snd_var (by decide +kernel) (.inl (by decide +kernel)) (by decide +kernel)
noncomputable def sg_changed : Sg := ⟨namesAt Challenge.pw_uf030029_04 19, [((Str.ofString "row"), 0), ((Str.ofString "at"), 1), ((Str.ofString "thing"), 2)], true⟩
theorem v_changed_row {C : Cx} {q : Bool} {n : Nat} {pos : Pos} : ESound C q n sg_changed (.Name (Str.ofString "row") pos) (dVar 0) := snd_var (by decide +kernel) (.inl (by decide +kernel)) (by decide +kernel)
theorem v_changed_at {C : Cx} {q : Bool} {n : Nat} {pos : Pos} : ESound C q n sg_changed (.Name (Str.ofString "at") pos) (dVar 1) := snd_var (by decide +kernel) (.inl (by decide +kernel)) (by decide +kernel)
theorem v_changed_thing {C : Cx} {q : Bool} {n : Nat} {pos : Pos} : ESound C q n sg_changed (.Name (Str.ofString "thing") pos) (dVar 2) := snd_var (by decide +kernel) (.inl (by decide +kernel)) (by decide +kernel)
noncomputable def sg_seen : Sg := ⟨namesAt Challenge.pw_uf030029_04 20, [((Str.ofString "state"), 0), ((Str.ofString "hand"), 1), ((Str.ofString "box"), 2), ((Str.ofString "found"), 3), ((Str.ofString "pair"), 4)], true⟩
theorem V_seen : VarsOk sg_seen.vars := VarsOk.of (by decide +kernel) (by decide +kernel)
theorem v_seen_state {C : Cx} {q : Bool} {n : Nat} {pos : Pos} : ESound C q n sg_seen (.Name (Str.ofString "state") pos) (dVar 0) := snd_var (by decide +kernel) (.inl (by decide +kernel)) (by decide +kernel)
theorem v_seen_hand {C : Cx} {q : Bool} {n : Nat} {pos : Pos} : ESound C q n sg_seen (.Name (Str.ofString "hand") pos) (dVar 1) := snd_var (by decide +kernel) (.inl (by decide +kernel)) (by decide +kernel)
theorem v_seen_box {C : Cx} {q : Bool} {n : Nat} {pos : Pos} : ESound C q n sg_seen (.Name (Str.ofString "box") pos) (dVar 2) := snd_var (by decide +kernel) (.inl (by decide +kernel)) (by decide +kernel)
theorem v_seen_found {C : Cx} {q : Bool} {n : Nat} {pos : Pos} : ESound C q n sg_seen (.Name (Str.ofString "found") pos) (dVar 3) := snd_var (by decide +kernel) (.inl (by decide +kernel)) (by decide +kernel)
theorem v_seen_pair {C : Cx} {q : Bool} {n : Nat} {pos : Pos} : ESound C q n sg_seen (.Name (Str.ofString "pair") pos) (dVar 4) := snd_var (by decide +kernel) (.inl (by decide +kernel)) (by decide +kernel)
noncomputable def sg_moved : Sg := ⟨namesAt Challenge.pw_uf030029_04 21, [((Str.ofString "web"), 0), ((Str.ofString "state"), 1), ((Str.ofString "move"), 2), ((Str.ofString "hand"), 3), ((Str.ofString "done"), 4), ((Str.ofString "lines"), 5), ((Str.ofString "boxes"), 6), ((Str.ofString "got"), 7), ((Str.ofString "pair"), 8), ((Str.ofString "step"), 9)], true⟩
theorem V_moved : VarsOk sg_moved.vars := VarsOk.of (by decide +kernel) (by decide +kernel)
theorem v_moved_web {C : Cx} {q : Bool} {n : Nat} {pos : Pos} : ESound C q n sg_moved (.Name (Str.ofString "web") pos) (dVar 0) := snd_var (by decide +kernel) (.inl (by decide +kernel)) (by decide +kernel)
theorem v_moved_state {C : Cx} {q : Bool} {n : Nat} {pos : Pos} : ESound C q n sg_moved (.Name (Str.ofString "state") pos) (dVar 1) := snd_var (by decide +kernel) (.inl (by decide +kernel)) (by decide +kernel)
theorem v_moved_move {C : Cx} {q : Bool} {n : Nat} {pos : Pos} : ESound C q n sg_moved (.Name (Str.ofString "move") pos) (dVar 2) := snd_var (by decide +kernel) (.inl (by decide +kernel)) (by decide +kernel)
theorem v_moved_hand {C : Cx} {q : Bool} {n : Nat} {pos : Pos} : ESound C q n sg_moved (.Name (Str.ofString "hand") pos) (dVar 3) := snd_var (by decide +kernel) (.inl (by decide +kernel)) (by decide +kernel)
theorem v_moved_done {C : Cx} {q : Bool} {n : Nat} {pos : Pos} : ESound C q n sg_moved (.Name (Str.ofString "done") pos) (dVar 4) := snd_var (by decide +kernel) (.inl (by decide +kernel)) (by decide +kernel)
theorem v_moved_lines {C : Cx} {q : Bool} {n : Nat} {pos : Pos} : ESound C q n sg_moved (.Name (Str.ofString "lines") pos) (dVar 5) := snd_var (by decide +kernel) (.inl (by decide +kernel)) (by decide +kernel)
theorem v_moved_boxes {C : Cx} {q : Bool} {n : Nat} {pos : Pos} : ESound C q n sg_moved (.Name (Str.ofString "boxes") pos) (dVar 6) := snd_var (by decide +kernel) (.inl (by decide +kernel)) (by decide +kernel)
theorem v_moved_got {C : Cx} {q : Bool} {n : Nat} {pos : Pos} : ESound C q n sg_moved (.Name (Str.ofString "got") pos) (dVar 7) := snd_var (by decide +kernel) (.inl (by decide +kernel)) (by decide +kernel)
theorem v_moved_pair {C : Cx} {q : Bool} {n : Nat} {pos : Pos} : ESound C q n sg_moved (.Name (Str.ofString "pair") pos) (dVar 8) := snd_var (by decide +kernel) (.inl (by decide +kernel)) (by decide +kernel)
theorem v_moved_step {C : Cx} {q : Bool} {n : Nat} {pos : Pos} : ESound C q n sg_moved (.Name (Str.ofString "step") pos) (dVar 9) := snd_var (by decide +kernel) (.inl (by decide +kernel)) (by decide +kernel)
noncomputable def sg_is_over : Sg := ⟨namesAt Challenge.pw_uf030029_04 22, [((Str.ofString "web"), 0), ((Str.ofString "state"), 1), ((Str.ofString "hand"), 2), ((Str.ofString "row"), 3)], true⟩
theorem V_is_over : VarsOk sg_is_over.vars := VarsOk.of (by decide +kernel) (by decide +kernel)
theorem v_is_over_web {C : Cx} {q : Bool} {n : Nat} {pos : Pos} : ESound C q n sg_is_over (.Name (Str.ofString "web") pos) (dVar 0) := snd_var (by decide +kernel) (.inl (by decide +kernel)) (by decide +kernel)
theorem v_is_over_state {C : Cx} {q : Bool} {n : Nat} {pos : Pos} : ESound C q n sg_is_over (.Name (Str.ofString "state") pos) (dVar 1) := snd_var (by decide +kernel) (.inl (by decide +kernel)) (by decide +kernel)
theorem v_is_over_hand {C : Cx} {q : Bool} {n : Nat} {pos : Pos} : ESound C q n sg_is_over (.Name (Str.ofString "hand") pos) (dVar 2) := snd_var (by decide +kernel) (.inl (by decide +kernel)) (by decide +kernel)
theorem v_is_over_row {C : Cx} {q : Bool} {n : Nat} {pos : Pos} : ESound C q n sg_is_over (.Name (Str.ofString "row") pos) (dVar 3) := snd_var (by decide +kernel) (.inl (by decide +kernel)) (by decide +kernel)
noncomputable def sg_end_of : Sg := ⟨namesAt Challenge.pw_uf030029_04 23, [((Str.ofString "web"), 0), ((Str.ofString "state"), 1)], true⟩
theorem v_end_of_web {C : Cx} {q : Bool} {n : Nat} {pos : Pos} : ESound C q n sg_end_of (.Name (Str.ofString "web") pos) (dVar 0) := snd_var (by decide +kernel) (.inl (by decide +kernel)) (by decide +kernel)
theorem v_end_of_state {C : Cx} {q : Bool} {n : Nat} {pos : Pos} : ESound C q n sg_end_of (.Name (Str.ofString "state") pos) (dVar 1) := snd_var (by decide +kernel) (.inl (by decide +kernel)) (by decide +kernel)
noncomputable def d_end_of : DS := (dSeq (dIfS (dNot (dCall f_is_over (dCons (dVar 0) (dCons (dVar 1) dNil)))) (dSeq (dRaise (Str.ofString "NotOver") (dConst (.str (Str.ofString "the web is not over")))) dSkip) dSkip) (dSeq (dRet (dTup (dCons (dBin idxM (dVar 1) (dConst (.int 2))) (dCons (dBin idxM (dVar 1) (dConst (.int 3))) dNil)))) dSkip))
noncomputable def f_end_of : List MV → MH → Out MV := dDef 2 d_end_of
noncomputable def sg_woven : Sg := ⟨namesAt Challenge.pw_uf030029_04 25, [((Str.ofString "web"), 0), ((Str.ofString "weaving"), 1), ((Str.ofString "state"), 2), ((Str.ofString "move"), 3)], true⟩
theorem V_woven : VarsOk sg_woven.vars := VarsOk.of (by decide +kernel) (by decide +kernel)
theorem v_woven_web {C : Cx} {q : Bool} {n : Nat} {pos : Pos} : ESound C q n sg_woven (.Name (Str.ofString "web") pos) (dVar 0) := snd_var (by decide +kernel) (.inl (by decide +kernel)) (by decide +kernel)
theorem v_woven_weaving {C : Cx} {q : Bool} {n : Nat} {pos : Pos} : ESound C q n sg_woven (.Name (Str.ofString "weaving") pos) (dVar 1) := snd_var (by decide +kernel) (.inl (by decide +kernel)) (by decide +kernel)
theorem v_woven_state {C : Cx} {q : Bool} {n : Nat} {pos : Pos} : ESound C q n sg_woven (.Name (Str.ofString "state") pos) (dVar 2) := snd_var (by decide +kernel) (.inl (by decide +kernel)) (by decide +kernel)
theorem v_woven_move {C : Cx} {q : Bool} {n : Nat} {pos : Pos} : ESound C q n sg_woven (.Name (Str.ofString "move") pos) (dVar 3) := snd_var (by decide +kernel) (.inl (by decide +kernel)) (by decide +kernel)
noncomputable def d_woven : DS := (dSeq (dAssign 2 (dCall f_begun (dCons (dVar 0) dNil))) (dSeq (dFor (iSeq (dVar 1)) (putAt 3) (dSeq (dAssign 2 (dCall f_moved (dCons (dVar 0) (dCons (dVar 2) (dCons (dVar 3) dNil))))) dSkip)) (dSeq (dRet (dCall f_end_of (dCons (dVar 0) (dCons (dVar 2) dNil)))) dSkip)))
noncomputable def f_woven : List MV → MH → Out MV := dDef 2 d_woven
noncomputable def sg__law_cell_at : Sg := ⟨namesAt Challenge.pw_uf030029_04 27, [((Str.ofString "_law_script"), 0), ((Str.ofString "_law_k"), 1)], true⟩
theorem v__law_cell_at__law_script {C : Cx} {q : Bool} {n : Nat} {pos : Pos} : ESound C q n sg__law_cell_at (.Name (Str.ofString "_law_script") pos) (dVar 0) := snd_var (by decide +kernel) (.inl (by decide +kernel)) (by decide +kernel)
theorem v__law_cell_at__law_k {C : Cx} {q : Bool} {n : Nat} {pos : Pos} : ESound C q n sg__law_cell_at (.Name (Str.ofString "_law_k") pos) (dVar 1) := snd_var (by decide +kernel) (.inl (by decide +kernel)) (by decide +kernel)
noncomputable def sg__law_number_by : Sg := ⟨namesAt Challenge.pw_uf030029_04 28, [((Str.ofString "_law_cell"), 0)], true⟩
theorem v__law_number_by__law_cell {C : Cx} {q : Bool} {n : Nat} {pos : Pos} : ESound C q n sg__law_number_by (.Name (Str.ofString "_law_cell") pos) (dVar 0) := snd_var (by decide +kernel) (.inl (by decide +kernel)) (by decide +kernel)
noncomputable def d__law_number_by : DS := (dSeq (dIfS (dBin eqM (dBin fmodM (dVar 0) (dConst (.int 6))) (dConst (.int 5))) (dSeq (dRet (dBin subM (dBin fmodM (dBin addM (dBin mulM (dBin fdivM (dVar 0) (dConst (.int 6))) (dBin powM (dConst (.int 48271)) (dConst (.int 7)))) (dConst (.int 5))) (dBin subM (dBin mulM (dConst (.int 2)) (dBin powM (dConst (.int 10)) (dConst (.int 30)))) (dConst (.int 1)))) (dBin subM (dBin powM (dConst (.int 10)) (dConst (.int 30))) (dConst (.int 1))))) dSkip) dSkip) (dSeq (dRet (dBin subM (dBin fmodM (dBin fdivM (dVar 0) (dConst (.int 6))) (dConst (.int 5))) (dConst (.int 1)))) dSkip))
noncomputable def f__law_number_by : List MV → MH → Out MV := dDef 1 d__law_number_by
noncomputable def sg__law_step_by : Sg := ⟨namesAt Challenge.pw_uf030029_04 29, [((Str.ofString "_law_cell"), 0), ((Str.ofString "_law_boxes"), 1)], true⟩
theorem v__law_step_by__law_cell {C : Cx} {q : Bool} {n : Nat} {pos : Pos} : ESound C q n sg__law_step_by (.Name (Str.ofString "_law_cell") pos) (dVar 0) := snd_var (by decide +kernel) (.inl (by decide +kernel)) (by decide +kernel)
theorem v__law_step_by__law_boxes {C : Cx} {q : Bool} {n : Nat} {pos : Pos} : ESound C q n sg__law_step_by (.Name (Str.ofString "_law_boxes") pos) (dVar 1) := snd_var (by decide +kernel) (.inl (by decide +kernel)) (by decide +kernel)
noncomputable def d__law_step_by : DS := (dSeq (dIfS (dBin ltM (dBin fmodM (dVar 0) (dConst (.int 7))) (dConst (.int 3))) (dSeq (dRet (dTup (dCons (dConst (.str (Str.ofString "put"))) (dCons (dBin fmodM (dBin fdivM (dVar 0) (dConst (.int 7))) (dVar 1)) (dCons (dCall f__law_number_by (dCons (dBin fdivM (dVar 0) (dConst (.int 28))) dNil)) dNil))))) dSkip) dSkip) (dSeq (dIfS (dBin ltM (dBin fmodM (dVar 0) (dConst (.int 7))) (dConst (.int 6))) (dSeq (dRet (dTup (dCons (dConst (.str (Str.ofString "get"))) (dCons (dBin fmodM (dBin fdivM (dVar 0) (dConst (.int 7))) (dVar 1)) dNil)))) dSkip) dSkip) (dSeq (dRet (dTup (dCons (dConst (.str (Str.ofString "fence"))) dNil))) dSkip)))
noncomputable def f__law_step_by : List MV → MH → Out MV := dDef 2 d__law_step_by
noncomputable def sg__law_web_by : Sg := ⟨namesAt Challenge.pw_uf030029_04 30, [((Str.ofString "_law_script"), 0), ((Str.ofString "_law_first"), 1), ((Str.ofString "_law_second"), 2), ((Str.ofString "_law_web"), 3), ((Str.ofString "_law_many"), 4), ((Str.ofString "_law_one"), 5), ((Str.ofString "_law_other"), 6), ((Str.ofString "_law_k"), 7), ((Str.ofString "_law_cell"), 8)], true⟩
theorem V__law_web_by : VarsOk sg__law_web_by.vars := VarsOk.of (by decide +kernel) (by decide +kernel)
theorem v__law_web_by__law_script {C : Cx} {q : Bool} {n : Nat} {pos : Pos} : ESound C q n sg__law_web_by (.Name (Str.ofString "_law_script") pos) (dVar 0) := snd_var (by decide +kernel) (.inl (by decide +kernel)) (by decide +kernel)
theorem v__law_web_by__law_first {C : Cx} {q : Bool} {n : Nat} {pos : Pos} : ESound C q n sg__law_web_by (.Name (Str.ofString "_law_first") pos) (dVar 1) := snd_var (by decide +kernel) (.inl (by decide +kernel)) (by decide +kernel)
theorem v__law_web_by__law_second {C : Cx} {q : Bool} {n : Nat} {pos : Pos} : ESound C q n sg__law_web_by (.Name (Str.ofString "_law_second") pos) (dVar 2) := snd_var (by decide +kernel) (.inl (by decide +kernel)) (by decide +kernel)
theorem v__law_web_by__law_web {C : Cx} {q : Bool} {n : Nat} {pos : Pos} : ESound C q n sg__law_web_by (.Name (Str.ofString "_law_web") pos) (dVar 3) := snd_var (by decide +kernel) (.inl (by decide +kernel)) (by decide +kernel)
theorem v__law_web_by__law_many {C : Cx} {q : Bool} {n : Nat} {pos : Pos} : ESound C q n sg__law_web_by (.Name (Str.ofString "_law_many") pos) (dVar 4) := snd_var (by decide +kernel) (.inl (by decide +kernel)) (by decide +kernel)
theorem v__law_web_by__law_one {C : Cx} {q : Bool} {n : Nat} {pos : Pos} : ESound C q n sg__law_web_by (.Name (Str.ofString "_law_one") pos) (dVar 5) := snd_var (by decide +kernel) (.inl (by decide +kernel)) (by decide +kernel)
theorem v__law_web_by__law_other {C : Cx} {q : Bool} {n : Nat} {pos : Pos} : ESound C q n sg__law_web_by (.Name (Str.ofString "_law_other") pos) (dVar 6) := snd_var (by decide +kernel) (.inl (by decide +kernel)) (by decide +kernel)
theorem v__law_web_by__law_k {C : Cx} {q : Bool} {n : Nat} {pos : Pos} : ESound C q n sg__law_web_by (.Name (Str.ofString "_law_k") pos) (dVar 7) := snd_var (by decide +kernel) (.inl (by decide +kernel)) (by decide +kernel)
theorem v__law_web_by__law_cell {C : Cx} {q : Bool} {n : Nat} {pos : Pos} : ESound C q n sg__law_web_by (.Name (Str.ofString "_law_cell") pos) (dVar 8) := snd_var (by decide +kernel) (.inl (by decide +kernel)) (by decide +kernel)
noncomputable def d__law_web_by : DS := (dSeq (dAssign 1 (dCall f__law_cell_at (dCons (dVar 0) (dCons (dConst (.int 0)) dNil)))) (dSeq (dAssign 2 (dCall f__law_cell_at (dCons (dVar 0) (dCons (dConst (.int 1)) dNil)))) (dSeq (dAssign 3 (dComp (iRange1 (dBin addM (dConst (.int 1)) (dBin fmodM (dVar 1) (dConst (.int 3))))) (dConst (.bool true)) (dList dNil) 9)) (dSeq (dAssign 4 (dBin fmodM (dBin fdivM (dVar 1) (dConst (.int 24))) (dConst (.int 9)))) (dSeq (dIfS (dAnd (dBin eqM (dBin fmodM (dBin fdivM (dVar 1) (dConst (.int 12))) (dConst (.int 2))) (dConst (.int 1))) (dBin gtM (dCall lenM (dCons (dVar 3) dNil)) (dConst (.int 1)))) (dSeq (dAssign 5 (dBin fmodM (dVar 2) (dConst (.int 4)))) (dSeq (dAssign 6 (dBin fmodM (dBin addM (dBin addM (dVar 5) (dConst (.int 1))) (dBin fmodM (dBin fdivM (dVar 2) (dConst (.int 4))) (dConst (.int 3)))) (dConst (.int 4)))) (dSeq (dSetItem (dList (dCons (dTup (dCons (dConst (.str (Str.ofString "put"))) (dCons (dVar 5) (dCons (dCall f__law_number_by (dCons (dBin fdivM (dVar 2) (dConst (.int 12))) dNil)) dNil)))) (dCons (dTup (dCons (dConst (.str (Str.ofString "get"))) (dCons (dVar 6) dNil))) dNil))) (dVar 3) (dConst (.int 0))) (dSeq (dSetItem (dList (dCons (dTup (dCons (dConst (.str (Str.ofString "put"))) (dCons (dVar 6) (dCons (dCall f__law_number_by (dCons (dBin fdivM (dVar 2) (dConst (.int 60))) dNil)) dNil)))) (dCons (dTup (dCons (dConst (.str (Str.ofString "get"))) (dCons (dVar 5) dNil))) dNil))) (dVar 3) (dConst (.int 1))) (dSeq (dAssign 4 (dBin fmodM (dVar 4) (dConst (.int 5)))) dSkip))))) dSkip) (dSeq (dFor (iRange1 (dVar 4)) (putAt 7) (dSeq (dAssign 8 (dBin addM (dCall f__law_cell_at (dCons (dVar 0) (dCons (dBin addM (dConst (.int 2)) (dVar 7)) dNil))) (dBin mulM (dConst (.int 3)) (dVar 7)))) (dSeq (dExpr (dAppend (dBin idxM (dVar 3) (dBin fmodM (dBin fdivM (dVar 8) (dConst (.int 13))) (dCall lenM (dCons (dVar 3) dNil)))) (dCall f__law_step_by (dCons (dVar 8) (dCons (dBin addM (dConst (.int 1)) (dBin fmodM (dBin fdivM (dVar 1) (dConst (.int 3))) (dConst (.int 4)))) dNil))))) dSkip))) (dSeq (dRet (dVar 3)) dSkip)))))))
noncomputable def f__law_web_by : List MV → MH → Out MV := dDef 1 d__law_web_by
noncomputable def sg__law_begun : Sg := ⟨namesAt Challenge.pw_uf030029_04 31, [((Str.ofString "_law_web"), 0)], true⟩
theorem v__law_begun__law_web {C : Cx} {q : Bool} {n : Nat} {pos : Pos} : ESound C q n sg__law_begun (.Name (Str.ofString "_law_web") pos) (dVar 0) := snd_var (by decide +kernel) (.inl (by decide +kernel)) (by decide +kernel)
noncomputable def d__law_begun : DS := (dSeq (dRet (dList (dCons (dBin mulM (dList (dCons (dConst (.int 0)) dNil)) (dCall lenM (dCons (dVar 0) dNil))) (dCons (dComp (iSeq (dVar 0)) (dConst (.bool true)) (dList dNil) 2) (dCons (dList (dCons (dConst (.int 0)) (dCons (dConst (.int 0)) (dCons (dConst (.int 0)) (dCons (dConst (.int 0)) dNil))))) (dCons (dComp (iSeq (dVar 0)) (dConst (.bool true)) (dList dNil) 1) dNil)))))) dSkip)
noncomputable def f__law_begun : List MV → MH → Out MV := dDef 1 d__law_begun
noncomputable def sg__law_can : Sg := ⟨namesAt Challenge.pw_uf030029_04 32, [((Str.ofString "_law_web"), 0), ((Str.ofString "_law_own"), 1), ((Str.ofString "_law_hand"), 2), ((Str.ofString "_law_kind"), 3)], true⟩
theorem v__law_can__law_web {C : Cx} {q : Bool} {n : Nat} {pos : Pos} : ESound C q n sg__law_can (.Name (Str.ofString "_law_web") pos) (dVar 0) := snd_var (by decide +kernel) (.inl (by decide +kernel)) (by decide +kernel)
theorem v__law_can__law_own {C : Cx} {q : Bool} {n : Nat} {pos : Pos} : ESound C q n sg__law_can (.Name (Str.ofString "_law_own") pos) (dVar 1) := snd_var (by decide +kernel) (.inl (by decide +kernel)) (by decide +kernel)
theorem v__law_can__law_hand {C : Cx} {q : Bool} {n : Nat} {pos : Pos} : ESound C q n sg__law_can (.Name (Str.ofString "_law_hand") pos) (dVar 2) := snd_var (by decide +kernel) (.inl (by decide +kernel)) (by decide +kernel)
theorem v__law_can__law_kind {C : Cx} {q : Bool} {n : Nat} {pos : Pos} : ESound C q n sg__law_can (.Name (Str.ofString "_law_kind") pos) (dVar 3) := snd_var (by decide +kernel) (.inl (by decide +kernel)) (by decide +kernel)
noncomputable def sg__law_do : Sg := ⟨namesAt Challenge.pw_uf030029_04 33, [((Str.ofString "_law_web"), 0), ((Str.ofString "_law_own"), 1), ((Str.ofString "_law_hand"), 2), ((Str.ofString "_law_kind"), 3), ((Str.ofString "_law_pair"), 4), ((Str.ofString "_law_step"), 5), ((Str.ofString "_law_mine"), 6)], true⟩
theorem V__law_do : VarsOk sg__law_do.vars := VarsOk.of (by decide +kernel) (by decide +kernel)
theorem v__law_do__law_web {C : Cx} {q : Bool} {n : Nat} {pos : Pos} : ESound C q n sg__law_do (.Name (Str.ofString "_law_web") pos) (dVar 0) := snd_var (by decide +kernel) (.inl (by decide +kernel)) (by decide +kernel)
theorem v__law_do__law_own {C : Cx} {q : Bool} {n : Nat} {pos : Pos} : ESound C q n sg__law_do (.Name (Str.ofString "_law_own") pos) (dVar 1) := snd_var (by decide +kernel) (.inl (by decide +kernel)) (by decide +kernel)
theorem v__law_do__law_hand {C : Cx} {q : Bool} {n : Nat} {pos : Pos} : ESound C q n sg__law_do (.Name (Str.ofString "_law_hand") pos) (dVar 2) := snd_var (by decide +kernel) (.inl (by decide +kernel)) (by decide +kernel)
theorem v__law_do__law_kind {C : Cx} {q : Bool} {n : Nat} {pos : Pos} : ESound C q n sg__law_do (.Name (Str.ofString "_law_kind") pos) (dVar 3) := snd_var (by decide +kernel) (.inl (by decide +kernel)) (by decide +kernel)
theorem v__law_do__law_pair {C : Cx} {q : Bool} {n : Nat} {pos : Pos} : ESound C q n sg__law_do (.Name (Str.ofString "_law_pair") pos) (dVar 4) := snd_var (by decide +kernel) (.inl (by decide +kernel)) (by decide +kernel)
theorem v__law_do__law_step {C : Cx} {q : Bool} {n : Nat} {pos : Pos} : ESound C q n sg__law_do (.Name (Str.ofString "_law_step") pos) (dVar 5) := snd_var (by decide +kernel) (.inr (by decide +kernel)) (by decide +kernel)
theorem v__law_do__law_mine {C : Cx} {q : Bool} {n : Nat} {pos : Pos} : ESound C q n sg__law_do (.Name (Str.ofString "_law_mine") pos) (dVar 6) := snd_var (by decide +kernel) (.inl (by decide +kernel)) (by decide +kernel)
noncomputable def d__law_do : DS := (dSeq (dIfS (dBin eqM (dVar 3) (dConst (.str (Str.ofString "send")))) (dSeq (dAssign 4 (dPop0 (dBin idxM (dBin idxM (dVar 1) (dConst (.int 1))) (dVar 2)))) (dSeq (dSetItem (dBin idxM (dVar 4) (dConst (.int 1))) (dBin idxM (dVar 1) (dConst (.int 2))) (dBin idxM (dVar 4) (dConst (.int 0)))) (dSeq dRetNone dSkip))) dSkip) (dSeq (dAssign 5 (dBin idxM (dBin idxM (dVar 0) (dVar 2)) (dBin idxM (dBin idxM (dVar 1) (dConst (.int 0))) (dVar 2)))) (dSeq (dSetItem (dBin addM (dBin idxM (dBin idxM (dVar 1) (dConst (.int 0))) (dVar 2)) (dConst (.int 1))) (dBin idxM (dVar 1) (dConst (.int 0))) (dVar 2)) (dSeq (dIfS (dBin eqM (dBin idxM (dVar 5) (dConst (.int 0))) (dConst (.str (Str.ofString "put")))) (dSeq (dExpr (dAppend (dBin idxM (dBin idxM (dVar 1) (dConst (.int 1))) (dVar 2)) (dTup (dCons (dBin idxM (dVar 5) (dConst (.int 1))) (dCons (dBin idxM (dVar 5) (dConst (.int 2))) dNil))))) dSkip) dSkip) (dSeq (dIfS (dBin eqM (dBin idxM (dVar 5) (dConst (.int 0))) (dConst (.str (Str.ofString "get")))) (dSeq (dAssign 6 (dComp (iSeq (dBin idxM (dBin idxM (dVar 1) (dConst (.int 1))) (dVar 2))) (dBin eqM (dBin idxM (dVar 7) (dConst (.int 0))) (dBin idxM (dVar 5) (dConst (.int 1)))) (dBin idxM (dVar 7) (dConst (.int 1))) 7)) (dSeq (dExpr (dAppend (dBin idxM (dBin idxM (dVar 1) (dConst (.int 3))) (dVar 2)) (dIf (dBin neM (dVar 6) (dList dNil)) (dBin idxM (dVar 6) (dNeg (dConst (.int 1)))) (dBin idxM (dBin idxM (dVar 1) (dConst (.int 2))) (dBin idxM (dVar 5) (dConst (.int 1))))))) dSkip)) dSkip) dSkip)))))
noncomputable def f__law_do : List MV → MH → Out MV := dDef 4 d__law_do
noncomputable def sg__law_moves : Sg := ⟨namesAt Challenge.pw_uf030029_04 34, [((Str.ofString "_law_web"), 0), ((Str.ofString "_law_own"), 1), ((Str.ofString "_law_some"), 2), ((Str.ofString "_law_hand"), 3)], true⟩
theorem V__law_moves : VarsOk sg__law_moves.vars := VarsOk.of (by decide +kernel) (by decide +kernel)
theorem v__law_moves__law_web {C : Cx} {q : Bool} {n : Nat} {pos : Pos} : ESound C q n sg__law_moves (.Name (Str.ofString "_law_web") pos) (dVar 0) := snd_var (by decide +kernel) (.inr (by decide +kernel)) (by decide +kernel)
theorem v__law_moves__law_some {C : Cx} {q : Bool} {n : Nat} {pos : Pos} : ESound C q n sg__law_moves (.Name (Str.ofString "_law_some") pos) (dVar 2) := snd_var (by decide +kernel) (.inl (by decide +kernel)) (by decide +kernel)
noncomputable def sg__law_end : Sg := ⟨namesAt Challenge.pw_uf030029_04 35, [((Str.ofString "_law_own"), 0)], true⟩
theorem v__law_end__law_own {C : Cx} {q : Bool} {n : Nat} {pos : Pos} : ESound C q n sg__law_end (.Name (Str.ofString "_law_own") pos) (dVar 0) := snd_var (by decide +kernel) (.inl (by decide +kernel)) (by decide +kernel)
noncomputable def d__law_end : DS := (dSeq (dRet (dTup (dCons (dCall tupleM (dCons (dBin idxM (dVar 0) (dConst (.int 2))) dNil)) (dCons (dCall tupleM (dCons (dComp (iSeq (dBin idxM (dVar 0) (dConst (.int 3)))) (dConst (.bool true)) (dCall tupleM (dCons (dVar 1) dNil)) 1) dNil)) dNil)))) dSkip)
noncomputable def f__law_end : List MV → MH → Out MV := dDef 1 d__law_end
noncomputable def sg__law_word : Sg := ⟨namesAt Challenge.pw_uf030029_04 36, [((Str.ofString "_law_web"), 0), ((Str.ofString "_law_weaving"), 1), ((Str.ofString "error"), 2), ((Str.ofString "_law_other"), 3), ((Str.ofString "_law_found"), 4)], true⟩
theorem V__law_word : VarsOk sg__law_word.vars := VarsOk.of (by decide +kernel) (by decide +kernel)
theorem v__law_word__law_web {C : Cx} {q : Bool} {n : Nat} {pos : Pos} : ESound C q n sg__law_word (.Name (Str.ofString "_law_web") pos) (dVar 0) := snd_var (by decide +kernel) (.inl (by decide +kernel)) (by decide +kernel)
theorem v__law_word__law_weaving {C : Cx} {q : Bool} {n : Nat} {pos : Pos} : ESound C q n sg__law_word (.Name (Str.ofString "_law_weaving") pos) (dVar 1) := snd_var (by decide +kernel) (.inl (by decide +kernel)) (by decide +kernel)
theorem v__law_word_error {C : Cx} {q : Bool} {n : Nat} {pos : Pos} : ESound C q n sg__law_word (.Name (Str.ofString "error") pos) (dVar 2) := snd_var (by decide +kernel) (.inl (by decide +kernel)) (by decide +kernel)
theorem v__law_word__law_other {C : Cx} {q : Bool} {n : Nat} {pos : Pos} : ESound C q n sg__law_word (.Name (Str.ofString "_law_other") pos) (dVar 3) := snd_var (by decide +kernel) (.inl (by decide +kernel)) (by decide +kernel)
theorem v__law_word__law_found {C : Cx} {q : Bool} {n : Nat} {pos : Pos} : ESound C q n sg__law_word (.Name (Str.ofString "_law_found") pos) (dVar 4) := snd_var (by decide +kernel) (.inl (by decide +kernel)) (by decide +kernel)
noncomputable def d__law_word : DS := (dSeq (dTryAs xs (Str.ofString "WebError") 2 (dExpr (dCall f_woven (dCons (dVar 0) (dCons (dVar 1) dNil)))) (dSeq (dAssign 3 (dOr (dOp1 (isiX xs (Str.ofString "BadWeb")) (dVar 2)) (dOr (dOp1 (isiX xs (Str.ofString "NoPlace")) (dVar 2)) (dOp1 (isiX xs (Str.ofString "NoText")) (dVar 2))))) (dSeq (dAssign 4 (dBin addM (dBin mulM (dConst (.str (Str.ofString "move"))) (dCall intOfM (dCons (dOp1 (isiX xs (Str.ofString "NoMove")) (dVar 2)) dNil))) (dBin mulM (dConst (.str (Str.ofString "over"))) (dCall intOfM (dCons (dOp1 (isiX xs (Str.ofString "NotOver")) (dVar 2)) dNil))))) (dSeq (dRet (dBin addM (dVar 4) (dBin mulM (dConst (.str (Str.ofString "other"))) (dCall intOfM (dCons (dOr (dVar 3) (dNot (dOp1 (isiX xs (Str.ofString "ValueError")) (dVar 2)))) dNil))))) dSkip)))) (dSeq (dRet (dConst (.str (Str.ofString "")))) dSkip))
noncomputable def f__law_word : List MV → MH → Out MV := dDef 2 d__law_word
noncomputable def sg__law_over_good : Sg := ⟨namesAt Challenge.pw_uf030029_04 37, [((Str.ofString "_law_web"), 0), ((Str.ofString "_law_state"), 1), ((Str.ofString "_law_own"), 2), ((Str.ofString "_law_due"), 3), ((Str.ofString "_law_found"), 4), ((Str.ofString "_law_end_here"), 5)], true⟩
theorem V__law_over_good : VarsOk sg__law_over_good.vars := VarsOk.of (by decide +kernel) (by decide +kernel)
theorem v__law_over_good__law_web {C : Cx} {q : Bool} {n : Nat} {pos : Pos} : ESound C q n sg__law_over_good (.Name (Str.ofString "_law_web") pos) (dVar 0) := snd_var (by decide +kernel) (.inl (by decide +kernel)) (by decide +kernel)
theorem v__law_over_good__law_state {C : Cx} {q : Bool} {n : Nat} {pos : Pos} : ESound C q n sg__law_over_good (.Name (Str.ofString "_law_state") pos) (dVar 1) := snd_var (by decide +kernel) (.inl (by decide +kernel)) (by decide +kernel)
theorem v__law_over_good__law_own {C : Cx} {q : Bool} {n : Nat} {pos : Pos} : ESound C q n sg__law_over_good (.Name (Str.ofString "_law_own") pos) (dVar 2) := snd_var (by decide +kernel) (.inl (by decide +kernel)) (by decide +kernel)
theorem v__law_over_good__law_due {C : Cx} {q : Bool} {n : Nat} {pos : Pos} : ESound C q n sg__law_over_good (.Name (Str.ofString "_law_due") pos) (dVar 3) := snd_var (by decide +kernel) (.inl (by decide +kernel)) (by decide +kernel)
theorem v__law_over_good__law_found {C : Cx} {q : Bool} {n : Nat} {pos : Pos} : ESound C q n sg__law_over_good (.Name (Str.ofString "_law_found") pos) (dVar 4) := snd_var (by decide +kernel) (.inl (by decide +kernel)) (by decide +kernel)
theorem v__law_over_good__law_end_here {C : Cx} {q : Bool} {n : Nat} {pos : Pos} : ESound C q n sg__law_over_good (.Name (Str.ofString "_law_end_here") pos) (dVar 5) := snd_var (by decide +kernel) (.inl (by decide +kernel)) (by decide +kernel)
noncomputable def d__law_over_good : DS := (dSeq (dAssign 3 (dBin eqM (dCall f__law_moves (dCons (dVar 0) (dCons (dVar 2) dNil))) (dList dNil))) (dSeq (dAssign 4 (dCall f_is_over (dCons (dVar 0) (dCons (dVar 1) dNil)))) (dSeq (dIfS (dOr (dNot (dOp1 (isiM .bool) (dVar 4))) (dBin neM (dVar 4) (dVar 3))) (dSeq (dRet (dConst (.bool false))) dSkip) dSkip) (dSeq (dTry xs (Str.ofString "NotOver") (dAssign 5 (dCall f_end_of (dCons (dVar 0) (dCons (dVar 1) dNil)))) (dSeq (dRet (dNot (dVar 3))) dSkip)) (dSeq (dRet (dAnd (dVar 3) (dAnd (dOp1 (isiM .tuple) (dVar 5)) (dBin eqM (dVar 5) (dCall f__law_end (dCons (dVar 2) dNil)))))) dSkip)))))
noncomputable def f__law_over_good : List MV → MH → Out MV := dDef 3 d__law_over_good
noncomputable def sg__law_spoilt_good : Sg := ⟨namesAt Challenge.pw_uf030029_04 38, [((Str.ofString "_law_web"), 0), ((Str.ofString "_law_weaving"), 1), ((Str.ofString "_law_cell"), 2), ((Str.ofString "_law_at"), 3), ((Str.ofString "_law_own"), 4), ((Str.ofString "_law_move"), 5), ((Str.ofString "_law_some"), 6), ((Str.ofString "_law_things"), 7), ((Str.ofString "_law_odd"), 8), ((Str.ofString "_law_hand"), 9), ((Str.ofString "_law_kind"), 10)], true⟩
theorem V__law_spoilt_good : VarsOk sg__law_spoilt_good.vars := VarsOk.of (by decide +kernel) (by decide +kernel)
theorem v__law_spoilt_good__law_web {C : Cx} {q : Bool} {n : Nat} {pos : Pos} : ESound C q n sg__law_spoilt_good (.Name (Str.ofString "_law_web") pos) (dVar 0) := snd_var (by decide +kernel) (.inl (by decide +kernel)) (by decide +kernel)
theorem v__law_spoilt_good__law_weaving {C : Cx} {q : Bool} {n : Nat} {pos : Pos} : ESound C q n sg__law_spoilt_good (.Name (Str.ofString "_law_weaving") pos) (dVar 1) := snd_var (by decide +kernel) (.inl (by decide +kernel)) (by decide +kernel)
theorem v__law_spoilt_good__law_cell {C : Cx} {q : Bool} {n : Nat} {pos : Pos} : ESound C q n sg__law_spoilt_good (.Name (Str.ofString "_law_cell") pos) (dVar 2) := snd_var (by decide +kernel) (.inl (by decide +kernel)) (by decide +kernel)
theorem v__law_spoilt_good__law_at {C : Cx} {q : Bool} {n : Nat} {pos : Pos} : ESound C q n sg__law_spoilt_good (.Name (Str.ofString "_law_at") pos) (dVar 3) := snd_var (by decide +kernel) (.inl (by decide +kernel)) (by decide +kernel)
theorem v__law_spoilt_good__law_own {C : Cx} {q : Bool} {n : Nat} {pos : Pos} : ESound C q n sg__law_spoilt_good (.Name (Str.ofString "_law_own") pos) (dVar 4) := snd_var (by decide +kernel) (.inl (by decide +kernel)) (by decide +kernel)
theorem v__law_spoilt_good__law_move {C : Cx} {q : Bool} {n : Nat} {pos : Pos} : ESound C q n sg__law_spoilt_good (.Name (Str.ofString "_law_move") pos) (dVar 5) := snd_var (by decide +kernel) (.inl (by decide +kernel)) (by decide +kernel)
theorem v__law_spoilt_good__law_some {C : Cx} {q : Bool} {n : Nat} {pos : Pos} : ESound C q n sg__law_spoilt_good (.Name (Str.ofString "_law_some") pos) (dVar 6) := snd_var (by decide +kernel) (.inl (by decide +kernel)) (by decide +kernel)
theorem v__law_spoilt_good__law_things {C : Cx} {q : Bool} {n : Nat} {pos : Pos} : ESound C q n sg__law_spoilt_good (.Name (Str.ofString "_law_things") pos) (dVar 7) := snd_var (by decide +kernel) (.inl (by decide +kernel)) (by decide +kernel)
theorem v__law_spoilt_good__law_odd {C : Cx} {q : Bool} {n : Nat} {pos : Pos} : ESound C q n sg__law_spoilt_good (.Name (Str.ofString "_law_odd") pos) (dVar 8) := snd_var (by decide +kernel) (.inl (by decide +kernel)) (by decide +kernel)
theorem v__law_spoilt_good__law_hand {C : Cx} {q : Bool} {n : Nat} {pos : Pos} : ESound C q n sg__law_spoilt_good (.Name (Str.ofString "_law_hand") pos) (dVar 9) := snd_var (by decide +kernel) (.inl (by decide +kernel)) (by decide +kernel)
theorem v__law_spoilt_good__law_kind {C : Cx} {q : Bool} {n : Nat} {pos : Pos} : ESound C q n sg__law_spoilt_good (.Name (Str.ofString "_law_kind") pos) (dVar 10) := snd_var (by decide +kernel) (.inl (by decide +kernel)) (by decide +kernel)
noncomputable def d__law_spoilt_good : DS := (dSeq (dAssign 3 (dBin fmodM (dVar 2) (dBin addM (dCall lenM (dCons (dVar 1) dNil)) (dConst (.int 1))))) (dSeq (dIfS (dAnd (dBin ltM (dVar 3) (dCall lenM (dCons (dVar 1) dNil))) (dBin neM (dCall f__law_word (dCons (dVar 0) (dCons (dBin cutTo (dVar 1) (dVar 3)) dNil))) (dConst (.str (Str.ofString "over"))))) (dSeq (dRet (dConst (.bool false))) dSkip) dSkip) (dSeq (dAssign 4 (dCall f__law_begun (dCons (dVar 0) dNil))) (dSeq (dFor (iSeq (dBin cutTo (dVar 1) (dVar 3))) (putAt 5) (dSeq (dExpr (dCall f__law_do (dCons (dVar 0) (dCons (dVar 4) (dCons (dBin idxM (dVar 5) (dConst (.int 0))) (dCons (dBin idxM (dVar 5) (dConst (.int 1))) dNil)))))) dSkip)) (dSeq (dAssign 6 (dCall f__law_moves (dCons (dVar 0) (dCons (dVar 4) dNil)))) (dSeq (dAssign 7 (dList (dCons (dTup (dCons (dCall lenM (dCons (dVar 0) dNil)) (dCons (dConst (.str (Str.ofString "step"))) dNil))) (dCons (dTup (dCons (dNeg (dConst (.int 1))) (dCons (dConst (.str (Str.ofString "send"))) dNil))) (dCons (dTup (dCons (dConst (.int 0)) (dCons (dConst (.str (Str.ofString "stop"))) dNil))) (dCons (dTup (dCons (dConst (.int 0)) dNil)) (dCons (dTup (dCons (dConst (.int 0)) (dCons (dConst (.str (Str.ofString "step"))) (dCons (dConst (.int 1)) dNil)))) (dCons (dList (dCons (dConst (.int 0)) (dCons (dConst (.str (Str.ofString "step"))) dNil))) (dCons (dConst .none) (dCons (dConst (.int 5)) dNil)))))))))) (dSeq (dAssign 7 (dBin addM (dVar 7) (dList (dCons (dTup (dCons (dConst (.bool false)) (dCons (dConst (.str (Str.ofString "step"))) dNil))) (dCons (dTup (dCons (dConst (.str (Str.ofString "0"))) (dCons (dConst (.str (Str.ofString "step"))) dNil))) (dCons (dTup (dCons (dNeg (dConst (.int 1))) (dCons (dConst (.str (Str.ofString "step"))) dNil))) (dCons (dTup (dCons (dCall lenM (dCons (dVar 0) dNil)) (dCons (dConst (.str (Str.ofString "send"))) dNil))) (dCons (dTup (dCons (dConst (.int 0)) (dCons (dConst .none) dNil))) (dCons (dTup (dCons (dConst (.int 0)) (dCons (dConst (.str (Str.ofString ""))) dNil))) dNil))))))))) (dSeq (dAssign 8 (dBin idxM (dBin addM (dVar 7) (dList (dCons (dTup (dCons (dConst (.int 0)) (dCons (dConst (.str (Str.ofString "s"))) dNil))) (dCons (dTup (dCons (dConst (.int 0)) (dCons (dConst (.str (Str.ofString "step "))) dNil))) (dCons (dTup (dCons (dConst (.bool true)) (dCons (dConst (.str (Str.ofString "send"))) dNil))) (dCons (dTup (dCons (dConst (.int 0)) (dCons (dConst (.int 0)) dNil))) dNil)))))) (dBin fmodM (dBin fdivM (dVar 2) (dConst (.int 62))) (dConst (.int 18))))) (dSeq (dFor (iRange1 (dCall lenM (dCons (dVar 0) dNil))) (putAt 9) (dSeq (dFor (iSeq (dTup (dCons (dConst (.str (Str.ofString "step"))) (dCons (dConst (.str (Str.ofString "send"))) dNil)))) (putAt 10) (dSeq (dIfS (dAnd (dBin notInM (dTup (dCons (dVar 9) (dCons (dVar 10) dNil))) (dVar 6)) (dBin eqM (dBin fmodM (dBin fdivM (dVar 2) (dConst (.int 31))) (dConst (.int 2))) (dConst (.int 0)))) (dSeq (dAssign 8 (dTup (dCons (dVar 9) (dCons (dVar 10) dNil)))) dSkip) dSkip) dSkip)) dSkip)) (dSeq (dRet (dBin eqM (dCall f__law_word (dCons (dVar 0) (dCons (dBin addM (dBin addM (dBin cutTo (dVar 1) (dVar 3)) (dList (dCons (dVar 8) dNil))) (dBin cutFrom (dVar 1) (dVar 3))) dNil))) (dConst (.str (Str.ofString "move"))))) dSkip))))))))))
noncomputable def f__law_spoilt_good : List MV → MH → Out MV := dDef 3 d__law_spoilt_good
noncomputable def sg_law : Sg := ⟨namesAt Challenge.pw_uf030029_04 39, [((Str.ofString "_law_script"), 0), ((Str.ofString "_law_web"), 1), ((Str.ofString "_law_handed"), 2), ((Str.ofString "_law_own"), 3), ((Str.ofString "_law_state"), 4), ((Str.ofString "_law_weaving"), 5), ((Str.ofString "_law_some"), 6), ((Str.ofString "_law_move"), 7), ((Str.ofString "_law_told"), 8), ((Str.ofString "_law_end_here"), 9)], true⟩
theorem V_law : VarsOk sg_law.vars := VarsOk.of (by decide +kernel) (by decide +kernel)
theorem v_law__law_script {C : Cx} {q : Bool} {n : Nat} {pos : Pos} : ESound C q n sg_law (.Name (Str.ofString "_law_script") pos) (dVar 0) := snd_var (by decide +kernel) (.inl (by decide +kernel)) (by decide +kernel)
theorem v_law__law_web {C : Cx} {q : Bool} {n : Nat} {pos : Pos} : ESound C q n sg_law (.Name (Str.ofString "_law_web") pos) (dVar 1) := snd_var (by decide +kernel) (.inl (by decide +kernel)) (by decide +kernel)
theorem v_law__law_handed {C : Cx} {q : Bool} {n : Nat} {pos : Pos} : ESound C q n sg_law (.Name (Str.ofString "_law_handed") pos) (dVar 2) := snd_var (by decide +kernel) (.inl (by decide +kernel)) (by decide +kernel)
theorem v_law__law_own {C : Cx} {q : Bool} {n : Nat} {pos : Pos} : ESound C q n sg_law (.Name (Str.ofString "_law_own") pos) (dVar 3) := snd_var (by decide +kernel) (.inl (by decide +kernel)) (by decide +kernel)
theorem v_law__law_state {C : Cx} {q : Bool} {n : Nat} {pos : Pos} : ESound C q n sg_law (.Name (Str.ofString "_law_state") pos) (dVar 4) := snd_var (by decide +kernel) (.inl (by decide +kernel)) (by decide +kernel)
theorem v_law__law_weaving {C : Cx} {q : Bool} {n : Nat} {pos : Pos} : ESound C q n sg_law (.Name (Str.ofString "_law_weaving") pos) (dVar 5) := snd_var (by decide +kernel) (.inl (by decide +kernel)) (by decide +kernel)
theorem v_law__law_some {C : Cx} {q : Bool} {n : Nat} {pos : Pos} : ESound C q n sg_law (.Name (Str.ofString "_law_some") pos) (dVar 6) := snd_var (by decide +kernel) (.inl (by decide +kernel)) (by decide +kernel)
theorem v_law__law_move {C : Cx} {q : Bool} {n : Nat} {pos : Pos} : ESound C q n sg_law (.Name (Str.ofString "_law_move") pos) (dVar 7) := snd_var (by decide +kernel) (.inl (by decide +kernel)) (by decide +kernel)
theorem v_law__law_told {C : Cx} {q : Bool} {n : Nat} {pos : Pos} : ESound C q n sg_law (.Name (Str.ofString "_law_told") pos) (dVar 8) := snd_var (by decide +kernel) (.inl (by decide +kernel)) (by decide +kernel)
theorem v_law__law_end_here {C : Cx} {q : Bool} {n : Nat} {pos : Pos} : ESound C q n sg_law (.Name (Str.ofString "_law_end_here") pos) (dVar 9) := snd_var (by decide +kernel) (.inl (by decide +kernel)) (by decide +kernel)
noncomputable def d_law : DS := (dSeq (dAssign 1 (dCall f__law_web_by (dCons (dVar 0) dNil))) (dSeq (dAssign 2 (dComp (iSeq (dVar 1)) (dConst (.bool true)) (dCall listM (dCons (dVar 10) dNil)) 10)) (dSeq (dAssign 3 (dCall f__law_begun (dCons (dVar 1) dNil))) (dSeq (dAssign 4 (dCall f_begun (dCons (dVar 2) dNil))) (dSeq (dAssign 5 (dList dNil)) (dSeq (dIfS (dNot (dCall f__law_over_good (dCons (dVar 2) (dCons (dVar 4) (dCons (dVar 3) dNil))))) (dSeq (dRet (dConst (.bool false))) dSkip) dSkip) (dSeq (dWhile 40 (dBin neM (dCall f__law_moves (dCons (dVar 1) (dCons (dVar 3) dNil))) (dList dNil)) (dSeq (dAssign 6 (dCall f__law_moves (dCons (dVar 1) (dCons (dVar 3) dNil)))) (dSeq (dAssign 7 (dBin idxM (dVar 6) (dBin fmodM (dBin addM (dCall f__law_cell_at (dCons (dVar 0) (dCons (dBin addM (dConst (.int 10)) (dBin fmodM (dCall lenM (dCons (dVar 5) dNil)) (dConst (.int 40)))) dNil))) (dCall lenM (dCons (dVar 5) dNil))) (dCall lenM (dCons (dVar 6) dNil))))) (dSeq (dExpr (dAppend (dVar 5) (dVar 7))) (dSeq (dExpr (dCall f__law_do (dCons (dVar 1) (dCons (dVar 3) (dCons (dBin idxM (dVar 7) (dConst (.int 0))) (dCons (dBin idxM (dVar 7) (dConst (.int 1))) dNil)))))) (dSeq (dAssign 4 (dCall f_moved (dCons (dVar 2) (dCons (dVar 4) (dCons (dVar 7) dNil))))) (dSeq (dIfS (dNot (dCall f__law_over_good (dCons (dVar 2) (dCons (dVar 4) (dCons (dVar 3) dNil))))) (dSeq (dRet (dConst (.bool false))) dSkip) dSkip) dSkip))))))) (dSeq (dAssign 8 (dCall listM (dCons (dVar 5) dNil))) (dSeq (dAssign 9 (dCall f_woven (dCons (dVar 2) (dCons (dVar 8) dNil)))) (dSeq (dIfS (dOr (dNot (dOp1 (isiM .tuple) (dVar 9))) (dOr (dBin neM (dVar 9) (dCall f__law_end (dCons (dVar 3) dNil))) (dOr (dBin neM (dVar 8) (dVar 5)) (dBin neM (dVar 2) (dVar 1))))) (dSeq (dRet (dConst (.bool false))) dSkip) dSkip) (dSeq (dRet (dCall f__law_spoilt_good (dCons (dVar 2) (dCons (dVar 5) (dCons (dCall f__law_cell_at (dCons (dVar 0) (dCons (dConst (.int 9)) dNil))) dNil))))) dSkip)))))))))))
noncomputable def f_law : List MV → MH → Out MV := dDef 1 d_law
structure Env (C : Cx) : Prop where
  co : CxOk C
  fn_is_whole : FnIs C (Str.ofString "is_whole") (bodyAt Challenge.pw_uf030029_04 12) [(Str.ofString "thing")] sg_is_whole
  fn_is_box : FnIs C (Str.ofString "is_box") (bodyAt Challenge.pw_uf030029_04 13) [(Str.ofString "thing")] sg_is_box
  fn_is_step : FnIs C (Str.ofString "is_step") (bodyAt Challenge.pw_uf030029_04 14) [(Str.ofString "thing")] sg_is_step
  fn_need_web : FnIs C (Str.ofString "need_web") (bodyAt Challenge.pw_uf030029_04 15) [(Str.ofString "web")] sg_need_web
  fn_begun : FnIs C (Str.ofString "begun") (bodyAt Challenge.pw_uf030029_04 17) [(Str.ofString "web")] sg_begun
  fn_can : FnIs C (Str.ofString "can") (bodyAt Challenge.pw_uf030029_04 18) [(Str.ofString "web"), (Str.ofString "state"), (Str.ofString "move")] sg_can
  fn_changed : FnIs C (Str.ofString "changed") (bodyAt Challenge.pw_uf030029_04 19) [(Str.ofString "row"), (Str.ofString "at"), (Str.ofString "thing")] sg_changed
  fn_seen : FnIs C (Str.ofString "seen") (bodyAt Challenge.pw_uf030029_04 20) [(Str.ofString "state"), (Str.ofString "hand"), (Str.ofString "box")] sg_seen
  fn_moved : FnIs C (Str.ofString "moved") (bodyAt Challenge.pw_uf030029_04 21) [(Str.ofString "web"), (Str.ofString "state"), (Str.ofString "move")] sg_moved
  fn_is_over : FnIs C (Str.ofString "is_over") (bodyAt Challenge.pw_uf030029_04 22) [(Str.ofString "web"), (Str.ofString "state")] sg_is_over
  fn_end_of : FnIs C (Str.ofString "end_of") (bodyAt Challenge.pw_uf030029_04 23) [(Str.ofString "web"), (Str.ofString "state")] sg_end_of
  fn_woven : FnIs C (Str.ofString "woven") (bodyAt Challenge.pw_uf030029_04 25) [(Str.ofString "web"), (Str.ofString "weaving")] sg_woven
  fn__law_cell_at : FnIs C (Str.ofString "_law_cell_at") (bodyAt Challenge.pw_uf030029_04 27) [(Str.ofString "_law_script"), (Str.ofString "_law_k")] sg__law_cell_at
  fn__law_number_by : FnIs C (Str.ofString "_law_number_by") (bodyAt Challenge.pw_uf030029_04 28) [(Str.ofString "_law_cell")] sg__law_number_by
  fn__law_step_by : FnIs C (Str.ofString "_law_step_by") (bodyAt Challenge.pw_uf030029_04 29) [(Str.ofString "_law_cell"), (Str.ofString "_law_boxes")] sg__law_step_by
  fn__law_web_by : FnIs C (Str.ofString "_law_web_by") (bodyAt Challenge.pw_uf030029_04 30) [(Str.ofString "_law_script")] sg__law_web_by
  fn__law_begun : FnIs C (Str.ofString "_law_begun") (bodyAt Challenge.pw_uf030029_04 31) [(Str.ofString "_law_web")] sg__law_begun
  fn__law_can : FnIs C (Str.ofString "_law_can") (bodyAt Challenge.pw_uf030029_04 32) [(Str.ofString "_law_web"), (Str.ofString "_law_own"), (Str.ofString "_law_hand"), (Str.ofString "_law_kind")] sg__law_can
  fn__law_do : FnIs C (Str.ofString "_law_do") (bodyAt Challenge.pw_uf030029_04 33) [(Str.ofString "_law_web"), (Str.ofString "_law_own"), (Str.ofString "_law_hand"), (Str.ofString "_law_kind")] sg__law_do
  fn__law_moves : FnIs C (Str.ofString "_law_moves") (bodyAt Challenge.pw_uf030029_04 34) [(Str.ofString "_law_web"), (Str.ofString "_law_own")] sg__law_moves
  fn__law_end : FnIs C (Str.ofString "_law_end") (bodyAt Challenge.pw_uf030029_04 35) [(Str.ofString "_law_own")] sg__law_end
  fn__law_word : FnIs C (Str.ofString "_law_word") (bodyAt Challenge.pw_uf030029_04 36) [(Str.ofString "_law_web"), (Str.ofString "_law_weaving")] sg__law_word
  fn__law_over_good : FnIs C (Str.ofString "_law_over_good") (bodyAt Challenge.pw_uf030029_04 37) [(Str.ofString "_law_web"), (Str.ofString "_law_state"), (Str.ofString "_law_own")] sg__law_over_good
  fn__law_spoilt_good : FnIs C (Str.ofString "_law_spoilt_good") (bodyAt Challenge.pw_uf030029_04 38) [(Str.ofString "_law_web"), (Str.ofString "_law_weaving"), (Str.ofString "_law_cell")] sg__law_spoilt_good
  fn_law : FnIs C (Str.ofString "law") (bodyAt Challenge.pw_uf030029_04 39) [(Str.ofString "_law_script")] sg_law
  g_BOXES : ∃ t, C.mg (Str.ofString "BOXES") = some (.int 4 t)
  g_MOST_ROWS : ∃ t, C.mg (Str.ofString "MOST_ROWS") = some (.int 3 t)
  g_MOST_DEEDS : ∃ t, C.mg (Str.ofString "MOST_DEEDS") = some (.int 8 t)
  g_TOO_GREAT : ∃ t, C.mg (Str.ofString "TOO_GREAT") = some (.int 1000000000000000000000000000000 t)
  b_ValueError : C.mg (Str.ofString "ValueError") = none ∧ C.mb (Str.ofString "ValueError") = some (.type "ValueError")
  b_bool : C.mg (Str.ofString "bool") = none ∧ C.mb (Str.ofString "bool") = some (.type "bool")
  b_enumerate : C.mg (Str.ofString "enumerate") = none ∧ C.mb (Str.ofString "enumerate") = some (.type "enumerate")
  b_int : C.mg (Str.ofString "int") = none ∧ C.mb (Str.ofString "int") = some (.type "int")
  b_isinstance : C.mg (Str.ofString "isinstance") = none ∧ C.mb (Str.ofString "isinstance") = some (.builtin "isinstance")
  b_len : C.mg (Str.ofString "len") = none ∧ C.mb (Str.ofString "len") = some (.builtin "len")
  b_list : C.mg (Str.ofString "list") = none ∧ C.mb (Str.ofString "list") = some (.type "list")
  b_range : C.mg (Str.ofString "range") = none ∧ C.mb (Str.ofString "range") = some (.type "range")
  b_str : C.mg (Str.ofString "str") = none ∧ C.mb (Str.ofString "str") = some (.type "str")
  b_tuple : C.mg (Str.ofString "tuple") = none ∧ C.mb (Str.ofString "tuple") = some (.type "tuple")
  exc : ExcEnv C xs
section
variable {C : Cx} (W : Env C)
include W
set_option maxHeartbeats 4000000
theorem ok_is_whole : CallOk C (Str.ofString "is_whole") 1 f_is_whole := callOk_of (n := 0) W.co W.fn_is_whole (f := d_is_whole) (ss_cons (s_ret (snd_boolop (bs_and (snd_isi W.co .int v_is_whole_thing (fun _ => rfl) (by decide +kernel) W.b_isinstance (by decide +kernel) (by decide +kernel) W.b_int (by decide +kernel)) (bs_one (snd_not (snd_isi W.co .bool v_is_whole_thing (fun _ => rfl) (by decide +kernel) W.b_isinstance (by decide +kernel) (by decide +kernel) W.b_bool (by decide +kernel))))))) ss_nil)
theorem ok_is_box : CallOk C (Str.ofString "is_box") 2 f_is_box := callOk_of (n := 1) W.co W.fn_is_box (f := d_is_box) (ss_cons (s_ret (snd_boolop (bs_and (snd_callF W.co (ok_is_whole W) (by decide +kernel) (by decide +kernel) (by decide +kernel) (snds_cons v_is_box_thing snds_nil) (fun _ => rfl)) (bs_one (snd_chain (snd_int _ _ _) v_is_box_thing (snd_gint W.co (by decide +kernel) W.g_BOXES (by decide +kernel)) op_le op_lt rfl))))) ss_nil)
theorem ok_is_step : CallOk C (Str.ofString "is_step") 3 f_is_step := callOk_of (n := 2) W.co W.fn_is_step (f := d_is_step) (ss_cons (s_if (tst_boolop (bt_or (tst_not (tst_val (snd_isi W.co .tuple v_is_step_thing (fun _ => rfl) (by decide +kernel) W.b_isinstance (by decide +kernel) (by decide +kernel) W.b_tuple (by decide +kernel)) (fun _ => rfl))) (bt_or (tst_cmp (snd_callB W.co op_len (by decide +kernel) W.b_len (by decide +kernel) (snds_cons v_is_step_thing snds_nil) (fun _ => rfl)) (snd_int _ _ _) op_eq rfl) (bt_one (tst_not (tst_val (snd_isi W.co .str (snd_idx v_is_step_thing (snd_int _ _ _) (fun _ _ => rfl)) (fun _ => rfl) (by decide +kernel) W.b_isinstance (by decide +kernel) (by decide +kernel) W.b_str (by decide +kernel)) (fun _ => rfl))))))) (ss_cons (s_ret (snd_bool _ _ _)) ss_nil) ss_nil) (ss_cons (s_if (tst_cmp (snd_idx v_is_step_thing (snd_int _ _ _) (fun _ _ => rfl)) (snd_str _ _ _) op_eq rfl) (ss_cons (s_ret (snd_cmp (snd_callB W.co op_len (by decide +kernel) W.b_len (by decide +kernel) (snds_cons v_is_step_thing snds_nil) (fun _ => rfl)) (snd_int _ _ _) op_eq rfl)) ss_nil) ss_nil) (ss_cons (s_if (tst_cmp (snd_idx v_is_step_thing (snd_int _ _ _) (fun _ _ => rfl)) (snd_str _ _ _) op_eq rfl) (ss_cons (s_ret (snd_boolop (bs_and (snd_cmp (snd_callB W.co op_len (by decide +kernel) W.b_len (by decide +kernel) (snds_cons v_is_step_thing snds_nil) (fun _ => rfl)) (snd_int _ _ _) op_eq rfl) (bs_one (snd_callF W.co (ok_is_box W) (by decide +kernel) (by decide +kernel) (by decide +kernel) (snds_cons (snd_idx v_is_step_thing (snd_int _ _ _) (fun _ _ => rfl)) snds_nil) (fun _ => rfl)))))) ss_nil) ss_nil) (ss_cons (s_if (tst_boolop (bt_or (tst_cmp (snd_idx v_is_step_thing (snd_int _ _ _) (fun _ _ => rfl)) (snd_str _ _ _) op_ne rfl) (bt_or (tst_cmp (snd_callB W.co op_len (by decide +kernel) W.b_len (by decide +kernel) (snds_cons v_is_step_thing snds_nil) (fun _ => rfl)) (snd_int _ _ _) op_ne rfl) (bt_or (tst_not (tst_val (snd_callF W.co (ok_is_box W) (by decide +kernel) (by decide +kernel) (by decide +kernel) (snds_cons (snd_idx v_is_step_thing (snd_int _ _ _) (fun _ _ => rfl)) snds_nil) (fun _ => rfl)) (fun _ => rfl))) (bt_one (tst_not (tst_val (snd_callF W.co (ok_is_whole W) (by decide +kernel) (by decide +kernel) (by decide +kernel) (snds_cons (snd_idx v_is_step_thing (snd_int _ _ _) (fun _ _ => rfl)) snds_nil) (fun _ => rfl)) (fun _ => rfl)))))))) (ss_cons (s_ret (snd_bool _ _ _)) ss_nil) ss_nil) (ss_cons (s_ret (snd_chain (snd_neg (snd_gint W.co (by decide +kernel) W.g_TOO_GREAT (by decide +kernel))) (snd_idx v_is_step_thing (snd_int _ _ _) (fun _ _ => rfl)) (snd_gint W.co (by decide +kernel) W.g_TOO_GREAT (by decide +kernel)) op_lt op_lt rfl)) ss_nil)))))
theorem ok_need_web : CallOk C (Str.ofString "need_web") 4 f_need_web := callOk_of (n := 3) W.co W.fn_need_web (f := d_need_web) (ss_cons (s_if (tst_boolop (bt_or (tst_not (tst_val (snd_isi W.co .list v_need_web_web (fun _ => rfl) (by decide +kernel) W.b_isinstance (by decide +kernel) (by decide +kernel) W.b_list (by decide +kernel)) (fun _ => rfl))) (bt_one (tst_not (tst_chain (snd_int _ _ _) (snd_callB W.co op_len (by decide +kernel) W.b_len (by decide +kernel) (snds_cons v_need_web_web snds_nil) (fun _ => rfl)) (snd_gint W.co (by decide +kernel) W.g_MOST_ROWS (by decide +kernel)) op_le op_le rfl))))) (ss_cons (s_raise W.co W.exc (by decide +kernel) (snd_str _ _ _) (fun _ => rfl) (by decide +kernel) (by decide +kernel)) ss_nil) ss_nil) (ss_cons (s_assign (snd_int _ _ _) V_need_web (by decide +kernel) (.inl (by decide +kernel)) (fun _ _ _ => rfl)) (ss_cons (s_for (is_seq v_need_web_web ⟨V_need_web, (by decide +kernel), .inl (by decide +kernel)⟩) (ss_cons (s_if (tst_not (tst_val (snd_isi W.co .list v_need_web_row (fun _ => rfl) (by decide +kernel) W.b_isinstance (by decide +kernel) (by decide +kernel) W.b_list (by decide +kernel)) (fun _ => rfl))) (ss_cons (s_raise W.co W.exc (by decide +kernel) (snd_str _ _ _) (fun _ => rfl) (by decide +kernel) (by decide +kernel)) ss_nil) ss_nil) (ss_cons (s_for (is_seq v_need_web_row ⟨V_need_web, (by decide +kernel), .inl (by decide +kernel)⟩) (ss_cons (s_if (tst_not (tst_val (snd_callF W.co (ok_is_step W) (by decide +kernel) (by decide +kernel) (by decide +kernel) (snds_cons v_need_web_step snds_nil) (fun _ => rfl)) (fun _ => rfl))) (ss_cons (s_raise W.co W.exc (by decide +kernel) (snd_str _ _ _) (fun _ => rfl) (by decide +kernel) (by decide +kernel)) ss_nil) ss_nil) (ss_cons (s_if (tst_cmp (snd_idx v_need_web_step (snd_int _ _ _) (fun _ _ => rfl)) (snd_str _ _ _) op_ne rfl) (ss_cons (s_assign (snd_bin v_need_web_deeds (snd_int _ _ _) op_add) V_need_web (by decide +kernel) (.inl (by decide +kernel)) (fun _ _ _ => rfl)) ss_nil) ss_nil) ss_nil)) rfl (fun _ _ => rfl)) ss_nil)) rfl (fun _ _ => rfl)) (ss_cons (s_if (tst_cmp v_need_web_deeds (snd_gint W.co (by decide +kernel) W.g_MOST_DEEDS (by decide +kernel)) op_gt rfl) (ss_cons (s_raise W.co W.exc (by decide +kernel) (snd_str _ _ _) (fun _ => rfl) (by decide +kernel) (by decide +kernel)) ss_nil) ss_nil) (ss_cons (s_ret v_need_web_web) ss_nil)))))
theorem ok_begun : CallOk C (Str.ofString "begun") 5 f_begun := callOk_of (n := 4) W.co W.fn_begun (f := d_begun) (ss_cons (s_expr (snd_callF W.co (ok_need_web W) (by decide +kernel) (by decide +kernel) (by decide +kernel) (snds_cons v_begun_web snds_nil) (fun _ => rfl)) (fun _ => rfl)) (ss_cons (s_assign (snd_callB W.co op_len (by decide +kernel) W.b_len (by decide +kernel) (snds_cons v_begun_web snds_nil) (fun _ => rfl)) V_begun (by decide +kernel) (.inl (by decide +kernel)) (fun _ _ _ => rfl)) (ss_cons (s_ret (snd_tuple (snds_cons (snd_callT W.co op_tuple (by decide +kernel) W.b_tuple (by decide +kernel) (snds_cons (snd_bin (snd_list (snds_cons (snd_int _ _ _) snds_nil) (fun _ => rfl) (by decide +kernel)) v_begun_many op_mul) snds_nil) (fun _ => rfl)) (snds_cons (snd_callT W.co op_tuple (by decide +kernel) W.b_tuple (by decide +kernel) (snds_cons (snd_bin (snd_list (snds_cons (snd_tuple snds_nil (fun _ => rfl) (by decide +kernel)) snds_nil) (fun _ => rfl) (by decide +kernel)) v_begun_many op_mul) snds_nil) (fun _ => rfl)) (snds_cons (snd_callT W.co op_tuple (by decide +kernel) W.b_tuple (by decide +kernel) (snds_cons (snd_bin (snd_list (snds_cons (snd_int _ _ _) snds_nil) (fun _ => rfl) (by decide +kernel)) (snd_gint W.co (by decide +kernel) W.g_BOXES (by decide +kernel)) op_mul) snds_nil) (fun _ => rfl)) (snds_cons (snd_callT W.co op_tuple (by decide +kernel) W.b_tuple (by decide +kernel) (snds_cons (snd_bin (snd_list (snds_cons (snd_tuple snds_nil (fun _ => rfl) (by decide +kernel)) snds_nil) (fun _ => rfl) (by decide +kernel)) v_begun_many op_mul) snds_nil) (fun _ => rfl)) snds_nil)))) (fun _ => rfl) (by decide +kernel))) ss_nil)))
theorem ok_can : CallOk C (Str.ofString "can") 2 f_can := callOk_of (n := 1) W.co W.fn_can (f := d_can) (ss_cons (s_if (tst_boolop (bt_or (tst_not (tst_val (snd_isi W.co .tuple v_can_move (fun _ => rfl) (by decide +kernel) W.b_isinstance (by decide +kernel) (by decide +kernel) W.b_tuple (by decide +kernel)) (fun _ => rfl))) (bt_or (tst_cmp (snd_callB W.co op_len (by decide +kernel) W.b_len (by decide +kernel) (snds_cons v_can_move snds_nil) (fun _ => rfl)) (snd_int _ _ _) op_ne rfl) (bt_or (tst_not (tst_val (snd_callF W.co (ok_is_whole W) (by decide +kernel) (by decide +kernel) (by decide +kernel) (snds_cons (snd_idx v_can_move (snd_int _ _ _) (fun _ _ => rfl)) snds_nil) (fun _ => rfl)) (fun _ => rfl))) (bt_one (tst_not (tst_val (snd_isi W.co .str (snd_idx v_can_move (snd_int _ _ _) (fun _ _ => rfl)) (fun _ => rfl) (by decide +kernel) W.b_isinstance (by decide +kernel) (by decide +kernel) W.b_str (by decide +kernel)) (fun _ => rfl)))))))) (ss_cons (s_ret (snd_bool _ _ _)) ss_nil) ss_nil) (ss_cons (s_assign (snd_idx v_can_move (snd_int _ _ _) (fun _ _ => rfl)) V_can (by decide +kernel) (.inl (by decide +kernel)) (fun _ _ _ => rfl)) (ss_cons (s_if (tst_not (tst_chain (snd_int _ _ _) v_can_hand (snd_callB W.co op_len (by decide +kernel) W.b_len (by decide +kernel) (snds_cons v_can_web snds_nil) (fun _ => rfl)) op_le op_lt rfl)) (ss_cons (s_ret (snd_bool _ _ _)) ss_nil) ss_nil) (ss_cons (s_assign (snd_idx (snd_idx v_can_state (snd_int _ _ _) (fun _ _ => rfl)) v_can_hand (fun _ _ => rfl)) V_can (by decide +kernel) (.inl (by decide +kernel)) (fun _ _ _ => rfl)) (ss_cons (s_if (tst_cmp (snd_idx v_can_move (snd_int _ _ _) (fun _ _ => rfl)) (snd_str _ _ _) op_eq rfl) (ss_cons (s_ret (snd_cmp (snd_callB W.co op_len (by decide +kernel) W.b_len (by decide +kernel) (snds_cons v_can_line snds_nil) (fun _ => rfl)) (snd_int _ _ _) op_gt rfl)) ss_nil) ss_nil) (ss_cons (s_if (tst_boolop (bt_or (tst_cmp (snd_idx v_can_move (snd_int _ _ _) (fun _ _ => rfl)) (snd_str _ _ _) op_ne rfl) (bt_one (tst_cmp (snd_idx (snd_idx v_can_state (snd_int _ _ _) (fun _ _ => rfl)) v_can_hand (fun _ _ => rfl)) (snd_callB W.co op_len (by decide +kernel) W.b_len (by decide +kernel) (snds_cons (snd_idx v_can_web v_can_hand (fun _ _ => rfl)) snds_nil) (fun _ => rfl)) op_ge rfl)))) (ss_cons (s_ret (snd_bool _ _ _)) ss_nil) ss_nil) (ss_cons (s_ret (snd_boolop (bs_or (snd_cmp (snd_idx (snd_idx (snd_idx v_can_web v_can_hand (fun _ _ => rfl)) (snd_idx (snd_idx v_can_state (snd_int _ _ _) (fun _ _ => rfl)) v_can_hand (fun _ _ => rfl)) (fun _ _ => rfl)) (snd_int _ _ _) (fun _ _ => rfl)) (snd_str _ _ _) op_ne rfl) (bs_one (snd_cmp (snd_callB W.co op_len (by decide +kernel) W.b_len (by decide +kernel) (snds_cons v_can_line snds_nil) (fun _ => rfl)) (snd_int _ _ _) op_eq rfl))))) ss_nil)))))))
theorem ok_changed : CallOk C (Str.ofString "changed") 1 f_changed := callOk_of (n := 0) W.co W.fn_changed (f := d_changed) (ss_cons (s_ret (snd_bin (snd_bin (snd_upto v_changed_row v_changed_at) (snd_tuple (snds_cons v_changed_thing snds_nil) (fun _ => rfl) (by decide +kernel)) op_add) (snd_from v_changed_row (snd_bin v_changed_at (snd_int _ _ _) op_add)) op_add)) ss_nil)
theorem ok_seen : CallOk C (Str.ofString "seen") 1 f_seen := callOk_of (n := 0) W.co W.fn_seen (f := d_seen) (ss_cons (s_assign (snd_idx (snd_idx v_seen_state (snd_int _ _ _) (fun _ _ => rfl)) v_seen_box (fun _ _ => rfl)) V_seen (by decide +kernel) (.inl (by decide +kernel)) (fun _ _ _ => rfl)) (ss_cons (s_for (is_seq (snd_idx (snd_idx v_seen_state (snd_int _ _ _) (fun _ _ => rfl)) v_seen_hand (fun _ _ => rfl)) ⟨V_seen, (by decide +kernel), .inl (by decide +kernel)⟩) (ss_cons (s_if (tst_cmp (snd_idx v_seen_pair (snd_int _ _ _) (fun _ _ => rfl)) v_seen_box op_eq rfl) (ss_cons (s_assign (snd_idx v_seen_pair (snd_int _ _ _) (fun _ _ => rfl)) V_seen (by decide +kernel) (.inl (by decide +kernel)) (fun _ _ _ => rfl)) ss_nil) ss_nil) ss_nil) rfl (fun _ _ => rfl)) (ss_cons (s_ret v_seen_found) ss_nil)))
theorem ok_moved : CallOk C (Str.ofString "moved") 3 f_moved := callOk_of (n := 2) W.co W.fn_moved (f := d_moved) (ss_cons (s_if (tst_not (tst_val (snd_callF W.co (ok_can W) (by decide +kernel) (by decide +kernel) (by decide +kernel) (snds_cons v_moved_web (snds_cons v_moved_state (snds_cons v_moved_move snds_nil))) (fun _ => rfl)) (fun _ => rfl))) (ss_cons (s_raise W.co W.exc (by decide +kernel) (snd_str _ _ _) (fun _ => rfl) (by decide +kernel) (by decide +kernel)) ss_nil) ss_nil) (ss_cons (s_assign (snd_idx v_moved_move (snd_int _ _ _) (fun _ _ => rfl)) V_moved (by decide +kernel) (.inl (by decide +kernel)) (fun _ _ _ => rfl)) (ss_cons (s_assign (snd_idx v_moved_state (snd_int _ _ _) (fun _ _ => rfl)) V_moved (by decide +kernel) (.inl (by decide +kernel)) (fun _ _ _ => rfl)) (ss_cons (s_assign (snd_idx v_moved_state (snd_int _ _ _) (fun _ _ => rfl)) V_moved (by decide +kernel) (.inl (by decide +kernel)) (fun _ _ _ => rfl)) (ss_cons (s_assign (snd_idx v_moved_state (snd_int _ _ _) (fun _ _ => rfl)) V_moved (by decide +kernel) (.inl (by decide +kernel)) (fun _ _ _ => rfl)) (ss_cons (s_assign (snd_idx v_moved_state (snd_int _ _ _) (fun _ _ => rfl)) V_moved (by decide +kernel) (.inl (by decide +kernel)) (fun _ _ _ => rfl)) (ss_cons (s_if (tst_cmp (snd_idx v_moved_move (snd_int _ _ _) (fun _ _ => rfl)) (snd_str _ _ _) op_eq rfl) (ss_cons (s_assign (snd_idx (snd_idx v_moved_lines v_moved_hand (fun _ _ => rfl)) (snd_int _ _ _) (fun _ _ => rfl)) V_moved (by decide +kernel) (.inl (by decide +kernel)) (fun _ _ _ => rfl)) (ss_cons (s_ret (snd_tuple (snds_cons v_moved_done (snds_cons (snd_callF W.co (ok_changed W) (by decide +kernel) (by decide +kernel) (by decide +kernel) (snds_cons v_moved_lines (snds_cons v_moved_hand (snds_cons (snd_from (snd_idx v_moved_lines v_moved_hand (fun _ _ => rfl)) (snd_int _ _ _)) snds_nil))) (fun _ => rfl)) (snds_cons (snd_callF W.co (ok_changed W) (by decide +kernel) (by decide +kernel) (by decide +kernel) (snds_cons v_moved_boxes (snds_cons (snd_idx v_moved_pair (snd_int _ _ _) (fun _ _ => rfl)) (snds_cons (snd_idx v_moved_pair (snd_int _ _ _) (fun _ _ => rfl)) snds_nil))) (fun _ => rfl)) (snds_cons v_moved_got snds_nil)))) (fun _ => rfl) (by decide +kernel))) ss_nil)) ss_nil) (ss_cons (s_assign (snd_idx (snd_idx v_moved_web v_moved_hand (fun _ _ => rfl)) (snd_idx v_moved_done v_moved_hand (fun _ _ => rfl)) (fun _ _ => rfl)) V_moved (by decide +kernel) (.inl (by decide +kernel)) (fun _ _ _ => rfl)) (ss_cons (s_if (tst_cmp (snd_idx v_moved_step (snd_int _ _ _) (fun _ _ => rfl)) (snd_str _ _ _) op_eq rfl) (ss_cons (s_assign (snd_callF W.co (ok_changed W) (by decide +kernel) (by decide +kernel) (by decide +kernel) (snds_cons v_moved_lines (snds_cons v_moved_hand (snds_cons (snd_bin (snd_idx v_moved_lines v_moved_hand (fun _ _ => rfl)) (snd_tuple (snds_cons (snd_tuple (snds_cons (snd_idx v_moved_step (snd_int _ _ _) (fun _ _ => rfl)) (snds_cons (snd_idx v_moved_step (snd_int _ _ _) (fun _ _ => rfl)) snds_nil)) (fun _ => rfl) (by decide +kernel)) snds_nil) (fun _ => rfl) (by decide +kernel)) op_add) snds_nil))) (fun _ => rfl)) V_moved (by decide +kernel) (.inl (by decide +kernel)) (fun _ _ _ => rfl)) ss_nil) (ss_cons (s_if (tst_cmp (snd_idx v_moved_step (snd_int _ _ _) (fun _ _ => rfl)) (snd_str _ _ _) op_eq rfl) (ss_cons (s_assign (snd_callF W.co (ok_changed W) (by decide +kernel) (by decide +kernel) (by decide +kernel) (snds_cons v_moved_got (snds_cons v_moved_hand (snds_cons (snd_bin (snd_idx v_moved_got v_moved_hand (fun _ _ => rfl)) (snd_tuple (snds_cons (snd_callF W.co (ok_seen W) (by decide +kernel) (by decide +kernel) (by decide +kernel) (snds_cons v_moved_state (snds_cons v_moved_hand (snds_cons (snd_idx v_moved_step (snd_int _ _ _) (fun _ _ => rfl)) snds_nil))) (fun _ => rfl)) snds_nil) (fun _ => rfl) (by decide +kernel)) op_add) snds_nil))) (fun _ => rfl)) V_moved (by decide +kernel) (.inl (by decide +kernel)) (fun _ _ _ => rfl)) ss_nil) ss_nil) ss_nil)) (ss_cons (s_ret (snd_tuple (snds_cons (snd_callF W.co (ok_changed W) (by decide +kernel) (by decide +kernel) (by decide +kernel) (snds_cons v_moved_done (snds_cons v_moved_hand (snds_cons (snd_bin (snd_idx v_moved_done v_moved_hand (fun _ _ => rfl)) (snd_int _ _ _) op_add) snds_nil))) (fun _ => rfl)) (snds_cons v_moved_lines (snds_cons v_moved_boxes (snds_cons v_moved_got snds_nil)))) (fun _ => rfl) (by decide +kernel))) ss_nil))))))))))
theorem ok_is_over : CallOk C (Str.ofString "is_over") 1 f_is_over := callOk_of (n := 0) W.co W.fn_is_over (f := d_is_over) (ss_cons (s_for (is_enum W.co v_is_over_web (fun _ => rfl) ⟨V_is_over, (by decide +kernel), .inl (by decide +kernel)⟩ ⟨V_is_over, (by decide +kernel), .inl (by decide +kernel)⟩ (by decide +kernel) W.b_enumerate (by decide +kernel)) (ss_cons (s_if (tst_boolop (bt_or (tst_cmp (snd_idx (snd_idx v_is_over_state (snd_int _ _ _) (fun _ _ => rfl)) v_is_over_hand (fun _ _ => rfl)) (snd_callB W.co op_len (by decide +kernel) W.b_len (by decide +kernel) (snds_cons v_is_over_row snds_nil) (fun _ => rfl)) op_lt rfl) (bt_one (tst_cmp (snd_callB W.co op_len (by decide +kernel) W.b_len (by decide +kernel) (snds_cons (snd_idx (snd_idx v_is_over_state (snd_int _ _ _) (fun _ _ => rfl)) v_is_over_hand (fun _ _ => rfl)) snds_nil) (fun _ => rfl)) (snd_int _ _ _) op_gt rfl)))) (ss_cons (s_ret (snd_bool _ _ _)) ss_nil) ss_nil) ss_nil) rfl (fun _ _ => rfl)) (ss_cons (s_ret (snd_bool _ _ _)) ss_nil))
theorem ok_end_of : CallOk C (Str.ofString "end_of") 2 f_end_of := callOk_of (n := 1) W.co W.fn_end_of (f := d_end_of) (ss_cons (s_if (tst_not (tst_val (snd_callF W.co (ok_is_over W) (by decide +kernel) (by decide +kernel) (by decide +kernel) (snds_cons v_end_of_web (snds_cons v_end_of_state snds_nil)) (fun _ => rfl)) (fun _ => rfl))) (ss_cons (s_raise W.co W.exc (by decide +kernel) (snd_str _ _ _) (fun _ => rfl) (by decide +kernel) (by decide +kernel)) ss_nil) ss_nil) (ss_cons (s_ret (snd_tuple (snds_cons (snd_idx v_end_of_state (snd_int _ _ _) (fun _ _ => rfl)) (snds_cons (snd_idx v_end_of_state (snd_int _ _ _) (fun _ _ => rfl)) snds_nil)) (fun _ => rfl) (by decide +kernel))) ss_nil))
theorem ok_woven : CallOk C (Str.ofString "woven") 6 f_woven := callOk_of (n := 5) W.co W.fn_woven (f := d_woven) (ss_cons (s_assign (snd_callF W.co (ok_begun W) (by decide +kernel) (by decide +kernel) (by decide +kernel) (snds_cons v_woven_web snds_nil) (fun _ => rfl)) V_woven (by decide +kernel) (.inl (by decide +kernel)) (fun _ _ _ => rfl)) (ss_cons (s_for (is_seq v_woven_weaving ⟨V_woven, (by decide +kernel), .inl (by decide +kernel)⟩) (ss_cons (s_assign (snd_callF W.co (ok_moved W) (by decide +kernel) (by decide +kernel) (by decide +kernel) (snds_cons v_woven_web (snds_cons v_woven_state (snds_cons v_woven_move snds_nil))) (fun _ => rfl)) V_woven (by decide +kernel) (.inl (by decide +kernel)) (fun _ _ _ => rfl)) ss_nil) rfl (fun _ _ => rfl)) (ss_cons (s_ret (snd_callF W.co (ok_end_of W) (by decide +kernel) (by decide +kernel) (by decide +kernel) (snds_cons v_woven_web (snds_cons v_woven_state snds_nil)) (fun _ => rfl))) ss_nil)))
theorem ok__law_cell_at : CallOk C (Str.ofString "_law_cell_at") 1 f__law_cell_at := callOk_of (n := 0) W.co W.fn__law_cell_at (f := d__law_cell_at) (ss_cons (s_if (tst_cmp v__law_cell_at__law_k (snd_callB W.co op_len (by decide +kernel) W.b_len (by decide +kernel) (snds_cons v__law_cell_at__law_script snds_nil) (fun _ => rfl)) op_lt rfl) (ss_cons (s_ret (snd_idx v__law_cell_at__law_script v__law_cell_at__law_k (fun _ _ => rfl))) ss_nil) ss_nil) (ss_cons (s_ret (snd_int _ _ _)) ss_nil))
theorem ok__law_number_by : CallOk C (Str.ofString "_law_number_by") 1 f__law_number_by := callOk_of (n := 0) W.co W.fn__law_number_by (f := d__law_number_by) (ss_cons (s_if (tst_cmp (snd_bin v__law_number_by__law_cell (snd_int _ _ _) op_fmod) (snd_int _ _ _) op_eq rfl) (ss_cons (s_ret (snd_bin (snd_bin (snd_bin (snd_bin (snd_bin v__law_number_by__law_cell (snd_int _ _ _) op_fdiv) (snd_bin (snd_int _ _ _) (snd_int _ _ _) op_pow) op_mul) (snd_int _ _ _) op_add) (snd_bin (snd_bin (snd_int _ _ _) (snd_bin (snd_int _ _ _) (snd_int _ _ _) op_pow) op_mul) (snd_int _ _ _) op_sub) op_fmod) (snd_bin (snd_bin (snd_int _ _ _) (snd_int _ _ _) op_pow) (snd_int _ _ _) op_sub) op_sub)) ss_nil) ss_nil) (ss_cons (s_ret (snd_bin (snd_bin (snd_bin v__law_number_by__law_cell (snd_int _ _ _) op_fdiv) (snd_int _ _ _) op_fmod) (snd_int _ _ _) op_sub)) ss_nil))
theorem ok__law_step_by : CallOk C (Str.ofString "_law_step_by") 2 f__law_step_by := callOk_of (n := 1) W.co W.fn__law_step_by (f := d__law_step_by) (ss_cons (s_if (tst_cmp (snd_bin v__law_step_by__law_cell (snd_int _ _ _) op_fmod) (snd_int _ _ _) op_lt rfl) (ss_cons (s_ret (snd_tuple (snds_cons (snd_str _ _ _) (snds_cons (snd_bin (snd_bin v__law_step_by__law_cell (snd_int _ _ _) op_fdiv) v__law_step_by__law_boxes op_fmod) (snds_cons (snd_callF W.co (ok__law_number_by W) (by decide +kernel) (by decide +kernel) (by decide +kernel) (snds_cons (snd_bin v__law_step_by__law_cell (snd_int _ _ _) op_fdiv) snds_nil) (fun _ => rfl)) snds_nil))) (fun _ => rfl) (by decide +kernel))) ss_nil) ss_nil) (ss_cons (s_if (tst_cmp (snd_bin v__law_step_by__law_cell (snd_int _ _ _) op_fmod) (snd_int _ _ _) op_lt rfl) (ss_cons (s_ret (snd_tuple (snds_cons (snd_str _ _ _) (snds_cons (snd_bin (snd_bin v__law_step_by__law_cell (snd_int _ _ _) op_fdiv) v__law_step_by__law_boxes op_fmod) snds_nil)) (fun _ => rfl) (by decide +kernel))) ss_nil) ss_nil) (ss_cons (s_ret (snd_tuple (snds_cons (snd_str _ _ _) snds_nil) (fun _ => rfl) (by decide +kernel))) ss_nil)))
theorem ok__law_web_by : CallOk C (Str.ofString "_law_web_by") 3 f__law_web_by := callOk_of (n := 2) W.co W.fn__law_web_by (f := d__law_web_by) (ss_cons (s_assign (snd_callF W.co (ok__law_cell_at W) (by decide +kernel) (by decide +kernel) (by decide +kernel) (snds_cons v__law_web_by__law_script (snds_cons (snd_int _ _ _) snds_nil)) (fun _ => rfl)) V__law_web_by (by decide +kernel) (.inl (by decide +kernel)) (fun _ _ _ => rfl)) (ss_cons (s_assign (snd_callF W.co (ok__law_cell_at W) (by decide +kernel) (by decide +kernel) (by decide +kernel) (snds_cons v__law_web_by__law_script (snds_cons (snd_int _ _ _) snds_nil)) (fun _ => rfl)) V__law_web_by (by decide +kernel) (.inl (by decide +kernel)) (fun _ _ _ => rfl)) (ss_cons (s_assignComp' [((Str.ofString "_law_k"), 9)] (is_range1 W.co (snd_bin (snd_int _ _ _) (snd_bin v__law_web_by__law_first (snd_int _ _ _) op_fmod) op_add) (fun _ => rfl) ⟨VarsOk.of (by decide +kernel) (by decide +kernel), (by decide +kernel), .inl (by decide +kernel)⟩ (by decide +kernel) W.b_range (by decide +kernel)) cs_nil (snd_list snds_nil (fun _ => rfl) (by decide +kernel)) (compOk_of (by decide +kernel)) (fun _ _ => rfl) V__law_web_by (by decide +kernel) (by decide +kernel) (swap_yes (by decide +kernel))) (ss_cons (s_assign (snd_bin (snd_bin v__law_web_by__law_first (snd_int _ _ _) op_fdiv) (snd_int _ _ _) op_fmod) V__law_web_by (by decide +kernel) (.inl (by decide +kernel)) (fun _ _ _ => rfl)) (ss_cons (s_if (tst_boolop (bt_and (tst_cmp (snd_bin (snd_bin v__law_web_by__law_first (snd_int _ _ _) op_fdiv) (snd_int _ _ _) op_fmod) (snd_int _ _ _) op_eq rfl) (bt_one (tst_cmp (snd_callB W.co op_len (by decide +kernel) W.b_len (by decide +kernel) (snds_cons v__law_web_by__law_web snds_nil) (fun _ => rfl)) (snd_int _ _ _) op_gt rfl)))) (ss_cons (s_assign (snd_bin v__law_web_by__law_second (snd_int _ _ _) op_fmod) V__law_web_by (by decide +kernel) (.inl (by decide +kernel)) (fun _ _ _ => rfl)) (ss_cons (s_assign (snd_bin (snd_bin (snd_bin v__law_web_by__law_one (snd_int _ _ _) op_add) (snd_bin (snd_bin v__law_web_by__law_second (snd_int _ _ _) op_fdiv) (snd_int _ _ _) op_fmod) op_add) (snd_int _ _ _) op_fmod) V__law_web_by (by decide +kernel) (.inl (by decide +kernel)) (fun _ _ _ => rfl)) (ss_cons (s_setitem (snd_list (snds_cons (snd_tuple (snds_cons (snd_str _ _ _) (snds_cons v__law_web_by__law_one (snds_cons (snd_callF W.co (ok__law_number_by W) (by decide +kernel) (by decide +kernel) (by decide +kernel) (snds_cons (snd_bin v__law_web_by__law_second (snd_int _ _ _) op_fdiv) snds_nil) (fun _ => rfl)) snds_nil))) (fun _ => rfl) (by decide +kernel)) (snds_cons (snd_tuple (snds_cons (snd_str _ _ _) (snds_cons v__law_web_by__law_other snds_nil)) (fun _ => rfl) (by decide +kernel)) snds_nil)) (fun _ => rfl) (by decide +kernel)) v__law_web_by__law_web (snd_int _ _ _) (fun _ => rfl)) (ss_cons (s_setitem (snd_list (snds_cons (snd_tuple (snds_cons (snd_str _ _ _) (snds_cons v__law_web_by__law_other (snds_cons (snd_callF W.co (ok__law_number_by W) (by decide +kernel) (by decide +kernel) (by decide +kernel) (snds_cons (snd_bin v__law_web_by__law_second (snd_int _ _ _) op_fdiv) snds_nil) (fun _ => rfl)) snds_nil))) (fun _ => rfl) (by decide +kernel)) (snds_cons (snd_tuple (snds_cons (snd_str _ _ _) (snds_cons v__law_web_by__law_one snds_nil)) (fun _ => rfl) (by decide +kernel)) snds_nil)) (fun _ => rfl) (by decide +kernel)) v__law_web_by__law_web (snd_int _ _ _) (fun _ => rfl)) (ss_cons (s_assign (snd_bin v__law_web_by__law_many (snd_int _ _ _) op_fmod) V__law_web_by (by decide +kernel) (.inl (by decide +kernel)) (fun _ _ _ => rfl)) ss_nil))))) ss_nil) (ss_cons (s_for (is_range1 W.co v__law_web_by__law_many (fun _ => rfl) ⟨V__law_web_by, (by decide +kernel), .inl (by decide +kernel)⟩ (by decide +kernel) W.b_range (by decide +kernel)) (ss_cons (s_assign (snd_bin (snd_callF W.co (ok__law_cell_at W) (by decide +kernel) (by decide +kernel) (by decide +kernel) (snds_cons v__law_web_by__law_script (snds_cons (snd_bin (snd_int _ _ _) v__law_web_by__law_k op_add) snds_nil)) (fun _ => rfl)) (snd_bin (snd_int _ _ _) v__law_web_by__law_k op_mul) op_add) V__law_web_by (by decide +kernel) (.inl (by decide +kernel)) (fun _ _ _ => rfl)) (ss_cons (s_expr (snd_append (snd_idx v__law_web_by__law_web (snd_bin (snd_bin v__law_web_by__law_cell (snd_int _ _ _) op_fdiv) (snd_callB W.co op_len (by decide +kernel) W.b_len (by decide +kernel) (snds_cons v__law_web_by__law_web snds_nil) (fun _ => rfl)) op_fmod) (fun _ _ => rfl)) (snd_callF W.co (ok__law_step_by W) (by decide +kernel) (by decide +kernel) (by decide +kernel) (snds_cons v__law_web_by__law_cell (snds_cons (snd_bin (snd_int _ _ _) (snd_bin (snd_bin v__law_web_by__law_first (snd_int _ _ _) op_fdiv) (snd_int _ _ _) op_fmod) op_add) snds_nil)) (fun _ => rfl)) (fun _ => rfl) rfl (fun _ => rfl)) (fun _ => rfl)) ss_nil)) rfl (fun _ _ => rfl)) (ss_cons (s_ret v__law_web_by__law_web) ss_nil)))))))
theorem ok__law_begun : CallOk C (Str.ofString "_law_begun") 1 f__law_begun := callOk_of (n := 0) W.co W.fn__law_begun (f := d__law_begun) (ss_cons (s_ret (snd_list (snds_cons (snd_bin (snd_list (snds_cons (snd_int _ _ _) snds_nil) (fun _ => rfl) (by decide +kernel)) (snd_callB W.co op_len (by decide +kernel) W.b_len (by decide +kernel) (snds_cons v__law_begun__law_web snds_nil) (fun _ => rfl)) op_mul) (snds_cons (snd_comp' [((Str.ofString "_law_row"), 2)] (is_seq v__law_begun__law_web ⟨VarsOk.of (by decide +kernel) (by decide +kernel), (by decide +kernel), .inl (by decide +kernel)⟩) cs_nil (snd_list snds_nil (fun _ => rfl) (by decide +kernel)) (compOk_of (by decide +kernel)) (fun _ _ => rfl)) (snds_cons (snd_list (snds_cons (snd_int _ _ _) (snds_cons (snd_int _ _ _) (snds_cons (snd_int _ _ _) (snds_cons (snd_int _ _ _) snds_nil)))) (fun _ => rfl) (by decide +kernel)) (snds_cons (snd_comp' [((Str.ofString "_law_row"), 1)] (is_seq v__law_begun__law_web ⟨VarsOk.of (by decide +kernel) (by decide +kernel), (by decide +kernel), .inl (by decide +kernel)⟩) cs_nil (snd_list snds_nil (fun _ => rfl) (by decide +kernel)) (compOk_of (by decide +kernel)) (fun _ _ => rfl)) snds_nil)))) (fun _ => rfl) (by decide +kernel))) ss_nil)
theorem ok__law_can : CallOk C (Str.ofString "_law_can") 1 f__law_can := callOk_of (n := 0) W.co W.fn__law_can (f := d__law_can) (ss_cons (s_if (tst_cmp v__law_can__law_kind (snd_str _ _ _) op_eq rfl) (ss_cons (s_ret (snd_cmp (snd_idx (snd_idx v__law_can__law_own (snd_int _ _ _) (fun _ _ => rfl)) v__law_can__law_hand (fun _ _ => rfl)) (snd_list snds_nil (fun _ => rfl) (by decide +kernel)) op_ne rfl)) ss_nil) ss_nil) (ss_cons (s_if (tst_cmp (snd_idx (snd_idx v__law_can__law_own (snd_int _ _ _) (fun _ _ => rfl)) v__law_can__law_hand (fun _ _ => rfl)) (snd_callB W.co op_len (by decide +kernel) W.b_len (by decide +kernel) (snds_cons (snd_idx v__law_can__law_web v__law_can__law_hand (fun _ _ => rfl)) snds_nil) (fun _ => rfl)) op_eq rfl) (ss_cons (s_ret (snd_bool _ _ _)) ss_nil) ss_nil) (ss_cons (s_ret (snd_boolop (bs_or (snd_cmp (snd_idx (snd_idx (snd_idx v__law_can__law_web v__law_can__law_hand (fun _ _ => rfl)) (snd_idx (snd_idx v__law_can__law_own (snd_int _ _ _) (fun _ _ => rfl)) v__law_can__law_hand (fun _ _ => rfl)) (fun _ _ => rfl)) (snd_int _ _ _) (fun _ _ => rfl)) (snd_str _ _ _) op_ne rfl) (bs_one (snd_cmp (snd_idx (snd_idx v__law_can__law_own (snd_int _ _ _) (fun _ _ => rfl)) v__law_can__law_hand (fun _ _ => rfl)) (snd_list snds_nil (fun _ => rfl) (by decide +kernel)) op_eq rfl))))) ss_nil)))
theorem ok__law_do : CallOk C (Str.ofString "_law_do") 1 f__law_do := callOk_of (n := 0) W.co W.fn__law_do (f := d__law_do) (ss_cons (s_if (tst_cmp v__law_do__law_kind (snd_str _ _ _) op_eq rfl) (ss_cons (s_assign (snd_pop0 (snd_idx (snd_idx v__law_do__law_own (snd_int _ _ _) (fun _ _ => rfl)) v__law_do__law_hand (fun _ _ => rfl)) (fun _ => rfl) rfl) V__law_do (by decide +kernel) (.inl (by decide +kernel)) (fun _ _ _ => rfl)) (ss_cons (s_setitem (snd_idx v__law_do__law_pair (snd_int _ _ _) (fun _ _ => rfl)) (snd_idx v__law_do__law_own (snd_int _ _ _) (fun _ _ => rfl)) (snd_idx v__law_do__law_pair (snd_int _ _ _) (fun _ _ => rfl)) (fun _ => rfl)) (ss_cons s_retNone ss_nil))) ss_nil) (ss_cons (s_assign (snd_idx (snd_idx v__law_do__law_web v__law_do__law_hand (fun _ _ => rfl)) (snd_idx (snd_idx v__law_do__law_own (snd_int _ _ _) (fun _ _ => rfl)) v__law_do__law_hand (fun _ _ => rfl)) (fun _ _ => rfl)) V__law_do (by decide +kernel) (.inr ⟨(by decide +kernel), rfl⟩) (fun _ _ _ => rfl)) (ss_cons (s_setitem (snd_bin (snd_idx (snd_idx v__law_do__law_own (snd_int _ _ _) (fun _ _ => rfl)) v__law_do__law_hand (fun _ _ => rfl)) (snd_int _ _ _) op_add) (snd_idx v__law_do__law_own (snd_int _ _ _) (fun _ _ => rfl)) v__law_do__law_hand (fun _ => rfl)) (ss_cons (s_if (tst_cmp (snd_idx v__law_do__law_step (snd_int _ _ _) (fun _ _ => rfl)) (snd_str _ _ _) op_eq rfl) (ss_cons (s_expr (snd_append (snd_idx (snd_idx v__law_do__law_own (snd_int _ _ _) (fun _ _ => rfl)) v__law_do__law_hand (fun _ _ => rfl)) (snd_tuple (snds_cons (snd_idx v__law_do__law_step (snd_int _ _ _) (fun _ _ => rfl)) (snds_cons (snd_idx v__law_do__law_step (snd_int _ _ _) (fun _ _ => rfl)) snds_nil)) (fun _ => rfl) (by decide +kernel)) (fun _ => rfl) rfl (fun _ => rfl)) (fun _ => rfl)) ss_nil) ss_nil) (ss_cons (s_if (tst_cmp (snd_idx v__law_do__law_step (snd_int _ _ _) (fun _ _ => rfl)) (snd_str _ _ _) op_eq rfl) (ss_cons (s_assignComp' [((Str.ofString "_law_pair"), 7), ((Str.ofString "_law_step"), 5)] (is_seq (snd_idx (snd_idx v__law_do__law_own (snd_int _ _ _) (fun _ _ => rfl)) v__law_do__law_hand (fun _ _ => rfl)) ⟨VarsOk.of (by decide +kernel) (by decide +kernel), (by decide +kernel), .inl (by decide +kernel)⟩) (cs_one (tst_cmp (snd_idx (snd_var (by decide +kernel) (.inl (by decide +kernel)) (by decide +kernel)) (snd_int _ _ _) (fun _ _ => rfl)) (snd_idx (snd_var (by decide +kernel) (.inr (by decide +kernel)) (by decide +kernel)) (snd_int _ _ _) (fun _ _ => rfl)) op_eq rfl)) (snd_idx (snd_var (by decide +kernel) (.inl (by decide +kernel)) (by decide +kernel)) (snd_int _ _ _) (fun _ _ => rfl)) (compOk_of (by decide +kernel)) (fun _ _ => rfl) V__law_do (by decide +kernel) (by decide +kernel) (swap_yes (by decide +kernel))) (ss_cons (s_expr (snd_append (snd_idx (snd_idx v__law_do__law_own (snd_int _ _ _) (fun _ _ => rfl)) v__law_do__law_hand (fun _ _ => rfl)) (snd_ifexp (tst_cmp v__law_do__law_mine (snd_list snds_nil (fun _ => rfl) (by decide +kernel)) op_ne rfl) (snd_idx v__law_do__law_mine (snd_neg (snd_int _ _ _)) (fun _ _ => rfl)) (snd_idx (snd_idx v__law_do__law_own (snd_int _ _ _) (fun _ _ => rfl)) (snd_idx v__law_do__law_step (snd_int _ _ _) (fun _ _ => rfl)) (fun _ _ => rfl))) (fun _ => rfl) rfl (fun _ => rfl)) (fun _ => rfl)) ss_nil)) ss_nil) ss_nil)))))
theorem ok__law_moves : CallOk C (Str.ofString "_law_moves") 2 f__law_moves := callOk_of (n := 1) W.co W.fn__law_moves (f := d__law_moves) (ss_cons (s_assign (snd_list snds_nil (fun _ => rfl) (by decide +kernel)) V__law_moves (by decide +kernel) (.inl (by decide +kernel)) (fun _ _ _ => rfl)) (ss_cons (s_for (is_range1 W.co (snd_callB W.co op_len (by decide +kernel) W.b_len (by decide +kernel) (snds_cons v__law_moves__law_web snds_nil) (fun _ => rfl)) (fun _ => rfl) ⟨V__law_moves, (by decide +kernel), .inr ⟨(by decide +kernel), rfl⟩⟩ (by decide +kernel) W.b_range (by decide +kernel)) (ss_cons (s_assign (snd_bin v__law_moves__law_some (snd_comp' [((Str.ofString "_law_kind"), 4), ((Str.ofString "_law_hand"), 3), ((Str.ofString "_law_web"), 0), ((Str.ofString "_law_own"), 1)] (is_seq (snd_tuple (snds_cons (snd_str _ _ _) (snds_cons (snd_str _ _ _) snds_nil)) (fun _ => rfl) (by decide +kernel)) ⟨VarsOk.of (by decide +kernel) (by decide +kernel), (by decide +kernel), .inl (by decide +kernel)⟩) (cs_one (tst_val (snd_callF W.co (ok__law_can W) (by decide +kernel) (by decide +kernel) (by decide +kernel) (snds_cons (snd_var (by decide +kernel) (.inr (by decide +kernel)) (by decide +kernel)) (snds_cons (snd_var (by decide +kernel) (.inr (by decide +kernel)) (by decide +kernel)) (snds_cons (snd_var (by decide +kernel) (.inr (by decide +kernel)) (by decide +kernel)) (snds_cons (snd_var (by decide +kernel) (.inl (by decide +kernel)) (by decide +kernel)) snds_nil)))) (fun _ => rfl)) (fun _ => rfl))) (snd_tuple (snds_cons (snd_var (by decide +kernel) (.inr (by decide +kernel)) (by decide +kernel)) (snds_cons (snd_var (by decide +kernel) (.inl (by decide +kernel)) (by decide +kernel)) snds_nil)) (fun _ => rfl) (by decide +kernel)) (compOk_of (by decide +kernel)) (fun _ _ => rfl)) op_add) V__law_moves (by decide +kernel) (.inl (by decide +kernel)) (fun _ _ _ => rfl)) ss_nil) rfl (fun _ _ => rfl)) (ss_cons (s_ret v__law_moves__law_some) ss_nil)))
theorem ok__law_end : CallOk C (Str.ofString "_law_end") 1 f__law_end := callOk_of (n := 0) W.co W.fn__law_end (f := d__law_end) (ss_cons (s_ret (snd_tuple (snds_cons (snd_callT W.co op_tuple (by decide +kernel) W.b_tuple (by decide +kernel) (snds_cons (snd_idx v__law_end__law_own (snd_int _ _ _) (fun _ _ => rfl)) snds_nil) (fun _ => rfl)) (snds_cons (snd_callT W.co op_tuple (by decide +kernel) W.b_tuple (by decide +kernel) (snds_cons (snd_comp' [((Str.ofString "_law_row"), 1)] (is_seq (snd_idx v__law_end__law_own (snd_int _ _ _) (fun _ _ => rfl)) ⟨VarsOk.of (by decide +kernel) (by decide +kernel), (by decide +kernel), .inl (by decide +kernel)⟩) cs_nil (snd_callT W.co op_tuple (by decide +kernel) W.b_tuple (by decide +kernel) (snds_cons (snd_var (by decide +kernel) (.inl (by decide +kernel)) (by decide +kernel)) snds_nil) (fun _ => rfl)) (compOk_of (by decide +kernel)) (fun _ _ => rfl)) snds_nil) (fun _ => rfl)) snds_nil)) (fun _ => rfl) (by decide +kernel))) ss_nil)
theorem ok__law_word : CallOk C (Str.ofString "_law_word") 7 f__law_word := callOk_of (n := 6) W.co W.fn__law_word (f := d__law_word) (ss_cons (s_tryAs W.co W.exc (xs_expr (snd_callF W.co (ok_woven W) (by decide +kernel) (by decide +kernel) (by decide +kernel) (snds_cons v__law_word__law_web (snds_cons v__law_word__law_weaving snds_nil)) (fun _ => rfl)) (fun _ => rfl)) (ss_cons (s_assign (snd_boolop (bs_or (snd_isiX W.co W.exc v__law_word_error (fun _ => rfl) (by decide +kernel) W.b_isinstance (by decide +kernel) (by decide +kernel) (by decide +kernel) (.inl ⟨(by decide +kernel), (by decide +kernel)⟩)) (bs_or (snd_isiX W.co W.exc v__law_word_error (fun _ => rfl) (by decide +kernel) W.b_isinstance (by decide +kernel) (by decide +kernel) (by decide +kernel) (.inl ⟨(by decide +kernel), (by decide +kernel)⟩)) (bs_one (snd_isiX W.co W.exc v__law_word_error (fun _ => rfl) (by decide +kernel) W.b_isinstance (by decide +kernel) (by decide +kernel) (by decide +kernel) (.inl ⟨(by decide +kernel), (by decide +kernel)⟩)))))) V__law_word (by decide +kernel) (.inl (by decide +kernel)) (fun _ _ _ => rfl)) (ss_cons (s_assign (snd_bin (snd_bin (snd_str _ _ _) (snd_callT W.co op_intOf (by decide +kernel) W.b_int (by decide +kernel) (snds_cons (snd_isiX W.co W.exc v__law_word_error (fun _ => rfl) (by decide +kernel) W.b_isinstance (by decide +kernel) (by decide +kernel) (by decide +kernel) (.inl ⟨(by decide +kernel), (by decide +kernel)⟩)) snds_nil) (fun _ => rfl)) op_mul) (snd_bin (snd_str _ _ _) (snd_callT W.co op_intOf (by decide +kernel) W.b_int (by decide +kernel) (snds_cons (snd_isiX W.co W.exc v__law_word_error (fun _ => rfl) (by decide +kernel) W.b_isinstance (by decide +kernel) (by decide +kernel) (by decide +kernel) (.inl ⟨(by decide +kernel), (by decide +kernel)⟩)) snds_nil) (fun _ => rfl)) op_mul) op_add) V__law_word (by decide +kernel) (.inl (by decide +kernel)) (fun _ _ _ => rfl)) (ss_cons (s_ret (snd_bin v__law_word__law_found (snd_bin (snd_str _ _ _) (snd_callT W.co op_intOf (by decide +kernel) W.b_int (by decide +kernel) (snds_cons (snd_boolop (bs_or v__law_word__law_other (bs_one (snd_not (snd_isiX W.co W.exc v__law_word_error (fun _ => rfl) (by decide +kernel) W.b_isinstance (by decide +kernel) (by decide +kernel) (by decide +kernel) (.inr ⟨rfl, W.b_ValueError⟩)))))) snds_nil) (fun _ => rfl)) op_mul) op_add)) ss_nil))) V__law_word (by decide +kernel) (by decide +kernel) (by decide +kernel) (by decide +kernel) (by decide +kernel) (by decide +kernel)) (ss_cons (s_ret (snd_str _ _ _)) ss_nil))
theorem ok__law_over_good : CallOk C (Str.ofString "_law_over_good") 3 f__law_over_good := callOk_of (n := 2) W.co W.fn__law_over_good (f := d__law_over_good) (ss_cons (s_assign (snd_cmp (snd_callF W.co (ok__law_moves W) (by decide +kernel) (by decide +kernel) (by decide +kernel) (snds_cons v__law_over_good__law_web (snds_cons v__law_over_good__law_own snds_nil)) (fun _ => rfl)) (snd_list snds_nil (fun _ => rfl) (by decide +kernel)) op_eq rfl) V__law_over_good (by decide +kernel) (.inl (by decide +kernel)) (fun _ _ _ => rfl)) (ss_cons (s_assign (snd_callF W.co (ok_is_over W) (by decide +kernel) (by decide +kernel) (by decide +kernel) (snds_cons v__law_over_good__law_web (snds_cons v__law_over_good__law_state snds_nil)) (fun _ => rfl)) V__law_over_good (by decide +kernel) (.inl (by decide +kernel)) (fun _ _ _ => rfl)) (ss_cons (s_if (tst_boolop (bt_or (tst_not (tst_val (snd_isi W.co .bool v__law_over_good__law_found (fun _ => rfl) (by decide +kernel) W.b_isinstance (by decide +kernel) (by decide +kernel) W.b_bool (by decide +kernel)) (fun _ => rfl))) (bt_one (tst_cmp v__law_over_good__law_found v__law_over_good__law_due op_ne rfl)))) (ss_cons (s_ret (snd_bool _ _ _)) ss_nil) ss_nil) (ss_cons (s_try W.co W.exc (xs_assign (snd_callF W.co (ok_end_of W) (by decide +kernel) (by decide +kernel) (by decide +kernel) (snds_cons v__law_over_good__law_web (snds_cons v__law_over_good__law_state snds_nil)) (fun _ => rfl)) V__law_over_good (by decide +kernel) (.inl (by decide +kernel)) (fun _ _ _ => rfl)) (ss_cons (s_ret (snd_not v__law_over_good__law_due)) ss_nil) (by decide +kernel) (by decide +kernel) (by decide +kernel) (by decide +kernel)) (ss_cons (s_ret (snd_boolop (bs_and v__law_over_good__law_due (bs_and (snd_isi W.co .tuple v__law_over_good__law_end_here (fun _ => rfl) (by decide +kernel) W.b_isinstance (by decide +kernel) (by decide +kernel) W.b_tuple (by decide +kernel)) (bs_one (snd_cmp v__law_over_good__law_end_here (snd_callF W.co (ok__law_end W) (by decide +kernel) (by decide +kernel) (by decide +kernel) (snds_cons v__law_over_good__law_own snds_nil) (fun _ => rfl)) op_eq rfl)))))) ss_nil)))))
theorem ok__law_spoilt_good : CallOk C (Str.ofString "_law_spoilt_good") 8 f__law_spoilt_good := callOk_of (n := 7) W.co W.fn__law_spoilt_good (f := d__law_spoilt_good) (ss_cons (s_assign (snd_bin v__law_spoilt_good__law_cell (snd_bin (snd_callB W.co op_len (by decide +kernel) W.b_len (by decide +kernel) (snds_cons v__law_spoilt_good__law_weaving snds_nil) (fun _ => rfl)) (snd_int _ _ _) op_add) op_fmod) V__law_spoilt_good (by decide +kernel) (.inl (by decide +kernel)) (fun _ _ _ => rfl)) (ss_cons (s_if (tst_boolop (bt_and (tst_cmp v__law_spoilt_good__law_at (snd_callB W.co op_len (by decide +kernel) W.b_len (by decide +kernel) (snds_cons v__law_spoilt_good__law_weaving snds_nil) (fun _ => rfl)) op_lt rfl) (bt_one (tst_cmp (snd_callF W.co (ok__law_word W) (by decide +kernel) (by decide +kernel) (by decide +kernel) (snds_cons v__law_spoilt_good__law_web (snds_cons (snd_upto v__law_spoilt_good__law_weaving v__law_spoilt_good__law_at) snds_nil)) (fun _ => rfl)) (snd_str _ _ _) op_ne rfl)))) (ss_cons (s_ret (snd_bool _ _ _)) ss_nil) ss_nil) (ss_cons (s_assign (snd_callF W.co (ok__law_begun W) (by decide +kernel) (by decide +kernel) (by decide +kernel) (snds_cons v__law_spoilt_good__law_web snds_nil) (fun _ => rfl)) V__law_spoilt_good (by decide +kernel) (.inl (by decide +kernel)) (fun _ _ _ => rfl)) (ss_cons (s_for (is_seq (snd_upto v__law_spoilt_good__law_weaving v__law_spoilt_good__law_at) ⟨V__law_spoilt_good, (by decide +kernel), .inl (by decide +kernel)⟩) (ss_cons (s_expr (snd_callF W.co (ok__law_do W) (by decide +kernel) (by decide +kernel) (by decide +kernel) (snds_cons v__law_spoilt_good__law_web (snds_cons v__law_spoilt_good__law_own (snds_cons (snd_idx v__law_spoilt_good__law_move (snd_int _ _ _) (fun _ _ => rfl)) (snds_cons (snd_idx v__law_spoilt_good__law_move (snd_int _ _ _) (fun _ _ => rfl)) snds_nil)))) (fun _ => rfl)) (fun _ => rfl)) ss_nil) rfl (fun _ _ => rfl)) (ss_cons (s_assign (snd_callF W.co (ok__law_moves W) (by decide +kernel) (by decide +kernel) (by decide +kernel) (snds_cons v__law_spoilt_good__law_web (snds_cons v__law_spoilt_good__law_own snds_nil)) (fun _ => rfl)) V__law_spoilt_good (by decide +kernel) (.inl (by decide +kernel)) (fun _ _ _ => rfl)) (ss_cons (s_assign (snd_list (snds_cons (snd_tuple (snds_cons (snd_callB W.co op_len (by decide +kernel) W.b_len (by decide +kernel) (snds_cons v__law_spoilt_good__law_web snds_nil) (fun _ => rfl)) (snds_cons (snd_str _ _ _) snds_nil)) (fun _ => rfl) (by decide +kernel)) (snds_cons (snd_tuple (snds_cons (snd_neg (snd_int _ _ _)) (snds_cons (snd_str _ _ _) snds_nil)) (fun _ => rfl) (by decide +kernel)) (snds_cons (snd_tuple (snds_cons (snd_int _ _ _) (snds_cons (snd_str _ _ _) snds_nil)) (fun _ => rfl) (by decide +kernel)) (snds_cons (snd_tuple (snds_cons (snd_int _ _ _) snds_nil) (fun _ => rfl) (by decide +kernel)) (snds_cons (snd_tuple (snds_cons (snd_int _ _ _) (snds_cons (snd_str _ _ _) (snds_cons (snd_int _ _ _) snds_nil))) (fun _ => rfl) (by decide +kernel)) (snds_cons (snd_list (snds_cons (snd_int _ _ _) (snds_cons (snd_str _ _ _) snds_nil)) (fun _ => rfl) (by decide +kernel)) (snds_cons (snd_none _ _) (snds_cons (snd_int _ _ _) snds_nil)))))))) (fun _ => rfl) (by decide +kernel)) V__law_spoilt_good (by decide +kernel) (.inl (by decide +kernel)) (fun _ _ _ => rfl)) (ss_cons (s_assign (snd_bin v__law_spoilt_good__law_things (snd_list (snds_cons (snd_tuple (snds_cons (snd_bool _ _ _) (snds_cons (snd_str _ _ _) snds_nil)) (fun _ => rfl) (by decide +kernel)) (snds_cons (snd_tuple (snds_cons (snd_str _ _ _) (snds_cons (snd_str _ _ _) snds_nil)) (fun _ => rfl) (by decide +kernel)) (snds_cons (snd_tuple (snds_cons (snd_neg (snd_int _ _ _)) (snds_cons (snd_str _ _ _) snds_nil)) (fun _ => rfl) (by decide +kernel)) (snds_cons (snd_tuple (snds_cons (snd_callB W.co op_len (by decide +kernel) W.b_len (by decide +kernel) (snds_cons v__law_spoilt_good__law_web snds_nil) (fun _ => rfl)) (snds_cons (snd_str _ _ _) snds_nil)) (fun _ => rfl) (by decide +kernel)) (snds_cons (snd_tuple (snds_cons (snd_int _ _ _) (snds_cons (snd_none _ _) snds_nil)) (fun _ => rfl) (by decide +kernel)) (snds_cons (snd_tuple (snds_cons (snd_int _ _ _) (snds_cons (snd_str _ _ _) snds_nil)) (fun _ => rfl) (by decide +kernel)) snds_nil)))))) (fun _ => rfl) (by decide +kernel)) op_add) V__law_spoilt_good (by decide +kernel) (.inl (by decide +kernel)) (fun _ _ _ => rfl)) (ss_cons (s_assign (snd_idx (snd_bin v__law_spoilt_good__law_things (snd_list (snds_cons (snd_tuple (snds_cons (snd_int _ _ _) (snds_cons (snd_str _ _ _) snds_nil)) (fun _ => rfl) (by decide +kernel)) (snds_cons (snd_tuple (snds_cons (snd_int _ _ _) (snds_cons (snd_str _ _ _) snds_nil)) (fun _ => rfl) (by decide +kernel)) (snds_cons (snd_tuple (snds_cons (snd_bool _ _ _) (snds_cons (snd_str _ _ _) snds_nil)) (fun _ => rfl) (by decide +kernel)) (snds_cons (snd_tuple (snds_cons (snd_int _ _ _) (snds_cons (snd_int _ _ _) snds_nil)) (fun _ => rfl) (by decide +kernel)) snds_nil)))) (fun _ => rfl) (by decide +kernel)) op_add) (snd_bin (snd_bin v__law_spoilt_good__law_cell (snd_int _ _ _) op_fdiv) (snd_int _ _ _) op_fmod) (fun _ _ => rfl)) V__law_spoilt_good (by decide +kernel) (.inl (by decide +kernel)) (fun _ _ _ => rfl)) (ss_cons (s_for (is_range1 W.co (snd_callB W.co op_len (by decide +kernel) W.b_len (by decide +kernel) (snds_cons v__law_spoilt_good__law_web snds_nil) (fun _ => rfl)) (fun _ => rfl) ⟨V__law_spoilt_good, (by decide +kernel), .inl (by decide +kernel)⟩ (by decide +kernel) W.b_range (by decide +kernel)) (ss_cons (s_for (is_seq (snd_tuple (snds_cons (snd_str _ _ _) (snds_cons (snd_str _ _ _) snds_nil)) (fun _ => rfl) (by decide +kernel)) ⟨V__law_spoilt_good, (by decide +kernel), .inl (by decide +kernel)⟩) (ss_cons (s_if (tst_boolop (bt_and (tst_cmp (snd_tuple (snds_cons v__law_spoilt_good__law_hand (snds_cons v__law_spoilt_good__law_kind snds_nil)) (fun _ => rfl) (by decide +kernel)) v__law_spoilt_good__law_some op_notIn rfl) (bt_one (tst_cmp (snd_bin (snd_bin v__law_spoilt_good__law_cell (snd_int _ _ _) op_fdiv) (snd_int _ _ _) op_fmod) (snd_int _ _ _) op_eq rfl)))) (ss_cons (s_assign (snd_tuple (snds_cons v__law_spoilt_good__law_hand (snds_cons v__law_spoilt_good__law_kind snds_nil)) (fun _ => rfl) (by decide +kernel)) V__law_spoilt_good (by decide +kernel) (.inl (by decide +kernel)) (fun _ _ _ => rfl)) ss_nil) ss_nil) ss_nil) rfl (fun _ _ => rfl)) ss_nil) rfl (fun _ _ => rfl)) (ss_cons (s_ret (snd_cmp (snd_callF W.co (ok__law_word W) (by decide +kernel) (by decide +kernel) (by decide +kernel) (snds_cons v__law_spoilt_good__law_web (snds_cons (snd_bin (snd_bin (snd_upto v__law_spoilt_good__law_weaving v__law_spoilt_good__law_at) (snd_list (snds_cons v__law_spoilt_good__law_odd snds_nil) (fun _ => rfl) (by decide +kernel)) op_add) (snd_from v__law_spoilt_good__law_weaving v__law_spoilt_good__law_at) op_add) snds_nil)) (fun _ => rfl)) (snd_str _ _ _) op_eq rfl)) ss_nil))))))))))
theorem ok_law : CallOk C (Str.ofString "law") 9 f_law := callOk_of (n := 8) W.co W.fn_law (f := d_law) (ss_cons (s_assign (snd_callF W.co (ok__law_web_by W) (by decide +kernel) (by decide +kernel) (by decide +kernel) (snds_cons v_law__law_script snds_nil) (fun _ => rfl)) V_law (by decide +kernel) (.inl (by decide +kernel)) (fun _ _ _ => rfl)) (ss_cons (s_assignComp' [((Str.ofString "_law_row"), 10)] (is_seq v_law__law_web ⟨VarsOk.of (by decide +kernel) (by decide +kernel), (by decide +kernel), .inl (by decide +kernel)⟩) cs_nil (snd_callT W.co op_list (by decide +kernel) W.b_list (by decide +kernel) (snds_cons (snd_var (by decide +kernel) (.inl (by decide +kernel)) (by decide +kernel)) snds_nil) (fun _ => rfl)) (compOk_of (by decide +kernel)) (fun _ _ => rfl) V_law (by decide +kernel) (by decide +kernel) (swap_yes (by decide +kernel))) (ss_cons (s_assign (snd_callF W.co (ok__law_begun W) (by decide +kernel) (by decide +kernel) (by decide +kernel) (snds_cons v_law__law_web snds_nil) (fun _ => rfl)) V_law (by decide +kernel) (.inl (by decide +kernel)) (fun _ _ _ => rfl)) (ss_cons (s_assign (snd_callF W.co (ok_begun W) (by decide +kernel) (by decide +kernel) (by decide +kernel) (snds_cons v_law__law_handed snds_nil) (fun _ => rfl)) V_law (by decide +kernel) (.inl (by decide +kernel)) (fun _ _ _ => rfl)) (ss_cons (s_assign (snd_list snds_nil (fun _ => rfl) (by decide +kernel)) V_law (by decide +kernel) (.inl (by decide +kernel)) (fun _ _ _ => rfl)) (ss_cons (s_if (tst_not (tst_val (snd_callF W.co (ok__law_over_good W) (by decide +kernel) (by decide +kernel) (by decide +kernel) (snds_cons v_law__law_handed (snds_cons v_law__law_state (snds_cons v_law__law_own snds_nil))) (fun _ => rfl)) (fun _ => rfl))) (ss_cons (s_ret (snd_bool _ _ _)) ss_nil) ss_nil) (ss_cons (s_while 40 (tst_cmp (snd_callF W.co (ok__law_moves W) (by decide +kernel) (by decide +kernel) (by decide +kernel) (snds_cons v_law__law_web (snds_cons v_law__law_own snds_nil)) (fun _ => rfl)) (snd_list snds_nil (fun _ => rfl) (by decide +kernel)) op_ne rfl) (ss_cons (s_assign (snd_callF W.co (ok__law_moves W) (by decide +kernel) (by decide +kernel) (by decide +kernel) (snds_cons v_law__law_web (snds_cons v_law__law_own snds_nil)) (fun _ => rfl)) V_law (by decide +kernel) (.inl (by decide +kernel)) (fun _ _ _ => rfl)) (ss_cons (s_assign (snd_idx v_law__law_some (snd_bin (snd_bin (snd_callF W.co (ok__law_cell_at W) (by decide +kernel) (by decide +kernel) (by decide +kernel) (snds_cons v_law__law_script (snds_cons (snd_bin (snd_int _ _ _) (snd_bin (snd_callB W.co op_len (by decide +kernel) W.b_len (by decide +kernel) (snds_cons v_law__law_weaving snds_nil) (fun _ => rfl)) (snd_int _ _ _) op_fmod) op_add) snds_nil)) (fun _ => rfl)) (snd_callB W.co op_len (by decide +kernel) W.b_len (by decide +kernel) (snds_cons v_law__law_weaving snds_nil) (fun _ => rfl)) op_add) (snd_callB W.co op_len (by decide +kernel) W.b_len (by decide +kernel) (snds_cons v_law__law_some snds_nil) (fun _ => rfl)) op_fmod) (fun _ _ => rfl)) V_law (by decide +kernel) (.inl (by decide +kernel)) (fun _ _ _ => rfl)) (ss_cons (s_expr (snd_append v_law__law_weaving v_law__law_move (fun _ => rfl) rfl (fun _ => rfl)) (fun _ => rfl)) (ss_cons (s_expr (snd_callF W.co (ok__law_do W) (by decide +kernel) (by decide +kernel) (by decide +kernel) (snds_cons v_law__law_web (snds_cons v_law__law_own (snds_cons (snd_idx v_law__law_move (snd_int _ _ _) (fun _ _ => rfl)) (snds_cons (snd_idx v_law__law_move (snd_int _ _ _) (fun _ _ => rfl)) snds_nil)))) (fun _ => rfl)) (fun _ => rfl)) (ss_cons (s_assign (snd_callF W.co (ok_moved W) (by decide +kernel) (by decide +kernel) (by decide +kernel) (snds_cons v_law__law_handed (snds_cons v_law__law_state (snds_cons v_law__law_move snds_nil))) (fun _ => rfl)) V_law (by decide +kernel) (.inl (by decide +kernel)) (fun _ _ _ => rfl)) (ss_cons (s_if (tst_not (tst_val (snd_callF W.co (ok__law_over_good W) (by decide +kernel) (by decide +kernel) (by decide +kernel) (snds_cons v_law__law_handed (snds_cons v_law__law_state (snds_cons v_law__law_own snds_nil))) (fun _ => rfl)) (fun _ => rfl))) (ss_cons (s_ret (snd_bool _ _ _)) ss_nil) ss_nil) ss_nil)))))) rfl) (ss_cons (s_assign (snd_callT W.co op_list (by decide +kernel) W.b_list (by decide +kernel) (snds_cons v_law__law_weaving snds_nil) (fun _ => rfl)) V_law (by decide +kernel) (.inl (by decide +kernel)) (fun _ _ _ => rfl)) (ss_cons (s_assign (snd_callF W.co (ok_woven W) (by decide +kernel) (by decide +kernel) (by decide +kernel) (snds_cons v_law__law_handed (snds_cons v_law__law_told snds_nil)) (fun _ => rfl)) V_law (by decide +kernel) (.inl (by decide +kernel)) (fun _ _ _ => rfl)) (ss_cons (s_if (tst_boolop (bt_or (tst_not (tst_val (snd_isi W.co .tuple v_law__law_end_here (fun _ => rfl) (by decide +kernel) W.b_isinstance (by decide +kernel) (by decide +kernel) W.b_tuple (by decide +kernel)) (fun _ => rfl))) (bt_or (tst_cmp v_law__law_end_here (snd_callF W.co (ok__law_end W) (by decide +kernel) (by decide +kernel) (by decide +kernel) (snds_cons v_law__law_own snds_nil) (fun _ => rfl)) op_ne rfl) (bt_or (tst_cmp v_law__law_told v_law__law_weaving op_ne rfl) (bt_one (tst_cmp v_law__law_handed v_law__law_web op_ne rfl)))))) (ss_cons (s_ret (snd_bool _ _ _)) ss_nil) ss_nil) (ss_cons (s_ret (snd_callF W.co (ok__law_spoilt_good W) (by decide +kernel) (by decide +kernel) (by decide +kernel) (snds_cons v_law__law_handed (snds_cons v_law__law_weaving (snds_cons (snd_callF W.co (ok__law_cell_at W) (by decide +kernel) (by decide +kernel) (by decide +kernel) (snds_cons v_law__law_script (snds_cons (snd_int _ _ _) snds_nil)) (fun _ => rfl)) snds_nil))) (fun _ => rfl))) ss_nil)))))))))))
end
end Mine.L04

set_option linter.unusedVariables false
set_option linter.unusedSimpArgs false
namespace Mine.L04
open PySem Mine Mine.Com

/-! numbers -/
noncomputable def numP (c : Int) : Int := if c.fmod 6 = 5 then (c.fdiv 6 * 610666465330867800319356957143791 + 5).fmod 1999999999999999999999999999999 - 999999999999999999999999999999 else (c.fdiv 6).fmod 5 - 1
theorem pow1 : (48271 : Int) ^ 7 = 610666465330867800319356957143791 := by decide +kernel
theorem numP_ok (c : Int) : -big < numP c ∧ numP c < big := by
  unfold numP big
  split
  · obtain ⟨a1, a2⟩ := fmod_nn (c.fdiv 6 * 610666465330867800319356957143791 + 5) (b := 1999999999999999999999999999999) (by first | assumption | exact Nat.zero_le _ | exact lt_big (by assumption) (by assumption) | decide | omega)
    omega
  · obtain ⟨a1, a2⟩ := fmod_nn (c.fdiv 6) (b := 5) (by first | assumption | exact Nat.zero_le _ | exact lt_big (by assumption) (by assumption) | decide | omega)
    omega
section
variable {μ : MH}
theorem pow_int {a b : Int} {r : Int} (h0 : 0 ≤ b) (h1 : (Builtin.Int.intBits a : Int) * b ≤ 2 ^ 27) (hr : a ^ b.toNat = r) : powM (.int a) (.int b) μ = .ok (.int r) μ := by
  simp only [powM, intM]
  rw [if_pos ⟨h0, h1⟩, hr]
theorem mul_int {a b : Int} (h : IntMulOk a b) : mulM (.int a) (.int b) μ = .ok (.int (a * b)) μ := by
  exact if_pos h
theorem number_by_eq {c : Int} (h : Builtin.Int.intBits c ≤ 2000000) : f__law_number_by [.int c] μ = .ok (.int (numP c)) μ := by
  have d1 := fmod_int (μ := μ) c (show (6 : Int) ≠ 0 by decide)
  have d2 := fdiv_int (μ := μ) c (show (0 : Int) < 6 ∧ (6 : Int) < 2 ^ 30 by decide)
  have d3 := fmod_int (μ := μ) (c.fdiv 6) (show (5 : Int) ≠ 0 by decide)
  have p1 : powM (.int 48271) (.int 7) μ = .ok (.int 610666465330867800319356957143791) μ := pow_int (by decide) (by decide +kernel) pow1
  have p2 : powM (.int 10) (.int 30) μ = .ok (.int 1000000000000000000000000000000) μ := pow_int (by decide) (by decide +kernel) (by decide +kernel)
  have m1 : mulM (.int (c.fdiv 6)) (.int 610666465330867800319356957143791) μ = .ok (.int (c.fdiv 6 * 610666465330867800319356957143791)) μ := mul_int (IntMulOk.of_le (m := 2000000) (n := 200) (intBits_fdiv_le h) (by decide +kernel) (by decide))
  have m2 : mulM (.int 2) (.int 1000000000000000000000000000000) μ = .ok (.int 2000000000000000000000000000000) μ := mul_int (a := 2) (IntMulOk.of_left (by decide +kernel))
  have f1 := fmod_int (μ := μ) (c.fdiv 6 * 610666465330867800319356957143791 + 5) (show (1999999999999999999999999999999 : Int) ≠ 0 by decide)
  rw [f__law_number_by, ev_def (k := 1) rfl]
  unfold numP
  by_cases hc : c.fmod 6 = 5
  · simp only [d__law_number_by, ev_seq, ev_ifs, ev_bin, ev_var (show (fun i => [MV.int c][i]?) 0 = some (.int c) from rfl), binK_ok, ev_const, binK2_ok, d1, hc, eq_int, beq_self_eq_true, ifK_true, ev_ret, d2, p1, p2, m1, m2, add_int, sub_int]
    rw [show (2000000000000000000000000000000 : Int) - 1 = 1999999999999999999999999999999 from by decide, f1]
    simp only [binK_ok, ev_bin, ev_const, p2, binK2_ok, sub_int, retK_ok, seqK_ret, defK_ret]
    rw [show (1000000000000000000000000000000 : Int) - 1 = 999999999999999999999999999999 from by decide]
    simp
  · have hc' : (c.fmod 6 == 5) = false := by simpa using hc
    simp [d__law_number_by, ev_var, d1, d2, d3, hc, hc']
end
theorem cell_bits {ns : List Int} (hl : (PyData.list (ns.map .int)).layable0 = true) (i k : Nat) (hk : k < 9) : Builtin.Int.intBits (ns[i]?.getD 0 + 3 * (k : Int)) ≤ 2000000 := by
  have h1 : Builtin.Int.intBits (ns[i]?.getD 0) ≤ 1048576 := by
    cases e : ns[i]? with
    | none => show Builtin.Int.intBits 0 ≤ _; decide
    | some x => exact intBits_le_of_item (List.mem_of_getElem? e) hl
  have h2 : Builtin.Int.intBits (3 * (k : Int)) ≤ 64 := intBits_le_64 (by first | assumption | exact Nat.zero_le _ | exact lt_big (by assumption) (by assumption) | decide | omega) (by first | assumption | exact Nat.zero_le _ | exact lt_big (by assumption) (by assumption) | decide | omega)
  have := intBits_add_le h1 h2
  omega
noncomputable def stepP (c : Int) (b : Nat) : St := if c.fmod 7 < 3 then .put ((c.fdiv 7).fmod b).toNat (numP (c.fdiv 28)) else if c.fmod 7 < 6 then .get ((c.fdiv 7).fmod b).toNat else .fence
theorem stepP_ok (c : Int) {b : Nat} (h1 : 1 ≤ b) (h4 : b ≤ 4) : (stepP c b).ok := by
  obtain ⟨a1, a2⟩ := fmod_nn (c.fdiv 7) (b := (b : Int)) (by first | assumption | exact Nat.zero_le _ | exact lt_big (by assumption) (by assumption) | decide | omega)
  unfold stepP
  split
  · exact ⟨by first | assumption | exact Nat.zero_le _ | exact lt_big (by assumption) (by assumption) | decide | omega, numP_ok _⟩
  · split
    · show _ < 4; omega
    · trivial
theorem step_by_eq {c : Int} {b : Nat} (hb : 1 ≤ b) (h : Builtin.Int.intBits c ≤ 2000000) (μ : MH) : f__law_step_by [.int c, .int b] μ = .ok (stepP c b).mv μ := by
  obtain ⟨a1, a2⟩ := fmod_nn (c.fdiv 7) (b := (b : Int)) (by first | assumption | exact Nat.zero_le _ | exact lt_big (by assumption) (by assumption) | decide | omega)
  have e1 : (((c.fdiv 7).fmod b).toNat : Int) = (c.fdiv 7).fmod b := by first | assumption | exact Nat.zero_le _ | exact lt_big (by assumption) (by assumption) | decide | omega
  have d1 := fmod_int (μ := μ) c (show (7 : Int) ≠ 0 by decide)
  have d2 := fdiv_int (μ := μ) c (show (0 : Int) < 7 ∧ (7 : Int) < 2 ^ 30 by decide)
  have d3 := fmod_int (μ := μ) (c.fdiv 7) (show (b : Int) ≠ 0 by first | assumption | exact Nat.zero_le _ | exact lt_big (by assumption) (by assumption) | decide | omega)
  have d4 := fdiv_int (μ := μ) c (show (0 : Int) < 28 ∧ (28 : Int) < 2 ^ 30 by decide)
  have d5 := number_by_eq (μ := μ) (c := c.fdiv 28) (intBits_fdiv_le h)
  rw [f__law_step_by, ev_def (k := 2) rfl]
  unfold stepP
  by_cases h1 : c.fmod 7 < 3
  · simp [d__law_step_by, ev_var, d1, d2, d3, d4, d5, h1, St.mv, e1]
  · by_cases h2 : c.fmod 7 < 6
    · simp [d__law_step_by, ev_var, d1, d2, d3, d4, d5, h1, h2, St.mv, e1]
    · simp [d__law_step_by, ev_var, d1, d2, d3, d4, d5, h1, h2, St.mv]

/-! a web whose rows lie anywhere behind it -/
section
variable {μ : MH} {k h a : Nat} {rs : List Nat} {W : List (List St)} {row : List St} {st : St}
noncomputable def Inj (rs : List Nat) : Prop := ∀ (i j r : Nat), rs[i]? = some r → rs[j]? = some r → i = j
theorem web_append (x : WebAt μ k rs W) (nd : Inj rs) (hk : ∀ r ∈ rs, k < r) {r : Nat} (hr : rs[h]? = some r) (hh : W[h]? = some row) : WebAt (μ.set r (row.map St.mv ++ [st.mv])) k rs (W.set h (row ++ [st])) := by
  have hkr := hk r (List.mem_of_getElem? hr)
  refine ⟨by rw [get_set_ne (by first | assumption | exact Nat.zero_le _ | exact lt_big (by assumption) (by assumption) | decide | omega)]; exact x.top, by rw [List.length_set]; exact x.len, fun i r' row' h1 h2 => ?_⟩
  by_cases he : h = i
  · subst he
    rw [hr] at h1; cases h1
    rw [get_set_self hh] at h2; cases h2
    rw [get_set_self (x.row h _ row hr hh)]; simp
  · rw [get_set_ne he] at h2
    have hne : r ≠ r' := fun e => he (nd h i r hr (e ▸ h1))
    rw [get_set_ne hne]; exact x.row i _ row' h1 h2
theorem web_set (x : WebAt μ k rs W) (ha : μ[a]? = some (row.map St.mv)) (hka : k < a) (hk : ∀ r ∈ rs, k < r) : WebAt (μ.set k ((rs.set h a).map .lst)) k (rs.set h a) (W.set h row) := by
  refine ⟨get_set_self x.top, by simp [x.len], fun i r row' h1 h2 => ?_⟩
  by_cases he : h = i
  · subst he
    have hl : h < rs.length := by have := (List.getElem?_eq_some_iff.mp h1).1; simpa using this
    rw [List.getElem?_set_self hl] at h1; cases h1
    rw [List.getElem?_set_self (by rw [← x.len]; exact hl)] at h2; cases h2
    rw [get_set_ne (by first | assumption | exact Nat.zero_le _ | exact lt_big (by assumption) (by assumption) | decide | omega)]; exact ha
  · rw [get_set_ne he] at h1 h2
    have := hk r (List.mem_of_getElem? h1)
    rw [get_set_ne (by first | assumption | exact Nat.zero_le _ | exact lt_big (by assumption) (by assumption) | decide | omega)]; exact x.row i r row' h1 h2
theorem ids_inj (K n : Nat) : Inj (ids K n) := fun i j r h1 h2 => by
  obtain ⟨_, e1⟩ := ids_inv h1
  obtain ⟨_, e2⟩ := ids_inv h2
  omega
theorem inj_set {rs : List Nat} {h a : Nat} (x : Inj rs) (ha : a ∉ rs) : Inj (rs.set h a) := fun i j r h1 h2 => by
  by_cases e1 : h = i <;> by_cases e2 : h = j
  · omega
  · subst e1
    have hl : h < rs.length := by have := (List.getElem?_eq_some_iff.mp h1).1; simpa using this
    rw [List.getElem?_set_self hl] at h1; cases h1
    rw [get_set_ne e2] at h2
    exact absurd (List.mem_of_getElem? h2) ha
  · subst e2
    have hl : h < rs.length := by have := (List.getElem?_eq_some_iff.mp h2).1; simpa using this
    rw [List.getElem?_set_self hl] at h2; cases h2
    rw [get_set_ne e1] at h1
    exact absurd (List.mem_of_getElem? h1) ha
  · rw [get_set_ne e1] at h1
    rw [get_set_ne e2] at h2
    exact x i j r h1 h2
theorem ids_gt {K n r : Nat} (h : r ∈ ids K n) : K < r := by
  simp [ids] at h
  obtain ⟨a, _, rfl⟩ := h; omega
end
end Mine.L04

set_option linter.unusedVariables false
set_option linter.unusedSimpArgs false
namespace Mine.L04
open PySem Mine Mine.Com
noncomputable def dTwo : DS := (dIfS (dAnd (dBin eqM (dBin fmodM (dBin fdivM (dVar 1) (dConst (.int 12))) (dConst (.int 2))) (dConst (.int 1))) (dBin gtM (dCall lenM (dCons (dVar 3) dNil)) (dConst (.int 1)))) (dSeq (dAssign 5 (dBin fmodM (dVar 2) (dConst (.int 4)))) (dSeq (dAssign 6 (dBin fmodM (dBin addM (dBin addM (dVar 5) (dConst (.int 1))) (dBin fmodM (dBin fdivM (dVar 2) (dConst (.int 4))) (dConst (.int 3)))) (dConst (.int 4)))) (dSeq (dSetItem (dList (dCons (dTup (dCons (dConst (.str (Str.ofString "put"))) (dCons (dVar 5) (dCons (dCall f__law_number_by (dCons (dBin fdivM (dVar 2) (dConst (.int 12))) dNil)) dNil)))) (dCons (dTup (dCons (dConst (.str (Str.ofString "get"))) (dCons (dVar 6) dNil))) dNil))) (dVar 3) (dConst (.int 0))) (dSeq (dSetItem (dList (dCons (dTup (dCons (dConst (.str (Str.ofString "put"))) (dCons (dVar 6) (dCons (dCall f__law_number_by (dCons (dBin fdivM (dVar 2) (dConst (.int 60))) dNil)) dNil)))) (dCons (dTup (dCons (dConst (.str (Str.ofString "get"))) (dCons (dVar 5) dNil))) dNil))) (dVar 3) (dConst (.int 1))) (dSeq (dAssign 4 (dBin fmodM (dVar 4) (dConst (.int 5)))) dSkip))))) dSkip)

theorem bits0 {ns : List Int} (hl : (PyData.list (ns.map .int)).layable0 = true) (i : Nat) : Builtin.Int.intBits (ns[i]?.getD 0) ≤ 2000000 := by
  have := cell_bits hl i 0 (by first | assumption | exact Nat.zero_le _ | exact lt_big (by assumption) (by assumption) | decide | omega)
  simpa using this
section
variable {μ : MH} {k : Nat}
theorem total_rep (n : Nat) : total (List.replicate n ([] : List St)) = 0 := by simp [total]
theorem total_set2 {W : List (List St)} {h : Nat} {row : List St} (hh : W[h]? = some []) : total (W.set h row) = total W + row.length := by
  induction W generalizing h with
  | nil => simp at hh
  | cons r W ih =>
    cases h with
    | zero => simp at hh; subst hh; simp [total]; omega
    | succ h => simp at hh; have := ih hh; simp [total] at this ⊢; omega

theorem two_eq {ρ : Rho} {f g : Int} {m n : Nat} (hn : n ≤ 3) (hm : m ≤ 8) (hg : Builtin.Int.intBits g ≤ 2000000) (hW : WebAt μ k (ids k n) (List.replicate n [])) (h1 : ρ 1 = some (.int f)) (h2 : ρ 2 = some (.int g)) (h3 : ρ 3 = some (.lst k)) (h4 : ρ 4 = some (.int m)) :
    NextTo (dTwo ρ μ) (fun ρ' μ' => (∀ p : MH, p.length ≤ k → p <+: μ → p <+: μ') ∧ ρ' 0 = ρ 0 ∧ ρ' 1 = ρ 1 ∧ ρ' 3 = ρ 3 ∧ ∃ (m' : Nat) (rs : List Nat) (W : List (List St)), ρ' 4 = some (.int m') ∧ WebAt μ' k rs W ∧ W.length = n ∧ total W + m' ≤ 8 ∧ (∀ row ∈ W, ∀ s ∈ row, s.ok) ∧ Inj rs ∧ ∀ r ∈ rs, k < r) := by
  have D12 := fdiv_int (μ := μ) f (show (0 : Int) < 12 ∧ (12 : Int) < 2 ^ 30 by decide)
  have M2 := fmod_int (μ := μ) (f.fdiv 12) (show (2 : Int) ≠ 0 by decide)
  have hlen : lenM [.lst k] μ = .ok (.int n) μ := by
    rw [len_lst hW.top (by simp [ids_len]; omega)]; simp [ids_len]
  have hno : NextTo (.ok (.next, ρ) μ) (fun ρ' μ' => (∀ p : MH, p.length ≤ k → p <+: μ → p <+: μ') ∧ ρ' 0 = ρ 0 ∧ ρ' 1 = ρ 1 ∧ ρ' 3 = ρ 3 ∧ ∃ (m' : Nat) (rs : List Nat) (W : List (List St)), ρ' 4 = some (.int m') ∧ WebAt μ' k rs W ∧ W.length = n ∧ total W + m' ≤ 8 ∧ (∀ row ∈ W, ∀ s ∈ row, s.ok) ∧ Inj rs ∧ ∀ r ∈ rs, k < r) := by
    rw [nextTo_ok]
    refine ⟨fun p _ h => h, rfl, rfl, rfl, m, ids k n, List.replicate n [], h4, hW, by simp, by rw [total_rep]; omega, fun row hr s hs => ?_, ids_inj k n, fun r hr => ids_gt hr⟩
    simp at hr; rw [hr.2] at hs; cases hs
  unfold dTwo
  cases hb : ((f.fdiv 12).fmod 2 == 1) with
  | false =>
    simp only [ev_ifs, ev_and, ev_bin, ev_var h1, binK_ok, ev_const, binK2_ok, D12, M2, eq_int, hb, andK_false, ifK_false, ev_skip]
    exact hno
  | true =>
    by_cases hn1 : 1 < n
    · obtain ⟨o, ho, hol⟩ := fmod_nat g (b := 4) (by first | assumption | exact Nat.zero_le _ | exact lt_big (by assumption) (by assumption) | decide | omega)
      have ho' : g.fmod 4 = (o : Int) := ho
      obtain ⟨t, ht, htl⟩ := fmod_nat ((o : Int) + 1 + (g.fdiv 4).fmod 3) (b := 4) (by first | assumption | exact Nat.zero_le _ | exact lt_big (by assumption) (by assumption) | decide | omega)
      have ht' : ((o : Int) + 1 + (g.fdiv 4).fmod 3).fmod 4 = (t : Int) := ht
      obtain ⟨u, hu, hul⟩ := fmod_nat (m : Int) (b := 5) (by first | assumption | exact Nat.zero_le _ | exact lt_big (by assumption) (by assumption) | decide | omega)
      have hu' : (m : Int).fmod 5 = (u : Int) := hu
      have M4 := fun (c : Int) => fmod_int (μ := μ) c (show (4 : Int) ≠ 0 by decide)
      have M3 := fun (c : Int) => fmod_int (μ := μ) c (show (3 : Int) ≠ 0 by decide)
      have D4 := fdiv_int (μ := μ) g (show (0 : Int) < 4 ∧ (4 : Int) < 2 ^ 30 by decide)
      have D12' := fun μ : MH => fdiv_int (μ := μ) g (show (0 : Int) < 12 ∧ (12 : Int) < 2 ^ 30 by decide)
      have D60 := fun μ : MH => fdiv_int (μ := μ) g (show (0 : Int) < 60 ∧ (60 : Int) < 2 ^ 30 by decide)
      have N12 := fun μ : MH => number_by_eq (μ := μ) (c := g.fdiv 12) (intBits_fdiv_le hg)
      have N60 := fun μ : MH => number_by_eq (μ := μ) (c := g.fdiv 60) (intBits_fdiv_le hg)
      have M5 := fun μ : MH => fmod_int (μ := μ) (m : Int) (show (5 : Int) ≠ 0 by decide)
      obtain ⟨r1, hr1⟩ : ∃ r1 : List St, r1 = [.put o (numP (g.fdiv 12)), .get t] := ⟨_, rfl⟩
      obtain ⟨r2, hr2⟩ : ∃ r2 : List St, r2 = [.put t (numP (g.fdiv 60)), .get o] := ⟨_, rfl⟩
      have hkl : k < μ.length := (List.getElem?_eq_some_iff.mp hW.top).1
      have pW := hW.mono (pre_app μ [r1.map St.mv])
      have gk : ∀ r ∈ ids k n, k < r := fun r hr => ids_gt hr
      have S1 : ∀ ρ : Rho, setK3 (.ok (.int 0) (μ ++ [r1.map St.mv])) (.lst μ.length) (.lst k) ρ = .ok (.next, ρ) ((μ ++ [r1.map St.mv]).set k (((ids k n).set 0 μ.length).map .lst)) := fun ρ => by
        have := setK3_ok (ρ := ρ) (v := .lst μ.length) (j := 0) pW.top (by simp [ids_len]; omega) (by simp [ids_len]; omega)
        rw [show ((0 : Nat) : Int) = 0 from rfl] at this
        rw [this, List.map_set]
      have W1 := web_set (h := 0) pW (get_last (r1.map St.mv)) hkl gk
      have hnot : μ.length ∉ ids k n := fun hm => by
        obtain ⟨i, hi⟩ := List.getElem?_of_mem hm
        obtain ⟨q1, q2⟩ := ids_inv hi
        have := (List.getElem?_eq_some_iff.mp (hW.row i _ [] hi (by simp [q1]))).1
        omega
      have gk1 : ∀ r ∈ (ids k n).set 0 μ.length, k < r := fun r hr => by
        rcases List.mem_or_eq_of_mem_set hr with q | q
        · exact gk r q
        · omega
      obtain ⟨ν, hν⟩ : ∃ ν, ν = (μ ++ [r1.map St.mv]).set k (((ids k n).set 0 μ.length).map MV.lst) := ⟨_, rfl⟩
      have lν : ν.length = μ.length + 1 := by rw [hν]; simp
      rw [← hν] at W1
      simp only [← hν] at S1
      have pW2 := W1.mono (pre_app ν [r2.map St.mv])
      have S2 : ∀ ρ : Rho, setK3 (.ok (.int 1) (ν ++ [r2.map St.mv])) (.lst ν.length) (.lst k) ρ = .ok (.next, ρ) ((ν ++ [r2.map St.mv]).set k ((((ids k n).set 0 μ.length).set 1 ν.length).map .lst)) := fun ρ => by
        have := setK3_ok (ρ := ρ) (v := .lst ν.length) (j := 1) pW2.top (by simp [ids_len]; omega) (by simp [ids_len]; omega)
        rw [show ((1 : Nat) : Int) = 1 from rfl] at this
        rw [this]
        simp only [List.map_set]
      have W2 := web_set (h := 1) pW2 (get_last (r2.map St.mv)) (by first | assumption | exact Nat.zero_le _ | exact lt_big (by assumption) (by assumption) | decide | omega) gk1
      have hnot2 : ν.length ∉ (ids k n).set 0 μ.length := fun hm => by
        rcases List.mem_or_eq_of_mem_set hm with q | q
        · obtain ⟨i, hi⟩ := List.getElem?_of_mem q
          obtain ⟨q1, q2⟩ := ids_inv hi
          have := (List.getElem?_eq_some_iff.mp (hW.row i _ [] hi (by simp [q1]))).1
          omega
        · omega
      have hv1 : [MV.tup [.str (Str.ofString "put"), .int o, .int (numP (g.fdiv 12))], .tup [.str (Str.ofString "get"), .int t]] = r1.map St.mv := by rw [hr1]; rfl
      have hv2 : [MV.tup [.str (Str.ofString "put"), .int t, .int (numP (g.fdiv 60))], .tup [.str (Str.ofString "get"), .int o]] = r2.map St.mv := by rw [hr2]; rfl
      have hgt : decide ((1 : Int) < (n : Int)) = true := by simp; omega
      have a2 : ∀ x, (Rho.set ρ 5 x) 2 = some (.int g) := fun x => by simp [h2]
      have b2 : ∀ x y, (Rho.set (Rho.set ρ 5 x) 6 y) 2 = some (.int g) := fun x y => by simp [h2]
      have b3 : ∀ x y, (Rho.set (Rho.set ρ 5 x) 6 y) 3 = some (.lst k) := fun x y => by simp [h3]
      have b4 : ∀ x y, (Rho.set (Rho.set ρ 5 x) 6 y) 4 = some (.int m) := fun x y => by simp [h4]
      have b5 : ∀ x y, (Rho.set (Rho.set ρ 5 x) 6 y) 5 = some x := fun x y => by simp
      simp only [ev_ifs, ev_and, ev_bin, ev_var h1, binK_ok, ev_const, binK2_ok, D12, M2, eq_int, hb, andK_true, ev_call, ev_cons, ev_nil, ev_var h3, consK_ok, consK2_ok, Out.bind_ok, hlen, gt_int, hgt, ifK_true, ev_seq, ev_assign, ev_var h2, M4, ho', asgK_ok, seqK_next, ev_var (rho_set_self ..), ev_var (a2 _), D4, M3, add_int, ht']
      simp only [ev_setitem, ev_list, ev_cons, ev_tup, ev_const, ev_nil, ev_call, ev_bin, ev_var (b2 _ _), ev_var (b3 _ _), ev_var (b4 _ _), ev_var (b5 _ _), ev_var (rho_set_self ..), binK_ok, binK2_ok, D12', N12, D60, N60, consK_ok, consK2_ok, tupK_ok, Out.bind_ok, listK_ok, hv1, hv2, setK_ok, setK2_ok, S1, S2, seqK_next, M5, hu', asgK_ok, ev_skip, ev_assign, ev_seq, nextTo_ok]
      have l0 : (List.replicate n ([] : List St))[0]? = some [] := by rw [List.getElem?_replicate, if_pos (by first | assumption | exact Nat.zero_le _ | exact lt_big (by assumption) (by assumption) | decide | omega)]
      have l1 : ((List.replicate n ([] : List St)).set 0 r1)[1]? = some [] := by rw [get_set_ne (by first | assumption | exact Nat.zero_le _ | exact lt_big (by assumption) (by assumption) | decide | omega), List.getElem?_replicate, if_pos (by first | assumption | exact Nat.zero_le _ | exact lt_big (by assumption) (by assumption) | decide | omega)]
      refine ⟨fun p hp hq => pre_set (((by rw [hν]; exact pre_set (hq.trans (pre_app _ _)) hp : p <+: ν)).trans (pre_app _ _)) hp, by simp, by simp, by simp, u, _, _, by simp, W2, by simp, ?_, fun row hr s hs => ?_, inj_set (inj_set (ids_inj k n) hnot) hnot2, fun r hr => ?_⟩
      · rw [total_set2 l1, total_set2 l0, total_rep, hr1, hr2]
        simp; omega
      · rcases List.mem_or_eq_of_mem_set hr with q | q
        · rcases List.mem_or_eq_of_mem_set q with q | q
          · simp at q; rw [q.2] at hs; cases hs
          · subst q; rw [hr1] at hs
            simp at hs
            rcases hs with rfl | rfl
            · exact ⟨hol, numP_ok _⟩
            · exact htl
        · subst q; rw [hr2] at hs
          simp at hs
          rcases hs with rfl | rfl
          · exact ⟨htl, numP_ok _⟩
          · exact hol
      · rcases List.mem_or_eq_of_mem_set hr with q | q
        · exact gk1 r q
        · omega
    · have hgt : decide ((1 : Int) < (n : Int)) = false := by simp; omega
      simp only [ev_ifs, ev_and, ev_bin, ev_var h1, binK_ok, ev_const, binK2_ok, D12, M2, eq_int, hb, andK_true, ev_call, ev_cons, ev_nil, ev_var h3, consK_ok, consK2_ok, Out.bind_ok, hlen, gt_int, hgt, ifK_false, ev_skip]
      exact hno

theorem web_by (ns : List Int) (hns : ns.length ≤ 1000) (hl : (PyData.list (ns.map .int)).layable0 = true) (μ : MH) : ∃ μ' W rs, f__law_web_by [.scr ns] μ = .ok (.lst μ.length) μ' ∧ μ <+: μ' ∧ WebAt μ' μ.length rs W ∧ WebOk W ∧ total W ≤ 8 := by
  have c0 : f__law_cell_at [.scr ns, .int 0] μ = .ok (.int (ns[0]?.getD 0)) μ := cell_at_eq (n := 0) hns (by first | assumption | exact Nat.zero_le _ | exact lt_big (by assumption) (by assumption) | decide | omega)
  have c1 : f__law_cell_at [.scr ns, .int 1] μ = .ok (.int (ns[1]?.getD 0)) μ := cell_at_eq (n := 1) hns (by first | assumption | exact Nat.zero_le _ | exact lt_big (by assumption) (by assumption) | decide | omega)
  have hg := bits0 hl 1
  generalize ns[0]?.getD 0 = f at c0
  generalize ns[1]?.getD 0 = g at c1 hg
  obtain ⟨n, hn, hnl⟩ := fmod_nat f (b := 3) (by first | assumption | exact Nat.zero_le _ | exact lt_big (by assumption) (by assumption) | decide | omega)
  have hn' : f.fmod 3 = (n : Int) := hn
  obtain ⟨m, hm, hml⟩ := fmod_nat (f.fdiv 24) (b := 9) (by first | assumption | exact Nat.zero_le _ | exact lt_big (by assumption) (by assumption) | decide | omega)
  have hm' : (f.fdiv 24).fmod 9 = (m : Int) := hm
  obtain ⟨b, hb, hbl⟩ := fmod_nat (f.fdiv 3) (b := 4) (by first | assumption | exact Nat.zero_le _ | exact lt_big (by assumption) (by assumption) | decide | omega)
  have hb' : (f.fdiv 3).fmod 4 = (b : Int) := hb
  suffices h : Gives (f__law_web_by [.scr ns] μ) (fun v μ' => v = .lst μ.length ∧ ∃ W rs, μ <+: μ' ∧ WebAt μ' μ.length rs W ∧ WebOk W ∧ total W ≤ 8) by
    obtain ⟨v, μ', e, rfl, W, rs, h⟩ := h
    exact ⟨μ', W, rs, e, h⟩
  rw [f__law_web_by, ev_def (k := 1) rfl]
  rw [show d__law_web_by = (dSeq (dAssign 1 (dCall f__law_cell_at (dCons (dVar 0) (dCons (dConst (.int 0)) dNil)))) (dSeq (dAssign 2 (dCall f__law_cell_at (dCons (dVar 0) (dCons (dConst (.int 1)) dNil)))) (dSeq (dAssign 3 (dComp (iRange1 (dBin addM (dConst (.int 1)) (dBin fmodM (dVar 1) (dConst (.int 3))))) (dConst (.bool true)) (dList dNil) 9)) (dSeq (dAssign 4 (dBin fmodM (dBin fdivM (dVar 1) (dConst (.int 24))) (dConst (.int 9)))) (dSeq dTwo (dSeq (dFor (iRange1 (dVar 4)) (putAt 7) (dSeq (dAssign 8 (dBin addM (dCall f__law_cell_at (dCons (dVar 0) (dCons (dBin addM (dConst (.int 2)) (dVar 7)) dNil))) (dBin mulM (dConst (.int 3)) (dVar 7)))) (dSeq (dExpr (dAppend (dBin idxM (dVar 3) (dBin fmodM (dBin fdivM (dVar 8) (dConst (.int 13))) (dCall lenM (dCons (dVar 3) dNil)))) (dCall f__law_step_by (dCons (dVar 8) (dCons (dBin addM (dConst (.int 1)) (dBin fmodM (dBin fdivM (dVar 1) (dConst (.int 3))) (dConst (.int 4)))) dNil))))) dSkip))) (dSeq (dRet (dVar 3)) dSkip))))))) from rfl]
  have hr1 : rangeL 0 (1 + (n : Int)) = (List.range (1 + n)).map intMv := by rw [← range0]; rfl
  obtain ⟨ρ₀, hρ₀⟩ : ∃ ρ₀ : Rho, ρ₀ = Rho.set (Rho.set (fun i => [MV.scr ns][i]?) 1 (.int f)) 2 (.int g) := ⟨_, rfl⟩
  have cn := comp_new (μ₀ := μ) (G := fun _ => True) (i := 9) (its := (List.range (1 + n)).map intMv) (ρ := ρ₀) (fun _ _ => trivial) (by simp; omega)
  simp only [List.length_map, List.length_range] at cn
  have hW0 := web_new μ (1 + n)
  obtain ⟨ν, hν⟩ : ∃ ν, ν = μ ++ [(List.range (1 + n)).map fun j => MV.lst (μ.length + 1 + j)] ++ List.replicate (1 + n) [] := ⟨_, rfl⟩
  rw [← hν] at cn hW0
  have pν : μ <+: ν := by rw [hν, List.append_assoc]; exact pre_app _ _
  have D24 := fdiv_int (μ := ν) f (show (0 : Int) < 24 ∧ (24 : Int) < 2 ^ 30 by decide)
  have M9 := fmod_int (μ := ν) (f.fdiv 24) (show (9 : Int) ≠ 0 by decide)
  obtain ⟨ρ₁, hρ₁⟩ : ∃ ρ₁ : Rho, ρ₁ = (ρ₀.set 3 (.lst μ.length)).set 4 (.int m) := ⟨_, rfl⟩
  have h2 := two_eq (ρ := ρ₁) (f := f) (g := g) (m := m) (n := 1 + n) (by first | assumption | exact Nat.zero_le _ | exact lt_big (by assumption) (by assumption) | decide | omega) (by first | assumption | exact Nat.zero_le _ | exact lt_big (by assumption) (by assumption) | decide | omega) hg hW0 (by simp [hρ₁, hρ₀]) (by simp [hρ₁, hρ₀]) (by simp [hρ₁]) (by simp [hρ₁])
  obtain ⟨ρ₂, ξ, e2, hpre, q0, q1, q3, m', rs, W, q4, hW, hWl, htot, hok, hinj, hgt⟩ := h2
  have z0 : ρ₂ 0 = some (.scr ns) := by rw [q0]; simp [hρ₁, hρ₀]
  have z1 : ρ₂ 1 = some (.int f) := by rw [q1]; simp [hρ₁, hρ₀]
  have z3 : ρ₂ 3 = some (.lst μ.length) := by rw [q3]; simp [hρ₁]
  have y1 : ∀ x, (Rho.set ρ₀ 3 x) 1 = some (.int f) := fun x => by simp [hρ₀]
  have x0 : ∀ x, (Rho.set (fun i => [MV.scr ns][i]?) 1 x) 0 = some (.scr ns) := fun x => by simp
  have y0 : ρ₀ 1 = some (.int f) := by simp [hρ₀]
  simp only [ev_seq, ev_assign, ev_call, ev_cons, ev_const, ev_nil, ev_var (show (fun i => [MV.scr ns][i]?) 0 = some (.scr ns) from rfl), ev_var (x0 _), consK_ok, consK2_ok, Out.bind_ok, c0, c1, asgK_ok, seqK_next, ← hρ₀, ev_comp, ev_rng1, ev_bin, ev_var y0, binK_ok, binK2_ok, fmod_int _ (show (3 : Int) ≠ 0 by decide), hn', add_int,
    rngK_ok (show -(2 ^ 62) ≤ 1 + (n : Int) ∧ 1 + (n : Int) < 2 ^ 62 by first | assumption | exact Nat.zero_le _ | exact lt_big (by assumption) (by assumption) | decide | omega), hr1, compK_ok, cn, ev_var (y1 _), D24, M9, hm', ← hρ₁, e2, ev_for, ev_var q4, rngK_ok (show -(2 ^ 62) ≤ (m' : Int) ∧ (m' : Int) < 2 ^ 62 by first | assumption | exact Nat.zero_le _ | exact lt_big (by assumption) (by assumption) | decide | omega), range0, forK_ok]
  refine loop_rule (P := fun o => Gives (defK (seqK o _)) _) (fun i ρ μ' => μ <+: μ' ∧ i ≤ m' ∧ ρ 0 = some (.scr ns) ∧ ρ 1 = some (.int f) ∧ ρ 3 = some (.lst μ.length) ∧ ∃ W : List (List St), W.length = 1 + n ∧ WebAt μ' μ.length rs W ∧ total W + (m' - i) ≤ 8 ∧ ∀ row ∈ W, ∀ s ∈ row, s.ok)
    (fun _ _ _ _ => trivial) ⟨hpre μ (Nat.le_refl _) pν, by first | assumption | exact Nat.zero_le _ | exact lt_big (by assumption) (by assumption) | decide | omega, z0, z1, z3, W, hWl, hW, by first | assumption | exact Nat.zero_le _ | exact lt_big (by assumption) (by assumption) | decide | omega, hok⟩ ?_ ?_
  · rintro i v ρ μ' hv ⟨hp, hi, h0, h1, h3, W, hWl, hW, htot, hok⟩
    obtain ⟨y, hy, rfl⟩ := map_get hv
    obtain ⟨hlt, rfl⟩ : i < m' ∧ y = i := by
      rw [List.getElem?_eq_some_iff] at hy
      obtain ⟨q, e⟩ := hy
      simp at q e; exact ⟨q, e.symm⟩
    have c2 : f__law_cell_at [.scr ns, .int (2 + (y : Int))] μ' = .ok (.int (ns[2 + y]?.getD 0)) μ' := cell_at_eq (n := 2 + y) hns (by first | assumption | exact Nat.zero_le _ | exact lt_big (by assumption) (by assumption) | decide | omega)
    have hbits := cell_bits hl (2 + y) y (by first | assumption | exact Nat.zero_le _ | exact lt_big (by assumption) (by assumption) | decide | omega)
    generalize ns[2 + y]?.getD 0 = cell at c2 hbits
    have hlen : lenM [.lst μ.length] μ' = .ok (.int (W.length : Int)) μ' := by
      rw [len_lst hW.top (by rw [List.length_map, hW.len]; omega), List.length_map, hW.len]
    obtain ⟨h, hh, hhl⟩ := fmod_nat ((cell + 3 * (y : Int)).fdiv 13) (b := W.length) (by first | assumption | exact Nat.zero_le _ | exact lt_big (by assumption) (by assumption) | decide | omega)
    have hrow : W[h]? = some W[h] := List.getElem?_eq_getElem hhl
    have hrl : h < rs.length := by rw [hW.len]; exact hhl
    have hid : rs[h]? = some rs[h] := List.getElem?_eq_getElem hrl
    have hix : idxM (.lst μ.length) (.int h) μ' = .ok (.lst rs[h]) μ' := idx_lst hW.top (by simp [hrl]) (by first | assumption | exact Nat.zero_le _ | exact lt_big (by assumption) (by assumption) | decide | omega)
    have hat := hW.row h _ _ hid hrow
    have hrt : W[h].length ≤ 8 := by have := row_le_total (List.getElem_mem hhl); omega
    have hsz : (W[h].map St.mv).length ≤ sizeLine := by simp; unfold sizeLine; omega
    have hne : (W.length : Int) ≠ 0 := by first | assumption | exact Nat.zero_le _ | exact lt_big (by assumption) (by assumption) | decide | omega
    have D13 := fdiv_int (μ := μ') (cell + 3 * (y : Int)) (show (0 : Int) < 13 ∧ (13 : Int) < 2 ^ 30 by decide)
    have D3 := fdiv_int (μ := μ') f (show (0 : Int) < 3 ∧ (3 : Int) < 2 ^ 30 by decide)
    have M4 := fmod_int (μ := μ') (f.fdiv 3) (show (4 : Int) ≠ 0 by decide)
    have hstep : f__law_step_by [.int (cell + 3 * (y : Int)), .int (1 + (b : Int))] μ' = .ok (stepP (cell + 3 * (y : Int)) (1 + b)).mv μ' := step_by_eq (b := 1 + b) (by first | assumption | exact Nat.zero_le _ | exact lt_big (by assumption) (by assumption) | decide | omega) hbits μ'
    have hgr := hgt rs[h] (List.getElem_mem hrl)
    simp [putAt, intMv, ev_var, h0, h1, h3, c2, mul3 (show y ≤ 100 by first | assumption | exact Nat.zero_le _ | exact lt_big (by assumption) (by assumption) | decide | omega), D13, hlen, fmod_int _ hne, hh, hix, D3, M4, hb', hstep, appK2_ok hat hsz]
    refine ⟨pre_set hp (by first | assumption | exact Nat.zero_le _ | exact lt_big (by assumption) (by assumption) | decide | omega), by first | assumption | exact Nat.zero_le _ | exact lt_big (by assumption) (by assumption) | decide | omega, W.set h (W[h] ++ [stepP (cell + 3 * (y : Int)) (1 + b)]), by simpa using hWl, web_append hW hinj hgt hid hrow, by rw [total_set hrow]; omega, mem_set_append hok hrow (stepP_ok _ (by first | assumption | exact Nat.zero_le _ | exact lt_big (by assumption) (by assumption) | decide | omega) (by first | assumption | exact Nat.zero_le _ | exact lt_big (by assumption) (by assumption) | decide | omega))⟩
  · rintro ρ μ' ⟨hp, hi, h0, h1, h3, W, hWl, hW, htot, hok⟩
    simp [ev_var h3]
    exact ⟨hp, W, ⟨rs, hW⟩, webOk_of (by first | assumption | exact Nat.zero_le _ | exact lt_big (by assumption) (by assumption) | decide | omega) (by first | assumption | exact Nat.zero_le _ | exact lt_big (by assumption) (by assumption) | decide | omega) (by first | assumption | exact Nat.zero_le _ | exact lt_big (by assumption) (by assumption) | decide | omega) hok, by first | assumption | exact Nat.zero_le _ | exact lt_big (by assumption) (by assumption) | decide | omega⟩
end
end Mine.L04

set_option linter.unusedVariables false
set_option linter.unusedSimpArgs false
namespace Mine.Com
open PySem Mine

theorem over_moves {W : List (List St)} {A : Ab} : decide ((movesN (canA W A) W.length).length = 0) = overA W A := by
  rw [Bool.eq_iff_iff]
  simp only [decide_eq_true_eq, overA, List.all_eq_true, List.mem_range, Bool.and_eq_true]
  constructor
  · intro h i hi
    have hno : ∀ x ∈ kinds, canA W A i x = false := fun x hx => by
      cases hc : canA W A i x with
      | false => rfl
      | true =>
        have := mem_movesN.mpr (⟨hi, hx, hc⟩ : (i, x).1 < W.length ∧ (i, x).2 ∈ kinds ∧ canA W A (i, x).1 (i, x).2 = true)
        rw [List.length_eq_zero_iff] at h
        rw [h] at this; cases this
    have h1 := hno (Str.ofString "send") (by simp [kinds])
    have h2 := hno (Str.ofString "step") (by simp [kinds])
    rw [canA_send] at h1
    have hz : A.ll[i]?.getD 0 = 0 := by simpa using h1
    refine ⟨?_, hz⟩
    have hss : (Str.ofString "step" == Str.ofString "send") = false := by decide +kernel
    unfold canA canN at h2
    rw [hss, hz] at h2
    by_cases hd : (W[i]?.getD []).length ≤ A.done[i]?.getD 0
    · exact hd
    · simp [hd] at h2
      cases hg : (W[i]?.getD [])[A.done[i]?.getD 0]? with
      | none => rw [hg] at h2; simp at h2
      | some s => rw [hg] at h2; cases s <;> simp at h2
  · intro h
    rw [List.length_eq_zero_iff]
    cases hm : movesN (canA W A) W.length with
    | nil => rfl
    | cons m r =>
      have := mem_movesN.mp (show m ∈ movesN (canA W A) W.length by rw [hm]; exact List.mem_cons_self)
      obtain ⟨i, x⟩ := m
      obtain ⟨hi, hx, hc⟩ := this
      obtain ⟨g1, g2⟩ := h i hi
      have hi : i < W.length := hi
      have hx : x ∈ kinds := hx
      have hc : canA W A i x = true := hc
      simp [kinds] at hx
      rcases hx with rfl | rfl
      · have := canA_step hc; omega
      · rw [canA_send] at hc; simp at hc; omega

theorem over_movesB {W : List (List St)} {s : S} : decide ((movesN (canB W s) W.length).length = 0) = overB W s := by
  rw [over_ab, ← over_moves]
  have : canB W s = canA W s.ab := by funext h x; exact can_ab W s h x
  rw [this]
theorem not_over {W : List (List St)} {s : S} {h : Nat} {x : Str} (hh : h < W.length) (hx : x ∈ kinds) (hc : canB W s h x = true) : overB W s = false := by
  rw [← over_movesB, decide_eq_false_iff_not]
  intro e
  have := mem_movesN.mpr (⟨hh, hx, hc⟩ : (h, x).1 < W.length ∧ (h, x).2 ∈ kinds ∧ canB W s (h, x).1 (h, x).2 = true)
  rw [List.length_eq_zero_iff] at e
  rw [e] at this; cases this

/-! runs of moves -/
noncomputable def Move (n : Nat) (m : Nat × Str) : Prop := m.1 < n ∧ m.2 ∈ kinds
noncomputable def runS (W : List (List St)) : S → List (Nat × Str) → S
  | s, [] => s
  | s, m :: ms => runS W (movedP W s m.1 m.2) ms
noncomputable def CanAll (W : List (List St)) : S → List (Nat × Str) → Prop
  | _, [] => True
  | s, m :: ms => (Move W.length m ∧ canB W s m.1 m.2 = true) ∧ CanAll W (movedP W s m.1 m.2) ms
section
variable {W : List (List St)}
theorem run_append : ∀ {ms ms' : List (Nat × Str)} {s : S}, runS W s (ms ++ ms') = runS W (runS W s ms) ms'
  | [], _, _ => rfl
  | m :: ms, ms', s => run_append (ms := ms) (s := movedP W s m.1 m.2)
theorem all_append : ∀ {ms ms' : List (Nat × Str)} {s : S}, CanAll W s (ms ++ ms') ↔ CanAll W s ms ∧ CanAll W (runS W s ms) ms'
  | [], _, _ => by simp [CanAll, runS]
  | m :: ms, ms', s => by
    have := all_append (ms := ms) (ms' := ms') (s := movedP W s m.1 m.2)
    simp only [List.cons_append, CanAll, runS, this, and_assoc]
theorem all_take {ms : List (Nat × Str)} {s : S} (h : CanAll W s ms) (i : Nat) : CanAll W s (ms.take i) := by
  rw [← List.take_append_drop i ms, all_append] at h; exact h.1
theorem all_get {ms : List (Nat × Str)} {s : S} (h : CanAll W s ms) {i : Nat} {m : Nat × Str} (hm : ms[i]? = some m) : Move W.length m ∧ canB W (runS W s (ms.take i)) m.1 m.2 = true := by
  have hl := (List.getElem?_eq_some_iff.mp hm).1
  rw [← List.take_append_drop i ms, all_append, List.drop_eq_getElem_cons hl] at h
  rw [(List.getElem?_eq_some_iff.mp hm).2] at h
  exact h.2.1
theorem run_take {ms : List (Nat × Str)} {s : S} {i : Nat} {m : Nat × Str} (hm : ms[i]? = some m) : runS W s (ms.take (i + 1)) = movedP W (runS W s (ms.take i)) m.1 m.2 := by
  have hl := (List.getElem?_eq_some_iff.mp hm).1
  rw [List.take_succ_eq_append_getElem hl, (List.getElem?_eq_some_iff.mp hm).2, run_append]; rfl
noncomputable def Small (c : Nat) (s : S) : Prop := (∀ l ∈ s.lines, l.length ≤ c) ∧ (∀ g ∈ s.got, g.length ≤ c) ∧ (∀ d ∈ s.done, d ≤ c)
theorem run_ok (ok : WebOk W) : ∀ {ms : List (Nat × Str)} {s : S} {c : Nat}, CanAll W s ms → SOk W.length s → Small c s → c + ms.length ≤ 99 → SOk W.length (runS W s ms) ∧ Small (c + ms.length) (runS W s ms)
  | [], s, c, _, so, hs, _ => ⟨so, hs⟩
  | m :: ms, s, c, ha, so, hs, hc => by
    simp only [List.length_cons] at hc
    have h1 := moved_ok ok ha.1.1.2 so ha.1.1.1 ha.1.2 hs (by first | assumption | exact Nat.zero_le _ | exact lt_big (by assumption) (by assumption) | decide | omega)
    have := run_ok ok (ms := ms) (c := c + 1) ha.2 h1.1 h1.2 (by first | assumption | exact Nat.zero_le _ | exact lt_big (by assumption) (by assumption) | decide | omega)
    simp only [List.length_cons]
    rw [show c + (ms.length + 1) = c + 1 + ms.length from by first | assumption | exact Nat.zero_le _ | exact lt_big (by assumption) (by assumption) | decide | omega]
    exact this
theorem small0 (n : Nat) : Small 0 (S0 n) := by
  refine ⟨?_, ?_, ?_⟩
  · intro l hl; simp [S0] at hl; simp [hl.2]
  · intro l hl; simp [S0] at hl; simp [hl.2]
  · intro l hl; simp [S0] at hl; simp [hl.2]
theorem run_done (ok : WebOk W) : ∀ {ms : List (Nat × Str)} {s : S} {c : Nat}, CanAll W s ms → SOk W.length s → Small c s → c + ms.length ≤ 99 → (∀ h, h < W.length → s.done[h]?.getD 0 ≤ (W[h]?.getD []).length) → ∀ h, h < W.length → (runS W s ms).done[h]?.getD 0 ≤ (W[h]?.getD []).length
  | [], s, c, _, so, hs, _, hd => hd
  | m :: ms, s, c, ha, so, hs, hc, hd => by
    simp only [List.length_cons] at hc
    have h1 := moved_ok ok ha.1.1.2 so ha.1.1.1 ha.1.2 hs (by first | assumption | exact Nat.zero_le _ | exact lt_big (by assumption) (by assumption) | decide | omega)
    have hA : canA W s.ab m.1 m.2 = true := by rw [← can_ab]; exact ha.1.2
    have hdn := stepA_done_le (A := s.ab) ha.1.1.2 ha.1.1.1 so.done hA hd
    rw [← moved_ab ha.1.1.2 so ha.1.1.1 hA] at hdn
    exact run_done ok (ms := ms) (c := c + 1) ha.2 h1.1 h1.2 (by first | assumption | exact Nat.zero_le _ | exact lt_big (by assumption) (by assumption) | decide | omega) hdn
end

/-! strings times 0 and 1 -/
section
variable {μ : MH}
theorem mul_str0 (x : Str) : mulM (.str x) (.int 0) μ = .ok (.str Str.empty) μ := by
  have h : MulOk x 0 := ⟨by decide, fun h => absurd (by decide) h, fun h => absurd (by decide) h⟩
  exact if_pos h
theorem mul_str1 (x : Str) : mulM (.str x) (.int 1) μ = .ok (.str x) μ := by
  have h : MulOk x 1 := ⟨by decide, fun _ h => by simp at h, fun _ h => by simp at h⟩
  exact if_pos h
theorem add_str {x y : Str} (h : x.length + y.length ≤ sizeLine) : addM (.str x) (.str y) μ = .ok (.str (x ++ y)) μ := if_pos h
end
end Mine.Com

set_option linter.unusedVariables false
set_option linter.unusedSimpArgs false
namespace Mine
open PySem
theorem try_ok {cs : List Str} {d : Str} {f h : DS} {ρ : Rho} {μ μ₁ : MH} {r : Fl × Rho} (e : f ρ μ = .ok r μ₁) : dTry cs d f h ρ μ = .ok r μ₁ := by unfold dTry; rw [e]
theorem try_exc {cs : List Str} {c d : Str} {f h : DS} {ρ : Rho} {μ μ₁ : MH} (e : f ρ μ = .exc c μ₁) (hc : c ∈ cs) (hs : subX c d = true) : dTry cs d f h ρ μ = h ρ μ₁ := by
  unfold dTry; rw [e]
  simp only [hc, hs, if_true]
end Mine
namespace Mine.L04
open PySem Mine Mine.Com

theorem range_map {α β : Type} {l : List α} {f : α → β} {d : α} {n : Nat} (h : l.length = n) : (List.range n).map (fun i => f (l[i]?.getD d)) = l.map f := by
  subst h
  apply List.ext_getElem
  · simp
  · intro i h1 h2
    simp at h1 h2
    simp [h2]
noncomputable def endMv (s : S) : MV := .tup [.tup (s.boxes.map .int), .tup (s.got.map gotMv)]
theorem end_py (s : S) : PyOk 8 (endMv s) := by
  refine PyOk.tup fun x hx => ?_
  simp only [List.mem_cons, List.not_mem_nil, or_false] at hx
  rcases hx with rfl | rfl
  · exact PyOk.tup fun x hx => by obtain ⟨a, _, rfl⟩ := List.mem_map.mp hx; exact PyOk.int
  · exact PyOk.tup fun x hx => by
      obtain ⟨a, _, rfl⟩ := List.mem_map.mp hx
      exact PyOk.tup fun x hx => by obtain ⟨a, _, rfl⟩ := List.mem_map.mp hx; exact PyOk.int

section
variable {μ : MH} {k B n : Nat} {rs : List Nat} {W : List (List St)} {s : S}
theorem begun_same : f__law_begun = O4.f__law_begun := rfl
theorem do_same : f__law_do = O4.f__law_do := rfl

theorem law_end_eq (O : O4.Own μ B n s) (so : SOk n s) (n3 : n ≤ 3) : ∃ μ', f__law_end [.lst (B + 2 * n + 5)] μ = .ok (endMv s) μ' ∧ μ <+: μ' := by
  have hg : ∀ i, i < n → (s.got[i]?.getD []).length ≤ 1000 := fun i hi => by
    have : i < s.got.length := by rw [so.got]; exact hi
    have h2 := so.gots _ (List.getElem_mem this)
    simp [this]; omega
  have it2 : (ids (B + n + 4) n).map MV.lst = (List.range n).map fun i => MV.lst (B + n + 4 + 1 + i) := by simp [ids]
  have hgt := O.gts
  rw [it2] at hgt
  have i2 := idx_lst2 O.top
  have i3 := idx_lst3 O.top
  have t2 := tuple_lst O.box (by simp [so.boxes])
  obtain ⟨ρ₁, hρ₁⟩ : ∃ ρ₁ : Rho, ρ₁ = fun i => [MV.lst (B + 2 * n + 5)][i]? := ⟨_, rfl⟩
  obtain ⟨ξ, e2, p2, h2⟩ := comp_filter (μ₀ := μ) (ρ := ρ₁) (put := putAt 1) (G := fun μ => μ[B + n + 4]? = some ((List.range n).map fun i => MV.lst (B + n + 4 + 1 + i))) (c := dConst (.bool true)) (e := dCall tupleM (dCons (dVar 1) dNil))
    (List.range n) (fun i => MV.lst (B + n + 4 + 1 + i)) (fun _ => true) (fun i => gotMv (s.got[i]?.getD [])) (fun x hx μ₂ p2 => ⟨μ₂, rfl, List.prefix_refl _⟩)
    (fun x hx μ₂ p2 => ⟨μ₂, by
      have hx := List.mem_range.mp hx
      have := tuple_lst (get_pre p2 (O.got x hx)) (by simpa using hg x hx)
      simp [putAt, ev_var, this, gotMv], List.prefix_refl _⟩) (fun μ p => get_pre p hgt) (by simp; omega)
  rw [show (List.range n).filter (fun _ => true) = List.range n from List.filter_eq_self.mpr (by simp), range_map so.got] at h2
  have t3 := tuple_lst h2 (by simp [so.got]; omega)
  refine ⟨ξ, ?_, p2⟩
  have v1 : ρ₁ 0 = some (.lst (B + 2 * n + 5)) := by simp [hρ₁]
  rw [f__law_end, ev_def (k := 1) rfl, ← hρ₁]
  simp only [d__law_end, ev_seq, ev_call, ev_cons, ev_comp, ev_seqI, ev_bin, ev_const, ev_nil, binK_ok, binK2_ok, compK_ok, consK_ok, consK2_ok, Out.bind_ok, ev_ret, ev_tup, ev_var v1, i2, i3, t2, itK_lst hgt, e2, t3, tupK_ok, retK_ok, seqK_ret, defK_ret]
  rfl

theorem end_of_eq (hW : WebAt μ k rs W) (ok : WebOk W) (so : SOk W.length s) : f_end_of [.lst k, s.mv] μ = if overB W s then .ok (endMv s) μ else .exc (Str.ofString "NotOver") μ := by
  have hov := over_eq hW ok so
  rw [f_end_of, ev_def (k := 2) rfl]
  have i2 : idxM s.mv (.int 2) μ = .ok (.tup (s.boxes.map .int)) μ := by simp [S.mv]
  have i3 : idxM s.mv (.int 3) μ = .ok (.tup (s.got.map gotMv)) μ := by simp [S.mv]
  cases hb : overB W s with
  | true =>
    rw [hb] at hov
    simp [d_end_of, ev_var, hov, i2, i3, endMv]
  | false =>
    rw [hb] at hov
    simp [d_end_of, ev_var, hov]

theorem moves_own (hW : WebAt μ k rs W) (ok : WebOk W) (O : O4.Own μ B W.length s) (so : SOk W.length s) (hdn : ∀ h, h < W.length → s.done[h]?.getD 0 ≤ (W[h]?.getD []).length) :
    ∃ μ' j, f__law_moves [.lst k, .lst (B + 2 * W.length + 5)] μ = .ok (.lst j) μ' ∧ μ <+: μ' ∧ μ'[j]? = some ((movesN (canB W s) W.length).map moveMv) := by
  obtain ⟨μ', j, e, p, h⟩ := law_moves_eq hW ok (O.at_ so.lines) so.done (by simp [so.lines]) hdn
  refine ⟨μ', j, e, p, ?_⟩
  rw [h]
  congr 3
  funext h x
  rw [canB_canN]
  congr 1
  rw [List.getElem?_map]
  cases s.lines[h]? <;> simp
theorem moves_flat {f : Nat → Str → Bool} {n : Nat} : ∀ x ∈ (movesN f n).map moveMv, Flat x := fun x hx => by
  obtain ⟨m, hm, rfl⟩ := List.mem_map.mp hx
  exact flat_move (kinds_ok (mem_movesN.mp hm).2.1)

theorem over_good_eq (hW : WebAt μ k rs W) (ok : WebOk W) (O : O4.Own μ B W.length s) (so : SOk W.length s) (hdn : ∀ h, h < W.length → s.done[h]?.getD 0 ≤ (W[h]?.getD []).length) :
    ∃ μ', f__law_over_good [.lst k, s.mv, .lst (B + 2 * W.length + 5)] μ = .ok (.bool true) μ' ∧ μ <+: μ' := by
  have n3 := ok.three
  obtain ⟨ν, j, em, pm, hm⟩ := moves_own hW ok O so hdn
  have heq := eq_nil (μ := ν ++ [[]]) (get_pre (pre_app _ _) hm) (get_last []) moves_flat
  rw [List.length_map, over_movesB] at heq
  have p1 := pm.trans (pre_app ν [[]])
  have hov := over_eq (μ := ν ++ [[]]) (hW.mono p1) ok so
  have hen := end_of_eq (μ := ν ++ [[]]) (hW.mono p1) ok so
  obtain ⟨ξ, el, pl⟩ := law_end_eq (O.mono p1) so n3
  have hpy := eq_py (μ := ξ) (end_py s)
  have hc : Str.ofString "NotOver" ∈ xs := by decide +kernel
  have hs : subX (Str.ofString "NotOver") (Str.ofString "NotOver") = true := by decide +kernel
  rw [f__law_over_good, ev_def (k := 3) rfl]
  obtain ⟨ρ₁, hρ₁⟩ : ∃ ρ₁ : Rho, ρ₁ = Rho.set (Rho.set (fun i => [MV.lst k, s.mv, .lst (B + 2 * W.length + 5)][i]?) 3 (.bool (overB W s))) 4 (.bool (overB W s)) := ⟨_, rfl⟩
  have v0 : ρ₁ 0 = some (.lst k) := by simp [hρ₁]
  have v1 : ρ₁ 1 = some s.mv := by simp [hρ₁]
  have v2 : ρ₁ 2 = some (.lst (B + 2 * W.length + 5)) := by simp [hρ₁]
  have v3 : ρ₁ 3 = some (.bool (overB W s)) := by simp [hρ₁]
  have v4 : ρ₁ 4 = some (.bool (overB W s)) := by simp [hρ₁]
  have w0 : ∀ x, (Rho.set (fun i => [MV.lst k, s.mv, .lst (B + 2 * W.length + 5)][i]?) 3 x) 0 = some (.lst k) := fun x => by simp
  have w1 : ∀ x, (Rho.set (fun i => [MV.lst k, s.mv, .lst (B + 2 * W.length + 5)][i]?) 3 x) 1 = some s.mv := fun x => by simp
  simp only [d__law_over_good, ev_seq, ev_assign, ev_bin, ev_call, ev_cons, ev_nil, ev_var (show (fun i => [MV.lst k, s.mv, .lst (B + 2 * W.length + 5)][i]?) 0 = some (.lst k) from rfl), ev_var (show (fun i => [MV.lst k, s.mv, .lst (B + 2 * W.length + 5)][i]?) 2 = some (.lst (B + 2 * W.length + 5)) from rfl), consK_ok, consK2_ok, Out.bind_ok, em, binK_ok, ev_list, listK_ok, binK2_ok, heq, asgK_ok, seqK_next, ev_var (w0 _), ev_var (w1 _), hov, ← hρ₁, ev_ifs, ev_or, ev_not, ev_op1, ev_var v4, ev_var v3, isi_bool, notK_ok, Bool.not_true, orK_false, ne_bool, beq_self_eq_true, ifK_false, ev_skip]
  cases hb : overB W s with
  | true =>
    rw [hb] at hen
    simp only [if_true] at hen
    have e1 : (dAssign 5 (dCall f_end_of (dCons (dVar 0) (dCons (dVar 1) dNil)))) ρ₁ (ν ++ [[]]) = .ok (.next, ρ₁.set 5 (endMv s)) (ν ++ [[]]) := by
      simp [ev_var, v0, v1, hen]
    rw [try_ok e1]
    rw [hb] at v3
    have it : ∀ μ, isiM .tuple (endMv s) μ = .ok (.bool true) μ := fun μ => rfl
    refine ⟨ξ, ?_, p1.trans pl⟩
    simp [ev_var, v2, v3, it, el, hpy]
  | false =>
    rw [hb] at hen
    simp only [Bool.false_eq_true, if_false] at hen
    have e1 : (dAssign 5 (dCall f_end_of (dCons (dVar 0) (dCons (dVar 1) dNil)))) ρ₁ (ν ++ [[]]) = .exc (Str.ofString "NotOver") (ν ++ [[]]) := by
      simp [ev_var, v0, v1, hen]
    rw [try_exc e1 hc hs]
    rw [hb] at v3
    refine ⟨_, ?_, p1⟩
    simp [ev_var, v3]

/-! woven, and what the law says of it -/
theorem woven_eq {j : Nat} {ms : List (Nat × Str)} {tail : List MV} (hW : WebAt μ k rs W) (ok : WebOk W) (hj : μ[j]? = some (ms.map moveMv ++ tail)) (ha : CanAll W (S0 W.length) ms) (hl : ms.length ≤ 90)
    (ht : tail = [] ∨ ∃ v r, tail = v :: r ∧ ∀ μ', WebAt μ' k rs W → f_can [.lst k, (runS W (S0 W.length) ms).mv, v] μ' = .ok (.bool false) μ') :
    ∃ μ', f_woven [.lst k, .lst j] μ = (if tail.isEmpty then (if overB W (runS W (S0 W.length) ms) then .ok (endMv (runS W (S0 W.length) ms)) μ' else .exc (Str.ofString "NotOver") μ') else .exc (Str.ofString "NoMove") μ') ∧ μ <+: μ' := by
  obtain ⟨μ₁, eb, pb⟩ := begun_eq hW ok
  have hW1 := hW.mono pb
  have hj1 := get_pre pb hj
  refine ⟨μ₁, ?_, pb⟩
  rw [f_woven, ev_def (k := 2) rfl]
  simp [d_woven, ev_var, eb, itK_lst hj1]
  obtain ⟨R, hR⟩ : ∃ R : Out MV, R = (if tail = [] then (if overB W (runS W (S0 W.length) ms) = true then .ok (endMv (runS W (S0 W.length) ms)) μ₁ else .exc (Str.ofString "NotOver") μ₁) else .exc (Str.ofString "NoMove") μ₁) := ⟨_, rfl⟩
  rw [← hR]
  refine loop_rule_exc (P := fun o => defK (seqK o _) = R) (fun i ρ μ' => μ' = μ₁ ∧ i ≤ ms.length ∧ ρ 0 = some (.lst k) ∧ ρ 2 = some (runS W (S0 W.length) (ms.take i)).mv) (fun i ρ μ' h => by rw [h.1]; exact hj1) ⟨rfl, by first | assumption | exact Nat.zero_le _ | exact lt_big (by assumption) (by assumption) | decide | omega, by simp, by simp [runS]⟩ ?_ ?_
  · rintro i v ρ μ' hv ⟨rfl, hi, h0, h2⟩
    have hro := run_ok ok (all_take ha i) (S0_ok _) (small0 _) (by rw [List.length_take]; omega)
    by_cases hlt : i < ms.length
    · rw [List.getElem?_append_left (by simpa using hlt)] at hv
      obtain ⟨m, hm, rfl⟩ := map_get hv
      have hc := all_get ha hm
      have hmo := moved_any hW1 ok hro.1 hc.1.1 hc.1.2 hc.2
      have hmo' : f_moved [.lst k, (runS W (S0 W.length) (ms.take i)).mv, moveMv m] μ' = _ := hmo
      simp [putAt, ev_var, h0, h2, hmo', run_take hm]
      omega
    · have hie : i = ms.length := by first | assumption | exact Nat.zero_le _ | exact lt_big (by assumption) (by assumption) | decide | omega
      subst hie
      rw [List.take_length] at h2
      rcases ht with rfl | ⟨w, r, rfl, hcan⟩
      · simp at hv
      · rw [List.getElem?_append_right (by simp)] at hv
        simp at hv; subst hv
        have hno := moved_no (hcan μ' hW1)
        simp [putAt, ev_var, h0, h2, hno, hR]
  · rintro ρ μ' ⟨rfl, hi, h0, h2⟩
    have htl : tail = [] := by
      cases tail with
      | nil => rfl
      | cons a b => simp at hi; omega
    subst htl
    rw [List.append_nil, List.length_map, List.take_length] at h2
    have hro := run_ok ok ha (S0_ok _) (small0 _) (by first | assumption | exact Nat.zero_le _ | exact lt_big (by assumption) (by assumption) | decide | omega)
    have hen := end_of_eq hW1 ok hro.1
    rw [hR]
    simp only [if_true]
    simp [ev_var, h0, h2, hen]
    cases overB W (runS W (S0 W.length) ms) <;> simp

theorem word_eq {j : Nat} {c : Str} {μ' : MH} {w : String} (h : f_woven [.lst k, .lst j] μ = .exc c μ') (hc : (c = Str.ofString "NotOver" ∧ w = "over") ∨ (c = Str.ofString "NoMove" ∧ w = "move")) : f__law_word [.lst k, .lst j] μ = .ok (.str (Str.ofString w)) μ' := by
  rw [f__law_word, ev_def (k := 2) rfl]
  unfold d__law_word
  rw [ev_seq]
  have a1 : addM (.str (Str.ofString "move")) (.str Str.empty) μ' = .ok (.str (Str.ofString "move")) μ' := by
    rw [add_str (by decide +kernel)]; congr 2
  have a2 : addM (.str Str.empty) (.str (Str.ofString "over")) μ' = .ok (.str (Str.ofString "over")) μ' := by
    rw [add_str (by decide +kernel)]; congr 2
  have a3 : addM (.str (Str.ofString "over")) (.str Str.empty) μ' = .ok (.str (Str.ofString "over")) μ' := by
    rw [add_str (by decide +kernel)]; congr 2
  rcases hc with ⟨rfl, rfl⟩ | ⟨rfl, rfl⟩
  · have hc : Str.ofString "NotOver" ∈ xs := by decide +kernel
    have s1 : subX (Str.ofString "NotOver") (Str.ofString "WebError") = true := by decide +kernel
    have s2 : subX (Str.ofString "NotOver") (Str.ofString "BadWeb") = false := by decide +kernel
    have s3 : subX (Str.ofString "NotOver") (Str.ofString "NoMove") = false := by decide +kernel
    have s4 : subX (Str.ofString "NotOver") (Str.ofString "NotOver") = true := by decide +kernel
    have s5 : subX (Str.ofString "NotOver") (Str.ofString "NoText") = false := by decide +kernel
    have s6 : subX (Str.ofString "NotOver") (Str.ofString "NoPlace") = false := by decide +kernel
    have s7 : subX (Str.ofString "NotOver") (Str.ofString "ValueError") = true := by decide +kernel
    obtain ⟨ρ', e⟩ : ∃ ρ', (dSeq (dAssign 3 (dOr (dOp1 (isiX xs (Str.ofString "BadWeb")) (dVar 2)) (dOr (dOp1 (isiX xs (Str.ofString "NoPlace")) (dVar 2)) (dOp1 (isiX xs (Str.ofString "NoText")) (dVar 2))))) (dSeq (dAssign 4 (dBin addM (dBin mulM (dConst (.str (Str.ofString "move"))) (dCall intOfM (dCons (dOp1 (isiX xs (Str.ofString "NoMove")) (dVar 2)) dNil))) (dBin mulM (dConst (.str (Str.ofString "over"))) (dCall intOfM (dCons (dOp1 (isiX xs (Str.ofString "NotOver")) (dVar 2)) dNil))))) (dSeq (dRet (dBin addM (dVar 4) (dBin mulM (dConst (.str (Str.ofString "other"))) (dCall intOfM (dCons (dOr (dVar 3) (dNot (dOp1 (isiX xs (Str.ofString "ValueError")) (dVar 2)))) dNil))))) dSkip))) (Rho.set (fun i => [MV.lst k, .lst j][i]?) 2 (.exc (Str.ofString "NotOver"))) μ' = .ok (.ret (.str (Str.ofString "over")), ρ') μ' := by
      simp [ev_var, isiX_ok hc, s2, s3, s4, s5, s6, s7, intOfM, mul_str0, mul_str1, a2, a3]
    rw [tryAs_ret (by simp [ev_var, h]) hc s1 e]
    simp
  · have hc : Str.ofString "NoMove" ∈ xs := by decide +kernel
    have s1 : subX (Str.ofString "NoMove") (Str.ofString "WebError") = true := by decide +kernel
    have s2 : subX (Str.ofString "NoMove") (Str.ofString "BadWeb") = false := by decide +kernel
    have s3 : subX (Str.ofString "NoMove") (Str.ofString "NoMove") = true := by decide +kernel
    have s4 : subX (Str.ofString "NoMove") (Str.ofString "NotOver") = false := by decide +kernel
    have s5 : subX (Str.ofString "NoMove") (Str.ofString "NoText") = false := by decide +kernel
    have s6 : subX (Str.ofString "NoMove") (Str.ofString "NoPlace") = false := by decide +kernel
    have s7 : subX (Str.ofString "NoMove") (Str.ofString "ValueError") = true := by decide +kernel
    obtain ⟨ρ', e⟩ : ∃ ρ', (dSeq (dAssign 3 (dOr (dOp1 (isiX xs (Str.ofString "BadWeb")) (dVar 2)) (dOr (dOp1 (isiX xs (Str.ofString "NoPlace")) (dVar 2)) (dOp1 (isiX xs (Str.ofString "NoText")) (dVar 2))))) (dSeq (dAssign 4 (dBin addM (dBin mulM (dConst (.str (Str.ofString "move"))) (dCall intOfM (dCons (dOp1 (isiX xs (Str.ofString "NoMove")) (dVar 2)) dNil))) (dBin mulM (dConst (.str (Str.ofString "over"))) (dCall intOfM (dCons (dOp1 (isiX xs (Str.ofString "NotOver")) (dVar 2)) dNil))))) (dSeq (dRet (dBin addM (dVar 4) (dBin mulM (dConst (.str (Str.ofString "other"))) (dCall intOfM (dCons (dOr (dVar 3) (dNot (dOp1 (isiX xs (Str.ofString "ValueError")) (dVar 2)))) dNil))))) dSkip))) (Rho.set (fun i => [MV.lst k, .lst j][i]?) 2 (.exc (Str.ofString "NoMove"))) μ' = .ok (.ret (.str (Str.ofString "move")), ρ') μ' := by
      simp [ev_var, isiX_ok hc, s2, s3, s4, s5, s6, s7, intOfM, mul_str0, mul_str1, a1]
    rw [tryAs_ret (by simp [ev_var, h]) hc s1 e]
    simp
end
end Mine.L04

set_option linter.unusedVariables false
set_option linter.unusedSimpArgs false
namespace Mine.L04
open PySem Mine Mine.Com
noncomputable def dCheck : DS := (dIfS (dAnd (dBin ltM (dVar 3) (dCall lenM (dCons (dVar 1) dNil))) (dBin neM (dCall f__law_word (dCons (dVar 0) (dCons (dBin cutTo (dVar 1) (dVar 3)) dNil))) (dConst (.str (Str.ofString "over"))))) (dSeq (dRet (dConst (.bool false))) dSkip) dSkip)
noncomputable def dLast : DS := (dSeq (dFor (iRange1 (dCall lenM (dCons (dVar 0) dNil))) (putAt 9) (dSeq (dFor (iSeq (dTup (dCons (dConst (.str (Str.ofString "step"))) (dCons (dConst (.str (Str.ofString "send"))) dNil)))) (putAt 10) (dSeq (dIfS (dAnd (dBin notInM (dTup (dCons (dVar 9) (dCons (dVar 10) dNil))) (dVar 6)) (dBin eqM (dBin fmodM (dBin fdivM (dVar 2) (dConst (.int 31))) (dConst (.int 2))) (dConst (.int 0)))) (dSeq (dAssign 8 (dTup (dCons (dVar 9) (dCons (dVar 10) dNil)))) dSkip) dSkip) dSkip)) dSkip)) (dSeq (dRet (dBin eqM (dCall f__law_word (dCons (dVar 0) (dCons (dBin addM (dBin addM (dBin cutTo (dVar 1) (dVar 3)) (dList (dCons (dVar 8) dNil))) (dBin cutFrom (dVar 1) (dVar 3))) dNil))) (dConst (.str (Str.ofString "move"))))) dSkip))
noncomputable def dOdd : DS := (dSeq (dAssign 7 (dList (dCons (dTup (dCons (dCall lenM (dCons (dVar 0) dNil)) (dCons (dConst (.str (Str.ofString "step"))) dNil))) (dCons (dTup (dCons (dNeg (dConst (.int 1))) (dCons (dConst (.str (Str.ofString "send"))) dNil))) (dCons (dTup (dCons (dConst (.int 0)) (dCons (dConst (.str (Str.ofString "stop"))) dNil))) (dCons (dTup (dCons (dConst (.int 0)) dNil)) (dCons (dTup (dCons (dConst (.int 0)) (dCons (dConst (.str (Str.ofString "step"))) (dCons (dConst (.int 1)) dNil)))) (dCons (dList (dCons (dConst (.int 0)) (dCons (dConst (.str (Str.ofString "step"))) dNil))) (dCons (dConst .none) (dCons (dConst (.int 5)) dNil)))))))))) (dSeq (dAssign 7 (dBin addM (dVar 7) (dList (dCons (dTup (dCons (dConst (.bool false)) (dCons (dConst (.str (Str.ofString "step"))) dNil))) (dCons (dTup (dCons (dConst (.str (Str.ofString "0"))) (dCons (dConst (.str (Str.ofString "step"))) dNil))) (dCons (dTup (dCons (dNeg (dConst (.int 1))) (dCons (dConst (.str (Str.ofString "step"))) dNil))) (dCons (dTup (dCons (dCall lenM (dCons (dVar 0) dNil)) (dCons (dConst (.str (Str.ofString "send"))) dNil))) (dCons (dTup (dCons (dConst (.int 0)) (dCons (dConst .none) dNil))) (dCons (dTup (dCons (dConst (.int 0)) (dCons (dConst (.str (Str.ofString ""))) dNil))) dNil))))))))) (dSeq (dAssign 8 (dBin idxM (dBin addM (dVar 7) (dList (dCons (dTup (dCons (dConst (.int 0)) (dCons (dConst (.str (Str.ofString "s"))) dNil))) (dCons (dTup (dCons (dConst (.int 0)) (dCons (dConst (.str (Str.ofString "step "))) dNil))) (dCons (dTup (dCons (dConst (.bool true)) (dCons (dConst (.str (Str.ofString "send"))) dNil))) (dCons (dTup (dCons (dConst (.int 0)) (dCons (dConst (.int 0)) dNil))) dNil)))))) (dBin fmodM (dBin fdivM (dVar 2) (dConst (.int 62))) (dConst (.int 18))))) dLast)))

section
variable {μ : MH} {k w a : Nat} {rs : List Nat} {W : List (List St)} {ms : List (Nat × Str)} {c : Int}
theorem check_eq {ρ : Rho} (hW : WebAt μ k rs W) (ok : WebOk W) (hw : μ[w]? = some (ms.map moveMv)) (hl : ms.length ≤ 90) (ha : CanAll W (S0 W.length) ms) (h0 : ρ 0 = some (.lst k)) (h1 : ρ 1 = some (.lst w)) (h3 : ρ 3 = some (.int a)) : ∃ μ', dCheck ρ μ = .ok (.next, ρ) μ' ∧ μ <+: μ' := by
  have hlw : lenM [.lst w] μ = .ok (.int ms.length) μ := by rw [len_lst hw (by simp; omega)]; simp
  unfold dCheck
  by_cases hlt : a < ms.length
  · have ct := cutTo_lst (n := a) hw (by simp; unfold sizeLine; omega)
    have p1 := pre_app μ [(ms.map moveMv).take a]
    obtain ⟨μ', e, p⟩ := woven_eq (j := μ.length) (ms := ms.take a) (tail := []) (hW.mono p1) ok (by rw [get_last]; simp) (all_take ha a) (by rw [List.length_take]; omega) (.inl rfl)
    have hc := all_get ha (List.getElem?_eq_getElem hlt)
    rw [not_over hc.1.1 hc.1.2 hc.2] at e
    have hwd := word_eq (w := "over") (by simpa using e) (.inl ⟨rfl, rfl⟩)
    have hne : neM (.str (Str.ofString "over")) (.str (Str.ofString "over")) μ' = .ok (.bool false) μ' := ne_lit (by decide +kernel) (by decide +kernel) (by decide +kernel)
    have hlt' : (a : Int) < (ms.length : Int) := by first | assumption | exact Nat.zero_le _ | exact lt_big (by assumption) (by assumption) | decide | omega
    refine ⟨μ', ?_, p1.trans p⟩
    simp only [ev_ifs, ev_and, ev_bin, ev_var h3, binK_ok, ev_call, ev_cons, ev_nil, ev_var h1, ev_var h0, consK_ok, consK2_ok, Out.bind_ok, hlw, binK2_ok, lt_int, hlt', decide_true, andK_true, ct, hwd, ev_const, hne, ifK_false, ev_skip]
  · have hlt' : ¬ (a : Int) < (ms.length : Int) := by first | assumption | exact Nat.zero_le _ | exact lt_big (by assumption) (by assumption) | decide | omega
    refine ⟨μ, ?_, List.prefix_refl _⟩
    simp only [ev_ifs, ev_and, ev_bin, ev_var h3, binK_ok, ev_call, ev_cons, ev_nil, ev_var h1, consK_ok, consK2_ok, Out.bind_ok, hlw, binK2_ok, lt_int, hlt', decide_false, andK_false, ifK_false, ev_skip]

/-- a thing that cannot be done in a state -/
noncomputable def BadAt (k : Nat) (rs : List Nat) (W : List (List St)) (s : S) (v : MV) : Prop := ∀ μ', WebAt μ' k rs W → f_can [.lst k, s.mv, v] μ' = .ok (.bool false) μ'

theorem not_in_moves {j n : Nat} {f : Nat → Str → Bool} (hj : μ[j]? = some ((movesN f n).map moveMv)) {h : Nat} {x : Str} (hh : h < n) (hx : x ∈ kinds) : notInM (.tup [.int h, .str x]) (.lst j) μ = .ok (.bool (!f h x)) μ := by
  have h1 : ∀ (d : Nat) (m : Nat × Str), toPy μ (d + 1) (moveMv m) = some (.tuple [.int m.1, .str m.2]) := fun d m => by cases d <;> rfl
  have h2 : ((movesN f n).map moveMv).mapM (toPy μ 7) = some ((movesN f n).map fun m => .tuple [.int m.1, .str m.2]) := mapM_get (by simp) fun i x y hx hy => by
    obtain ⟨q, hq, rfl⟩ := map_get hx
    obtain ⟨q', hq', rfl⟩ := map_get hy
    rw [hq] at hq'; cases hq'
    exact h1 6 q
  have h3 : ∀ l : List (Nat × Str), (∀ m ∈ l, m.2 ∈ kinds) → PyData.canLayAll0 (l.map fun m => PyData.tuple [.int m.1, .str m.2]) = true := fun l => by
    induction l with
    | nil => intro _; rfl
    | cons a l ih =>
      intro hm
      rw [List.map_cons, PyData.canLayAll0, ih fun m q => hm m (List.mem_cons_of_mem _ q)]
      have := kinds_ok (hm a List.mem_cons_self)
      simp [PyData.canLay0, PyData.canLayAll0, this]
  have h4 : anyEq (.tup [.int h, .str x]) (.lst j) μ = some (f h x) := by
    unfold anyEq
    rw [show toPy μ 8 (.tup [.int h, .str x]) = some (.tuple [.int h, .str x]) from h1 7 (h, x), toPy_lst hj h2]
    simp only [h3 _ (fun m hm => (mem_movesN.mp hm).2.1), PyData.canLay0, PyData.canLayAll0, kinds_ok hx, Bool.and_self, if_true]
    congr 1
    rw [Bool.eq_iff_iff]
    simp only [List.any_eq_true, List.mem_map]
    constructor
    · rintro ⟨_, ⟨q, hq, rfl⟩, he⟩
      simp [PyData.eqv, PyData.eqvAll] at he
      have := (mem_movesN.mp hq).2.2
      have e1 : q.1 = h := by first | assumption | exact Nat.zero_le _ | exact lt_big (by assumption) (by assumption) | decide | omega
      rw [e1, he.2] at this; exact this
    · intro hf
      exact ⟨_, ⟨(h, x), mem_movesN.mpr ⟨hh, hx, hf⟩, rfl⟩, by simp [PyData.eqv, PyData.eqvAll]⟩
  rw [notInM, h4]

theorem last_eq {ρ : Rho} {j : Nat} {v : MV} (hW : WebAt μ k rs W) (ok : WebOk W) (hw : μ[w]? = some (ms.map moveMv)) (hl : ms.length ≤ 90) (hal : a ≤ ms.length) (hA : CanAll W (S0 W.length) ms) (hj : μ[j]? = some ((movesN (canB W (runS W (S0 W.length) (ms.take a))) W.length).map moveMv))
    (hv : BadAt k rs W (runS W (S0 W.length) (ms.take a)) v) (h0 : ρ 0 = some (.lst k)) (h1 : ρ 1 = some (.lst w)) (h2 : ρ 2 = some (.int c)) (h3 : ρ 3 = some (.int a)) (h6 : ρ 6 = some (.lst j)) (h8 : ρ 8 = some v) : ∃ μ', defK (dLast ρ μ) = .ok (.bool true) μ' := by
  have n3 := ok.three
  have hlen := web_len hW ok
  have hro := run_ok ok (all_take hA a) (S0_ok _) (small0 _) (by rw [List.length_take]; omega)
  generalize hsd : runS W (S0 W.length) (ms.take a) = s at *
  suffices h : Gives (defK (dLast ρ μ)) (fun v _ => v = .bool true) by
    obtain ⟨v, μ', e, rfl⟩ := h
    exact ⟨μ', e⟩
  unfold dLast
  simp [ev_var, h0, hlen]
  rw [rngK_ok (by first | assumption | exact Nat.zero_le _ | exact lt_big (by assumption) (by assumption) | decide | omega)]
  simp only [forK_ok, range0]
  refine loop_rule (P := fun o => Gives (defK (seqK o _)) _) (fun i ρ ν => ν = μ ∧ ρ 0 = some (.lst k) ∧ ρ 1 = some (.lst w) ∧ ρ 2 = some (.int c) ∧ ρ 3 = some (.int a) ∧ ρ 6 = some (.lst j) ∧ ∃ v, ρ 8 = some v ∧ BadAt k rs W s v) (fun _ _ _ _ => trivial) ⟨rfl, h0, h1, h2, h3, h6, v, h8, hv⟩ ?_ ?_
  · rintro i u ρ ν hu ⟨rfl, h0, h1, h2, h3, h6, v, h8, hv⟩
    obtain ⟨y, hy, rfl⟩ := map_get hu
    obtain ⟨hlt, rfl⟩ : i < W.length ∧ y = i := by
      rw [List.getElem?_eq_some_iff] at hy
      obtain ⟨q, e⟩ := hy
      simp at q e; exact ⟨q, e.symm⟩
    simp only [putAt, intMv, ev_seq, ev_for, ev_seqI, ev_tup, ev_cons, ev_const, ev_nil, consK_ok, consK2_ok, tupK_ok, itK_tup, forK_ok]
    refine loop_rule (P := fun o => NextTo (seqK o _) _) (fun i ρ ν' => ν' = ν ∧ ρ 0 = some (.lst k) ∧ ρ 1 = some (.lst w) ∧ ρ 2 = some (.int c) ∧ ρ 3 = some (.int a) ∧ ρ 6 = some (.lst j) ∧ ρ 9 = some (.int y) ∧ ∃ v, ρ 8 = some v ∧ BadAt k rs W s v) (fun _ _ _ _ => trivial) ⟨rfl, by simp [h0], by simp [h1], by simp [h2], by simp [h3], by simp [h6], by simp, v, by simp [h8], hv⟩ ?_ ?_
    · rintro i u ρ ν' hu ⟨rfl, h0, h1, h2, h3, h6, h9, v, h8, hv⟩
      obtain ⟨x, hxm, rfl⟩ : ∃ x, x ∈ kinds ∧ u = .str x := by
        have : u ∈ kinds.map MV.str := List.mem_of_getElem? hu
        obtain ⟨x, hx, e⟩ := List.mem_map.mp this
        exact ⟨x, hx, e.symm⟩
      have hni := not_in_moves hj hlt hxm
      have D31 := fdiv_int (μ := ν') c (show (0 : Int) < 31 ∧ (31 : Int) < 2 ^ 30 by decide)
      have M2 := fmod_int (μ := ν') (c.fdiv 31) (show (2 : Int) ≠ 0 by decide)
      cases hb : canB W s y x with
      | true =>
        rw [hb] at hni
        simp [putAt, ev_var, h0, h1, h2, h3, h6, h8, h9, hni]
        exact hv
      | false =>
        rw [hb] at hni
        cases hc : (c.fdiv 31).fmod 2 == 0 with
        | false =>
          simp [putAt, ev_var, h0, h1, h2, h3, h6, h8, h9, hni, D31, M2, hc]
          exact hv
        | true =>
          simp [putAt, ev_var, h0, h1, h2, h3, h6, h8, h9, hni, D31, M2, hc]
          intro μ' hW'
          rw [← hb]
          exact can_eq hW' ok hro.1 hlt (kinds_ok hxm)
    · rintro ρ ν' ⟨rfl, h0, h1, h2, h3, h6, h9, v, h8, hv⟩
      simp only [seqK_next, ev_skip, nextTo_ok]
      exact ⟨trivial, h0, h1, h2, h3, h6, v, h8, hv⟩
  · rintro ρ ν ⟨rfl, h0, h1, h2, h3, h6, v, h8, hv⟩
    obtain ⟨ξ, u, e, p, hg⟩ := splice (ρ := ρ) (μ := ν) (w := w) (a := a) (b := a) (xs := ms.map moveMv) (vs := [v]) (fw := dVar 1) (fa := dVar 3) (fb := dVar 3) (fm := dCons (dVar 8) dNil) hw (by simp; omega) (by simp) (fun μ' _ => by simp [ev_var, h1]) (fun μ' _ => by simp [ev_var, h3]) (fun μ' _ => by simp [ev_var, h3]) (fun μ' _ => ⟨μ', by simp [ev_var, h8], List.prefix_refl _⟩)
    obtain ⟨ζ, e2, p2⟩ := woven_eq (j := u) (ms := ms.take a) (tail := v :: (ms.drop a).map moveMv) (hW.mono p) ok (by rw [hg]; simp) (all_take hA a) (by rw [List.length_take]; omega) (.inr ⟨v, _, rfl, fun μ' h => by rw [hsd]; exact hv μ' h⟩)
    have hwd := word_eq (w := "move") (by simpa using e2) (.inr ⟨rfl, rfl⟩)
    have heq : eqM (.str (Str.ofString "move")) (.str (Str.ofString "move")) ζ = .ok (.bool true) ζ := eq_lit (by decide +kernel) (by decide +kernel) (by decide +kernel)
    simp only [seqK_next, ev_seq, ev_ret, ev_bin eqM _ _, ev_call, ev_cons, ev_nil, ev_var h0, consK_ok, e, consK2_ok, Out.bind_ok, hwd, binK_ok, ev_const, binK2_ok, heq, retK_ok, seqK_ret, defK_ret, gives_ok]

noncomputable def odd1 (n l : Nat) : List MV := [.tup [.int n, .str (Str.ofString "step")], .tup [.int (-1), .str (Str.ofString "send")], .tup [.int 0, .str (Str.ofString "stop")], .tup [.int 0], .tup [.int 0, .str (Str.ofString "step"), .int 1], .lst l, .none, .int 5]
noncomputable def odd2 (n : Nat) : List MV := [.tup [.bool false, .str (Str.ofString "step")], .tup [.str (Str.ofString "0"), .str (Str.ofString "step")], .tup [.int (-1), .str (Str.ofString "step")], .tup [.int n, .str (Str.ofString "send")], .tup [.int 0, .none], .tup [.int 0, .str (Str.ofString "")]]
noncomputable def odd3 : List MV := [.tup [.int 0, .str (Str.ofString "s")], .tup [.int 0, .str (Str.ofString "step ")], .tup [.bool true, .str (Str.ofString "send")], .tup [.int 0, .int 0]]
theorem odd_refused (n l : Nat) : ∀ v ∈ odd1 n l ++ odd2 n ++ odd3, Refused n v := by
  intro v hv
  simp only [odd1, odd2, odd3, List.mem_append, List.mem_cons, List.not_mem_nil, or_false] at hv
  have third : ∀ x : Str, x ∉ kinds → PyData.strOk x = true → Refused n (.tup [.int 0, .str x]) := fun x h1 h2 => .inr (.inr ⟨0, x, rfl, h1, h2⟩)
  rcases hv with ((rfl | rfl | rfl | rfl | rfl | rfl | rfl | rfl) | (rfl | rfl | rfl | rfl | rfl | rfl)) | (rfl | rfl | rfl | rfl)
  · exact .inr (.inl ⟨_, _, rfl, by first | assumption | exact Nat.zero_le _ | exact lt_big (by assumption) (by assumption) | decide | omega⟩)
  · exact .inr (.inl ⟨_, _, rfl, by first | assumption | exact Nat.zero_le _ | exact lt_big (by assumption) (by assumption) | decide | omega⟩)
  · exact third _ (by decide +kernel) (by decide +kernel)
  · exact .inl rfl
  · exact .inl rfl
  · exact .inl rfl
  · exact .inl rfl
  · exact .inl rfl
  · exact .inl rfl
  · exact .inl rfl
  · exact .inr (.inl ⟨_, _, rfl, by first | assumption | exact Nat.zero_le _ | exact lt_big (by assumption) (by assumption) | decide | omega⟩)
  · exact .inr (.inl ⟨_, _, rfl, by first | assumption | exact Nat.zero_le _ | exact lt_big (by assumption) (by assumption) | decide | omega⟩)
  · exact .inl rfl
  · exact third _ (by decide +kernel) (by decide +kernel)
  · exact third _ (by decide +kernel) (by decide +kernel)
  · exact third _ (by decide +kernel) (by decide +kernel)
  · exact .inl rfl
  · exact .inl rfl

theorem odd_eq {ρ : Rho} {j : Nat} (hW : WebAt μ k rs W) (ok : WebOk W) (hw : μ[w]? = some (ms.map moveMv)) (hl : ms.length ≤ 90) (hal : a ≤ ms.length) (hA : CanAll W (S0 W.length) ms) (hj : μ[j]? = some ((movesN (canB W (runS W (S0 W.length) (ms.take a))) W.length).map moveMv))
    (h0 : ρ 0 = some (.lst k)) (h1 : ρ 1 = some (.lst w)) (h2 : ρ 2 = some (.int c)) (h3 : ρ 3 = some (.int a)) (h6 : ρ 6 = some (.lst j)) : ∃ μ', defK (dOdd ρ μ) = .ok (.bool true) μ' := by
  have hlk : ∀ μ' : MH, μ <+: μ' → lenM [.lst k] μ' = .ok (.int W.length) μ' := fun μ' q => web_len (hW.mono q) ok
  have hro := run_ok ok (all_take hA a) (S0_ok _) (small0 _) (by rw [List.length_take]; omega)
  obtain ⟨y, hy, hyl⟩ := fmod_nat (c.fdiv 62) (b := 18) (by first | assumption | exact Nat.zero_le _ | exact lt_big (by assumption) (by assumption) | decide | omega)
  have hy' : (c.fdiv 62).fmod 18 = (y : Int) := hy
  have D62 := fun (μ : MH) => fdiv_int (μ := μ) c (show (0 : Int) < 62 ∧ (62 : Int) < 2 ^ 30 by decide)
  have M18 := fun (μ : MH) => fmod_int (μ := μ) (c.fdiv 62) (show (18 : Int) ≠ 0 by decide)
  obtain ⟨o1, ho1⟩ : ∃ o, o = odd1 W.length μ.length := ⟨_, rfl⟩
  obtain ⟨o2, ho2⟩ : ∃ o, o = odd2 W.length := ⟨_, rfl⟩
  obtain ⟨o3, ho3⟩ : ∃ o, o = odd3 := ⟨_, rfl⟩
  have l1 : o1.length = 8 := by rw [ho1]; rfl
  have l2 : o2.length = 6 := by rw [ho2]; rfl
  have l3 : o3.length = 4 := by rw [ho3]; rfl
  obtain ⟨ν, hν⟩ : ∃ ν, ν = μ ++ [[MV.int 0, MV.str (Str.ofString "step")]] := ⟨_, rfl⟩
  have pν : μ <+: ν := by rw [hν]; exact pre_app _ _
  have a1 := add_lst (μ := ν ++ [o1] ++ [o2]) (get_pre (pre_app _ _) (get_last o1)) (get_last o2) (by unfold sizeLine; omega)
  have a2 := add_lst (μ := ν ++ [o1] ++ [o2] ++ [o1 ++ o2] ++ [o3]) (get_pre (pre_app _ _) (get_last (o1 ++ o2))) (get_last o3) (by rw [List.length_append]; unfold sizeLine; omega)
  have hyo : y < (o1 ++ o2 ++ o3).length := by simp only [List.length_append]; omega
  have hix := idx_lst (μ := ν ++ [o1] ++ [o2] ++ [o1 ++ o2] ++ [o3] ++ [o1 ++ o2 ++ o3]) (get_last _) (List.getElem?_eq_getElem hyo) (by first | assumption | exact Nat.zero_le _ | exact lt_big (by assumption) (by assumption) | decide | omega)
  have hl0 := hlk μ (List.prefix_refl _)
  have hl1 := hlk (ν ++ [o1]) (pν.trans (pre_app _ _))
  have pp : μ <+: ν ++ [o1] ++ [o2] ++ [o1 ++ o2] ++ [o3] ++ [o1 ++ o2 ++ o3] := pν.trans ((pre_app _ _).trans ((pre_app _ _).trans ((pre_app _ _).trans ((pre_app _ _).trans (pre_app _ _)))))
  have hR : Refused W.length (o1 ++ o2 ++ o3)[y] := odd_refused _ μ.length _ (by rw [← ho1, ← ho2, ← ho3]; exact List.getElem_mem _)
  have w0 : ∀ x, (Rho.set ρ 7 x) 0 = some (.lst k) := fun x => by simp [h0]
  have w2 : ∀ x y, (Rho.set (Rho.set ρ 7 x) 7 y) 2 = some (.int c) := fun x y => by simp [h2]
  have hs1 : [MV.tup [.int W.length, .str (Str.ofString "step")], .tup [.int (-1), .str (Str.ofString "send")], .tup [.int 0, .str (Str.ofString "stop")], .tup [.int 0], .tup [.int 0, .str (Str.ofString "step"), .int 1], .lst μ.length, .none, .int 5] = o1 := by rw [ho1]; rfl
  have hs2 : [MV.tup [.bool false, .str (Str.ofString "step")], .tup [.str (Str.ofString "0"), .str (Str.ofString "step")], .tup [.int (-1), .str (Str.ofString "step")], .tup [.int W.length, .str (Str.ofString "send")], .tup [.int 0, .none], .tup [.int 0, .str (Str.ofString "")]] = o2 := by rw [ho2]; rfl
  have hs3 : [MV.tup [.int 0, .str (Str.ofString "s")], .tup [.int 0, .str (Str.ofString "step ")], .tup [.bool true, .str (Str.ofString "send")], .tup [.int 0, .int 0]] = o3 := by rw [ho3]; rfl
  obtain ⟨v, hvv⟩ : ∃ v, v = (o1 ++ o2 ++ o3)[y] := ⟨_, rfl⟩
  rw [← hvv] at hR hix
  have fin := fun ρ' q0 q1 q2 q3 q6 q8 => last_eq (ρ := ρ') (c := c) (v := v) (hW.mono pp) ok (get_pre pp hw) hl hal hA (get_pre pp hj) (fun μ' h => can_refused h ok hro.1 hR) q0 q1 q2 q3 q6 q8
  unfold dOdd
  simp only [ev_seq, ev_assign, ev_list, ev_cons, ev_tup, ev_call, ev_var h0, ev_nil, ev_const, consK_ok, consK2_ok, Out.bind_ok, hl0, tupK_ok, ev_neg, negK_ok, listK_ok, ← hν, hs1, asgK_ok, seqK_next]
  simp only [ev_bin, ev_var (rho_set_self ..), binK_ok, ev_list, ev_cons, ev_tup, ev_call, ev_var (w0 _), ev_nil, ev_const, consK_ok, consK2_ok, Out.bind_ok, hl1, tupK_ok, ev_neg, negK_ok, listK_ok, hs2, binK2_ok, a1, asgK_ok, seqK_next, ev_seq, ev_assign, hs3, a2, ev_var (w2 _ _), D62, M18, hy', hix]
  refine fin (Rho.set (Rho.set (Rho.set ρ 7 _) 7 _) 8 _) ?_ ?_ ?_ ?_ ?_ ?_ <;> simp [h0, h1, h2, h3, h6]

theorem spoilt_good_eq (hW : WebAt μ k rs W) (ok : WebOk W) (hw : μ[w]? = some (ms.map moveMv)) (hl : ms.length ≤ 90) (hA : CanAll W (S0 W.length) ms) : ∃ μ', f__law_spoilt_good [.lst k, .lst w, .int c] μ = .ok (.bool true) μ' := by
  have n3 := ok.three
  have hlw : lenM [.lst w] μ = .ok (.int ms.length) μ := by rw [len_lst hw (by simp; omega)]; simp
  obtain ⟨a, ha, hal⟩ := fmod_nat c (b := ms.length + 1) (by first | assumption | exact Nat.zero_le _ | exact lt_big (by assumption) (by assumption) | decide | omega)
  have ha' : c.fmod ((ms.length : Int) + 1) = (a : Int) := by rw [← ha]; congr 1
  have hz1 : ((ms.length : Int) + 1) ≠ 0 := by first | assumption | exact Nat.zero_le _ | exact lt_big (by assumption) (by assumption) | decide | omega
  obtain ⟨ρ₁, hρ₁⟩ : ∃ ρ₁ : Rho, ρ₁ = Rho.set (fun i => [MV.lst k, .lst w, .int c][i]?) 3 (.int a) := ⟨_, rfl⟩
  obtain ⟨μ₁, e1, p1⟩ := check_eq (ρ := ρ₁) (a := a) hW ok hw hl hA (by simp [hρ₁]) (by simp [hρ₁]) (by simp [hρ₁])
  have hW1 := hW.mono p1
  obtain ⟨μ₂, e2, p2, O2⟩ := O4.law_begun_eq hW1 ok
  rw [← begun_same] at e2
  have hw2 := get_pre (p1.trans p2) hw
  have ct := cutTo_lst (n := a) hw2 (by simp; unfold sizeLine; omega)
  have hbig : μ₁.length + 2 * W.length + 5 < μ₂.length := (List.getElem?_eq_some_iff.mp O2.top).1
  suffices h : Gives (f__law_spoilt_good [.lst k, .lst w, .int c] μ) (fun v _ => v = .bool true) by
    obtain ⟨v, μ', e, rfl⟩ := h
    exact ⟨μ', e⟩
  rw [f__law_spoilt_good, ev_def (k := 3) rfl]
  rw [show d__law_spoilt_good = (dSeq (dAssign 3 (dBin fmodM (dVar 2) (dBin addM (dCall lenM (dCons (dVar 1) dNil)) (dConst (.int 1))))) (dSeq dCheck (dSeq (dAssign 4 (dCall f__law_begun (dCons (dVar 0) dNil))) (dSeq (dFor (iSeq (dBin cutTo (dVar 1) (dVar 3))) (putAt 5) (dSeq (dExpr (dCall f__law_do (dCons (dVar 0) (dCons (dVar 4) (dCons (dBin idxM (dVar 5) (dConst (.int 0))) (dCons (dBin idxM (dVar 5) (dConst (.int 1))) dNil)))))) dSkip)) (dSeq (dAssign 6 (dCall f__law_moves (dCons (dVar 0) (dCons (dVar 4) dNil)))) dOdd))))) from rfl]
  have v0 : ρ₁ 0 = some (.lst k) := by simp [hρ₁]
  have v1 : ∀ x, (Rho.set ρ₁ 4 x) 1 = some (.lst w) := fun x => by simp [hρ₁]
  have v3 : ∀ x, (Rho.set ρ₁ 4 x) 3 = some (.int a) := fun x => by simp [hρ₁]
  simp only [ev_seq, ev_assign, ev_bin, ev_call, ev_cons, ev_nil, ev_var (show (fun i => [MV.lst k, .lst w, .int c][i]?) 2 = some (.int c) from rfl), ev_var (show (fun i => [MV.lst k, .lst w, .int c][i]?) 1 = some (.lst w) from rfl), consK_ok, consK2_ok, Out.bind_ok, hlw, binK_ok, ev_const, binK2_ok, add_int, fmod_int _ hz1, ha', asgK_ok, seqK_next, ← hρ₁, e1, ev_var v0, e2, ev_for, ev_seqI, ev_var (v1 _), ev_var (v3 _), ct, itK_lst (get_last _), forK_ok]
  refine loop_rule (P := fun o => Gives (defK (seqK o _)) _) (fun i ρ ν => μ₁ <+: ν ∧ i ≤ a ∧ ν[μ₂.length]? = some ((ms.map moveMv).take a) ∧ ρ 0 = some (.lst k) ∧ ρ 1 = some (.lst w) ∧ ρ 2 = some (.int c) ∧ ρ 3 = some (.int a) ∧ ρ 4 = some (.lst (μ₁.length + 2 * W.length + 5)) ∧ O4.Own ν μ₁.length W.length (runS W (S0 W.length) (ms.take i))) (fun i ρ ν h => h.2.2.1)
    ⟨p2.trans (pre_app _ _), by first | assumption | exact Nat.zero_le _ | exact lt_big (by assumption) (by assumption) | decide | omega, get_last _, by simp [hρ₁], by simp [hρ₁], by simp [hρ₁], by simp [hρ₁], by simp, O2.mono (pre_app _ _)⟩ ?_ ?_
  · rintro i v ρ ν hv ⟨hp, hi, hL, h0, h1, h2, h3, h4, O⟩
    have hia : i < a := by
      have := (List.getElem?_eq_some_iff.mp hv).1
      rw [List.length_take] at this; omega
    rw [List.getElem?_take, if_pos hia] at hv
    obtain ⟨m, hm, rfl⟩ := map_get hv
    have hro := run_ok ok (all_take hA i) (S0_ok _) (small0 _) (by rw [List.length_take]; omega)
    have hc := all_get hA hm
    obtain ⟨ν', ed, Od, hpre, hsame⟩ := O4.law_do_eq (hW1.mono hp) ok O hro.1 hc.1.1 hc.1.2 hc.2
    rw [← do_same] at ed
    simp [putAt, ev_var, h0, h1, h2, h3, h4, ed]
    refine ⟨hpre μ₁ (by first | assumption | exact Nat.zero_le _ | exact lt_big (by assumption) (by assumption) | decide | omega) hp, by first | assumption | exact Nat.zero_le _ | exact lt_big (by assumption) (by assumption) | decide | omega, ?_, ?_⟩
    · rw [hsame _ _ (by first | assumption | exact Nat.zero_le _ | exact lt_big (by assumption) (by assumption) | decide | omega) hL]
    · rw [run_take hm]; exact Od
  · rintro ρ ν ⟨hp, hi, hL, h0, h1, h2, h3, h4, O⟩
    have hel : ((ms.map moveMv).take a).length = a := by rw [List.length_take]; simp; omega
    rw [hel] at O
    have hro := run_ok ok (all_take hA a) (S0_ok _) (small0 _) (by rw [List.length_take]; omega)
    have hdn := run_done ok (all_take hA a) (S0_ok _) (small0 _) (by rw [List.length_take]; omega) (fun h hh => by simp [S0, hh])
    obtain ⟨ξ, j, em, pm, hj⟩ := moves_own (hW1.mono hp) ok O hro.1 hdn
    have pall := p1.trans (hp.trans pm)
    obtain ⟨ζ, eo⟩ := odd_eq (ρ := ρ.set 6 (.lst j)) (c := c) (hW.mono pall) ok (get_pre pall hw) hl (by first | assumption | exact Nat.zero_le _ | exact lt_big (by assumption) (by assumption) | decide | omega) hA hj (by simp [h0]) (by simp [h1]) (by simp [h2]) (by simp [h3]) (by simp)
    simp only [seqK_next, ev_seq, ev_assign, ev_call, ev_cons, ev_nil, ev_var h0, ev_var h4, consK_ok, consK2_ok, Out.bind_ok, em, asgK_ok, eo]
    exact ⟨_, _, rfl, rfl⟩
end
end Mine.L04

set_option linter.unusedVariables false
set_option linter.unusedSimpArgs false
namespace Mine.L04
open PySem Mine Mine.Com
noncomputable def dBody : DS := (dSeq (dAssign 6 (dCall f__law_moves (dCons (dVar 1) (dCons (dVar 3) dNil)))) (dSeq (dAssign 7 (dBin idxM (dVar 6) (dBin fmodM (dBin addM (dCall f__law_cell_at (dCons (dVar 0) (dCons (dBin addM (dConst (.int 10)) (dBin fmodM (dCall lenM (dCons (dVar 5) dNil)) (dConst (.int 40)))) dNil))) (dCall lenM (dCons (dVar 5) dNil))) (dCall lenM (dCons (dVar 6) dNil))))) (dSeq (dExpr (dAppend (dVar 5) (dVar 7))) (dSeq (dExpr (dCall f__law_do (dCons (dVar 1) (dCons (dVar 3) (dCons (dBin idxM (dVar 7) (dConst (.int 0))) (dCons (dBin idxM (dVar 7) (dConst (.int 1))) dNil)))))) (dSeq (dAssign 4 (dCall f_moved (dCons (dVar 2) (dCons (dVar 4) (dCons (dVar 7) dNil))))) (dSeq (dIfS (dNot (dCall f__law_over_good (dCons (dVar 2) (dCons (dVar 4) (dCons (dVar 3) dNil))))) (dSeq (dRet (dConst (.bool false))) dSkip) dSkip) dSkip))))))
noncomputable def dFin : DS := (dSeq (dAssign 8 (dCall listM (dCons (dVar 5) dNil))) (dSeq (dAssign 9 (dCall f_woven (dCons (dVar 2) (dCons (dVar 8) dNil)))) (dSeq (dIfS (dOr (dNot (dOp1 (isiM .tuple) (dVar 9))) (dOr (dBin neM (dVar 9) (dCall f__law_end (dCons (dVar 3) dNil))) (dOr (dBin neM (dVar 8) (dVar 5)) (dBin neM (dVar 2) (dVar 1))))) (dSeq (dRet (dConst (.bool false))) dSkip) dSkip) (dSeq (dRet (dCall f__law_spoilt_good (dCons (dVar 2) (dCons (dVar 5) (dCons (dCall f__law_cell_at (dCons (dVar 0) (dCons (dConst (.int 9)) dNil))) dNil))))) dSkip))))

theorem ab_run {W : List (List St)} {s : S} (so : SOk W.length s) : s.ab.done.length = W.length ∧ s.ab.ll.length = W.length := ⟨so.done, by simp [S.ab, so.lines]⟩

section
variable {μ : MH} {k hd B V : Nat} {rs rs' : List Nat} {W : List (List St)} {ms : List (Nat × Str)} {ns : List Int}
theorem fin_eq {ρ : Rho} (hns : ns.length ≤ 1000) (hW : WebAt μ k rs W) (hH : WebAt μ hd rs' W) (ok : WebOk W) (O : O4.Own μ B W.length (runS W (S0 W.length) ms)) (hV : μ[V]? = some (ms.map moveMv)) (hl : ms.length ≤ 16) (hA : CanAll W (S0 W.length) ms) (hov : overB W (runS W (S0 W.length) ms) = true)
    (h0 : ρ 0 = some (.scr ns)) (h1 : ρ 1 = some (.lst k)) (h2 : ρ 2 = some (.lst hd)) (h3 : ρ 3 = some (.lst (B + 2 * W.length + 5))) (h5 : ρ 5 = some (.lst V)) : ∃ μ', defK (dFin ρ μ) = .ok (.bool true) μ' := by
  have n3 := ok.three
  have hro := run_ok ok hA (S0_ok _) (small0 _) (by first | assumption | exact Nat.zero_le _ | exact lt_big (by assumption) (by assumption) | decide | omega)
  have hlist : listM [.lst V] μ = .ok (.lst μ.length) (μ ++ [ms.map moveMv]) := by
    rw [listM_lst, hV]
    exact if_pos (by simp; unfold sizeLine; omega)
  have p1 := pre_app μ [ms.map moveMv]
  obtain ⟨μ₂, e2, p2⟩ := woven_eq (j := μ.length) (ms := ms) (tail := []) (hH.mono p1) ok (by rw [List.append_nil]; exact get_last _) hA (by first | assumption | exact Nat.zero_le _ | exact lt_big (by assumption) (by assumption) | decide | omega) (.inl rfl)
  rw [hov] at e2
  simp only [List.isEmpty_nil, if_true] at e2
  have p12 := p1.trans p2
  obtain ⟨μ₃, e3, p3⟩ := law_end_eq (O.mono p12) hro.1 n3
  have p13 := p12.trans p3
  have ne1 := ne_py (μ := μ₃) (end_py (runS W (S0 W.length) ms))
  have hf : ∀ x ∈ ms.map moveMv, Flat x := fun x hx => by
    obtain ⟨m, hm, rfl⟩ := List.mem_map.mp hx
    obtain ⟨i, hi⟩ := List.getElem?_of_mem hm
    exact flat_move (kinds_ok (all_get hA hi).1.2)
  have ne2 := ne_same (get_pre (p2.trans p3) (get_last (ms.map moveMv))) (get_pre p13 hV) hf
  have ne3 := ne_web (hH.mono p13) (hW.mono p13)
  have c9 : f__law_cell_at [.scr ns, .int 9] μ₃ = .ok (.int (ns[9]?.getD 0)) μ₃ := cell_at_eq (n := 9) hns (by first | assumption | exact Nat.zero_le _ | exact lt_big (by assumption) (by assumption) | decide | omega)
  obtain ⟨μ₄, e4⟩ := spoilt_good_eq (c := ns[9]?.getD 0) (hH.mono p13) ok (get_pre p13 hV) (by first | assumption | exact Nat.zero_le _ | exact lt_big (by assumption) (by assumption) | decide | omega) hA
  have it : ∀ μ, isiM .tuple (endMv (runS W (S0 W.length) ms)) μ = .ok (.bool true) μ := fun μ => rfl
  refine ⟨μ₄, ?_⟩
  unfold dFin
  simp [ev_var, h0, h1, h2, h3, h5, hlist, e2, it, e3, ne1, ne2, ne3, c9, e4]
end

theorem law_true (ns : List Int) (h : ns.length ≤ 63) (hl : (PyData.list (ns.map .int)).layable0 = true) : ∃ μ, f_law [.scr ns] [] = .ok (.bool true) μ := by
  have hns : ns.length ≤ 1000 := by first | assumption | exact Nat.zero_le _ | exact lt_big (by assumption) (by assumption) | decide | omega
  obtain ⟨μ₁, W, rs, e1, p1, hW, ok, tot⟩ := web_by ns hns hl []
  generalize ([] : MH).length = k at e1 hW
  have n3 := ok.three
  obtain ⟨μ₂, e2, p2, hH⟩ := comp_copy (i := 10) (ρ := Rho.set (fun i => [MV.scr ns][i]?) 1 (.lst k)) hW ok
  have hW2 := hW.mono p2
  obtain ⟨μ₃, e3, p3, O3⟩ := O4.law_begun_eq hW2 ok
  rw [← begun_same] at e3
  obtain ⟨μ₄, e4, p4⟩ := begun_eq (hH.mono p3) ok
  obtain ⟨hd, hhd⟩ : ∃ hd, hd = μ₁.length := ⟨_, rfl⟩
  rw [← hhd] at e2 hH e4
  have p5 := pre_app μ₄ [[]]
  have hdn0 : ∀ h, h < W.length → (S0 W.length).done[h]?.getD 0 ≤ (W[h]?.getD []).length := fun h hh => by simp [S0, hh]
  obtain ⟨μ₆, e6, p6⟩ := over_good_eq (s := S0 W.length) (hH.mono (p3.trans (p4.trans p5))) ok (O3.mono (p4.trans p5)) (S0_ok _) hdn0
  have hbig : μ₂.length + 2 * W.length + 5 < μ₃.length := (List.getElem?_eq_some_iff.mp O3.top).1
  have hle : μ₃.length ≤ μ₄.length := p4.length_le
  have q : Gives (f_law [.scr ns] []) (fun v _ => v = .bool true) := by
    rw [f_law, ev_def (k := 1) rfl]
    rw [show d_law = (dSeq (dAssign 1 (dCall f__law_web_by (dCons (dVar 0) dNil))) (dSeq (dAssign 2 (dComp (iSeq (dVar 1)) (dConst (.bool true)) (dCall listM (dCons (dVar 10) dNil)) 10)) (dSeq (dAssign 3 (dCall f__law_begun (dCons (dVar 1) dNil))) (dSeq (dAssign 4 (dCall f_begun (dCons (dVar 2) dNil))) (dSeq (dAssign 5 (dList dNil)) (dSeq (dIfS (dNot (dCall f__law_over_good (dCons (dVar 2) (dCons (dVar 4) (dCons (dVar 3) dNil))))) (dSeq (dRet (dConst (.bool false))) dSkip) dSkip) (dSeq (dWhile 40 (dBin neM (dCall f__law_moves (dCons (dVar 1) (dCons (dVar 3) dNil))) (dList dNil)) dBody) dFin))))))) from rfl]
    simp [ev_var, e1, itK_lst hW.top, ← hhd, e2, e3, e4, e6]
    refine while_rule (P := fun o => Gives (defK (seqK o _)) _) (fun j ρ ν => μ₂ <+: ν ∧ ρ 0 = some (.scr ns) ∧ ρ 1 = some (.lst k) ∧ ρ 2 = some (.lst hd) ∧ ρ 3 = some (.lst (μ₂.length + 2 * W.length + 5)) ∧ ρ 5 = some (.lst μ₄.length) ∧ ∃ ms : List (Nat × Str), ρ 4 = some (runS W (S0 W.length) ms).mv ∧ O4.Own ν μ₂.length W.length (runS W (S0 W.length) ms) ∧ ν[μ₄.length]? = some (ms.map moveMv) ∧ CanAll W (S0 W.length) ms ∧ j = meas W (runS W (S0 W.length) ms).ab ∧ ms.length + j ≤ 16) ?_ 40 (2 * total W) _ _ (by first | assumption | exact Nat.zero_le _ | exact lt_big (by assumption) (by assumption) | decide | omega)
      ⟨p3.trans (p4.trans (p5.trans p6)), by simp, by simp, by simp, by simp, by simp, [], by simp [runS], O3.mono (p4.trans (p5.trans p6)), get_pre p6 (get_last []), trivial, ?_, by simp; omega⟩
    · rintro j ρ ν ⟨hp, h0, h1, h2, h3, h5, ms, h4, O, hV, hA, rfl, hsm⟩
      have hro := run_ok ok hA (S0_ok _) (small0 _) (by first | assumption | exact Nat.zero_le _ | exact lt_big (by assumption) (by assumption) | decide | omega)
      have hdn := run_done ok hA (S0_ok _) (small0 _) (by first | assumption | exact Nat.zero_le _ | exact lt_big (by assumption) (by assumption) | decide | omega) hdn0
      obtain ⟨Ad, Al⟩ := ab_run hro.1
      obtain ⟨ν1, i1, em1, pm1, hm1⟩ := moves_own (hW2.mono hp) ok O hro.1 hdn
      have hne := ne_nil (μ := ν1 ++ [[]]) (get_pre (pre_app _ _) hm1) (get_last []) moves_flat
      rw [List.length_map] at hne
      have ht : (dBin neM (dCall f__law_moves (dCons (dVar 1) (dCons (dVar 3) dNil))) (dList dNil)) ρ ν = .ok (.bool (decide (0 < (movesN (canB W (runS W (S0 W.length) ms)) W.length).length))) (ν1 ++ [[]]) := by
        simp [ev_var, h1, h3, em1, hne]
      rw [ht]
      have q1 := pm1.trans (pre_app ν1 [[]])
      by_cases hz : (movesN (canB W (runS W (S0 W.length) ms)) W.length).length = 0
      · refine .inl ⟨ν1 ++ [[]], by simp [hz], ?_⟩
        have hov : overB W (runS W (S0 W.length) ms) = true := by rw [← over_movesB, decide_eq_true hz]
        obtain ⟨μ', e⟩ := fin_eq (ρ := ρ) hns (hW2.mono (hp.trans q1)) (hH.mono (hp.trans q1)) ok (O.mono q1) (get_pre q1 hV) (by first | assumption | exact Nat.zero_le _ | exact lt_big (by assumption) (by assumption) | decide | omega) hA hov h0 h1 h2 h3 h5
        rw [seqK_next, e]
        exact ⟨_, _, rfl, rfl⟩
      · refine .inr ⟨ν1 ++ [[]], by simp; omega, ?_⟩
        obtain ⟨ν2, i2, em2, pm2, hm2⟩ := moves_own (hW2.mono (hp.trans q1)) ok (O.mono q1) hro.1 hdn
        have q2 := q1.trans pm2
        have hml := movesN_len (canB W (runS W (S0 W.length) ms)) W.length
        have hlw : lenM [.lst μ₄.length] ν2 = .ok (.int ms.length) ν2 := by
          rw [len_lst (get_pre q2 hV) (by simp; omega)]; simp
        have hlm : lenM [.lst i2] ν2 = .ok (.int (movesN (canB W (runS W (S0 W.length) ms)) W.length).length) ν2 := by
          rw [len_lst hm2 (by rw [List.length_map]; omega), List.length_map]
        have hf40 : ((ms.length : Nat) : Int).fmod 40 = ms.length := Int.fmod_eq_of_lt (by first | assumption | exact Nat.zero_le _ | exact lt_big (by assumption) (by assumption) | decide | omega) (by first | assumption | exact Nat.zero_le _ | exact lt_big (by assumption) (by assumption) | decide | omega)
        have hc10 : f__law_cell_at [.scr ns, .int (10 + (ms.length : Int))] ν2 = .ok (.int (ns[10 + ms.length]?.getD 0)) ν2 := cell_at_eq (n := 10 + ms.length) hns (by first | assumption | exact Nat.zero_le _ | exact lt_big (by assumption) (by assumption) | decide | omega)
        obtain ⟨d, hd', hdl⟩ := fmod_nat (ns[10 + ms.length]?.getD 0 + (ms.length : Int)) (b := (movesN (canB W (runS W (S0 W.length) ms)) W.length).length) (by first | assumption | exact Nat.zero_le _ | exact lt_big (by assumption) (by assumption) | decide | omega)
        have hzz : ((movesN (canB W (runS W (S0 W.length) ms)) W.length).length : Int) ≠ 0 := by first | assumption | exact Nat.zero_le _ | exact lt_big (by assumption) (by assumption) | decide | omega
        have hix : idxM (.lst i2) (.int d) ν2 = .ok (moveMv (movesN (canB W (runS W (S0 W.length) ms)) W.length)[d]) ν2 := idx_lst hm2 (by simp [hdl]) (by first | assumption | exact Nat.zero_le _ | exact lt_big (by assumption) (by assumption) | decide | omega)
        have hmem := mem_movesN.mp (List.getElem_mem hdl)
        generalize (movesN (canB W (runS W (S0 W.length) ms)) W.length)[d] = m at hix hmem
        have hmv : Move W.length m := ⟨hmem.1, hmem.2.1⟩
        have hc := hmem.2.2
        have hV2 := get_pre q2 hV
        have hap := appK2_ok (v := moveMv m) hV2 (by simp; unfold sizeLine; omega)
        obtain ⟨ν3, hν3⟩ : ∃ ν3, ν3 = ν2.set μ₄.length (ms.map moveMv ++ [moveMv m]) := ⟨_, rfl⟩
        rw [← hν3] at hap
        have hV3 : ν3[μ₄.length]? = some (ms.map moveMv ++ [moveMv m]) := by rw [hν3]; exact get_set_self hV2
        have hp3 : μ₂ <+: ν3 := by rw [hν3]; exact pre_set (hp.trans q2) (by first | assumption | exact Nat.zero_le _ | exact lt_big (by assumption) (by assumption) | decide | omega)
        have O3' : O4.Own ν3 μ₂.length W.length (runS W (S0 W.length) ms) := by
          have O2 := O.mono q2
          rw [hν3]
          exact ⟨by rw [get_set_ne (by first | assumption | exact Nat.zero_le _ | exact lt_big (by assumption) (by assumption) | decide | omega)]; exact O2.top, by rw [get_set_ne (by first | assumption | exact Nat.zero_le _ | exact lt_big (by assumption) (by assumption) | decide | omega)]; exact O2.dn, by rw [get_set_ne (by first | assumption | exact Nat.zero_le _ | exact lt_big (by assumption) (by assumption) | decide | omega)]; exact O2.lns, fun i hi => by rw [get_set_ne (by first | assumption | exact Nat.zero_le _ | exact lt_big (by assumption) (by assumption) | decide | omega)]; exact O2.line i hi, by rw [get_set_ne (by first | assumption | exact Nat.zero_le _ | exact lt_big (by assumption) (by assumption) | decide | omega)]; exact O2.box, by rw [get_set_ne (by first | assumption | exact Nat.zero_le _ | exact lt_big (by assumption) (by assumption) | decide | omega)]; exact O2.gts, fun i hi => by rw [get_set_ne (by first | assumption | exact Nat.zero_le _ | exact lt_big (by assumption) (by assumption) | decide | omega)]; exact O2.got i hi⟩
        obtain ⟨ν4, ed, Od, hpre, hsame⟩ := O4.law_do_eq (hW2.mono hp3) ok O3' hro.1 hmv.1 hmv.2 hc
        rw [← do_same] at ed
        have hp4 := hpre μ₂ (by first | assumption | exact Nat.zero_le _ | exact lt_big (by assumption) (by assumption) | decide | omega) hp3
        have hV4 := hsame _ _ (by first | assumption | exact Nat.zero_le _ | exact lt_big (by assumption) (by assumption) | decide | omega) hV3
        have hA' : CanAll W (S0 W.length) (ms ++ [m]) := all_append.mpr ⟨hA, ⟨hmv, hc⟩, trivial⟩
        have hrun : runS W (S0 W.length) (ms ++ [m]) = movedP W (runS W (S0 W.length) ms) m.1 m.2 := by rw [run_append]; rfl
        have hmo : f_moved [.lst hd, (runS W (S0 W.length) ms).mv, moveMv m] ν4 = .ok (movedP W (runS W (S0 W.length) ms) m.1 m.2).mv ν4 := moved_any (hH.mono hp4) ok hro.1 hmv.1 hmv.2 hc
        rw [← hrun] at hmo Od
        have hAb : canA W (runS W (S0 W.length) ms).ab m.1 m.2 = true := by rw [← can_ab]; exact hc
        have hme := meas_step hmv.2 hmv.1 Ad Al hAb
        rw [← moved_ab hmv.2 hro.1 hmv.1 hAb, ← hrun] at hme
        have hro' := run_ok ok hA' (S0_ok _) (small0 _) (by simp; omega)
        have hdn' := run_done ok hA' (S0_ok _) (small0 _) (by simp; omega) hdn0
        obtain ⟨ν5, eg, pg⟩ := over_good_eq (hH.mono hp4) ok Od hro'.1 hdn'
        unfold dBody
        simp [ev_var, h0, h1, h2, h3, h4, h5, em2, hlw, fmod_int _ (show (40 : Int) ≠ 0 by decide), hf40, hc10, hlm, fmod_int _ hzz, hd', hix, hap, ed, hmo, eg]
        refine ⟨_, hme, hp4.trans pg, ms ++ [m], rfl, Od.mono pg, ?_, hA', rfl, ?_⟩
        · rw [get_pre pg hV4]; simp
        · simp; omega
    · have := meas_begun W
      simpa [runS, S.ab, S0] using this.symm
  obtain ⟨v, μ', e, rfl⟩ := q
  exact ⟨μ', e⟩
end Mine.L04

open PySem PySem.W PyProof.Rows
set_option Elab.async false
set_option maxRecDepth 100000
namespace Mine.L04
noncomputable def fs : List FS := [⟨(Str.ofString "is_whole"), 12, [(Str.ofString "thing")], sg_is_whole⟩, ⟨(Str.ofString "is_box"), 13, [(Str.ofString "thing")], sg_is_box⟩, ⟨(Str.ofString "is_step"), 14, [(Str.ofString "thing")], sg_is_step⟩, ⟨(Str.ofString "need_web"), 15, [(Str.ofString "web")], sg_need_web⟩, ⟨(Str.ofString "begun"), 17, [(Str.ofString "web")], sg_begun⟩, ⟨(Str.ofString "can"), 18, [(Str.ofString "web"), (Str.ofString "state"), (Str.ofString "move")], sg_can⟩, ⟨(Str.ofString "changed"), 19, [(Str.ofString "row"), (Str.ofString "at"), (Str.ofString "thing")], sg_changed⟩, ⟨(Str.ofString "seen"), 20, [(Str.ofString "state"), (Str.ofString "hand"), (Str.ofString "box")], sg_seen⟩, ⟨(Str.ofString "moved"), 21, [(Str.ofString "web"), (Str.ofString "state"), (Str.ofString "move")], sg_moved⟩, ⟨(Str.ofString "is_over"), 22, [(Str.ofString "web"), (Str.ofString "state")], sg_is_over⟩, ⟨(Str.ofString "end_of"), 23, [(Str.ofString "web"), (Str.ofString "state")], sg_end_of⟩, ⟨(Str.ofString "woven"), 25, [(Str.ofString "web"), (Str.ofString "weaving")], sg_woven⟩, ⟨(Str.ofString "_law_cell_at"), 27, [(Str.ofString "_law_script"), (Str.ofString "_law_k")], sg__law_cell_at⟩, ⟨(Str.ofString "_law_number_by"), 28, [(Str.ofString "_law_cell")], sg__law_number_by⟩, ⟨(Str.ofString "_law_step_by"), 29, [(Str.ofString "_law_cell"), (Str.ofString "_law_boxes")], sg__law_step_by⟩, ⟨(Str.ofString "_law_web_by"), 30, [(Str.ofString "_law_script")], sg__law_web_by⟩, ⟨(Str.ofString "_law_begun"), 31, [(Str.ofString "_law_web")], sg__law_begun⟩, ⟨(Str.ofString "_law_can"), 32, [(Str.ofString "_law_web"), (Str.ofString "_law_own"), (Str.ofString "_law_hand"), (Str.ofString "_law_kind")], sg__law_can⟩, ⟨(Str.ofString "_law_do"), 33, [(Str.ofString "_law_web"), (Str.ofString "_law_own"), (Str.ofString "_law_hand"), (Str.ofString "_law_kind")], sg__law_do⟩, ⟨(Str.ofString "_law_moves"), 34, [(Str.ofString "_law_web"), (Str.ofString "_law_own")], sg__law_moves⟩, ⟨(Str.ofString "_law_end"), 35, [(Str.ofString "_law_own")], sg__law_end⟩, ⟨(Str.ofString "_law_word"), 36, [(Str.ofString "_law_web"), (Str.ofString "_law_weaving")], sg__law_word⟩, ⟨(Str.ofString "_law_over_good"), 37, [(Str.ofString "_law_web"), (Str.ofString "_law_state"), (Str.ofString "_law_own")], sg__law_over_good⟩, ⟨(Str.ofString "_law_spoilt_good"), 38, [(Str.ofString "_law_web"), (Str.ofString "_law_weaving"), (Str.ofString "_law_cell")], sg__law_spoilt_good⟩, ⟨(Str.ofString "law"), 39, [(Str.ofString "_law_script")], sg_law⟩]
noncomputable def gi : List (Str × Int) := [((Str.ofString "BOXES"), 4), ((Str.ofString "MOST_ROWS"), 3), ((Str.ofString "MOST_DEEDS"), 8), ((Str.ofString "TOO_GREAT"), 1000000000000000000000000000000)]
noncomputable def bs : List Str := [(Str.ofString "ValueError"), (Str.ofString "bool"), (Str.ofString "enumerate"), (Str.ofString "int"), (Str.ofString "isinstance"), (Str.ofString "len"), (Str.ofString "list"), (Str.ofString "range"), (Str.ofString "str"), (Str.ofString "tuple")]
noncomputable def look : Hook := hookK (List.range 400) PySem.Challenge.pw_uf030029_04 fs gi bs xs
noncomputable def q : Program := view PySem.Challenge.pw_uf030029_04 [1, 2, 3, 4, 5, 6, 8, 9, 10, 11, 12, 13, 14, 15, 17, 18, 19, 20, 21, 22, 23, 25, 27, 28, 29, 30, 31, 32, 33, 34, 35, 36, 37, 38, 39]
noncomputable def lv : List (Str × WData) := [(Str.ofString "TOO_GREAT", .int 1000000000000000000000000000000)]
noncomputable def lo : List Str := [Str.ofString "TOO_GREAT"]
noncomputable def Xt (s : Shared) : Bool := xlAt q lv s && recOk (RowW.records (OpenRow.toRowW PySem.Challenge.rw_uf030029_04.row)) s
set_option linter.unusedVariables false
abbrev pp : Program := PySem.Challenge.pw_uf030029_04
abbrev SS := PySem.Str.ofString
abbrev kh := PySem.PyData.keyHash
noncomputable def fdA (k : Nat) : Arguments := match fnAt pp k with | some (.FunctionDef _ a ..) => a | _ => default
noncomputable def fdB (k : Nat) : List Stmt := match fnAt pp k with | some (.FunctionDef _ _ b ..) => b | _ => []
noncomputable def fdS (k : Nat) : Scope := match fnAt pp k with | some (.FunctionDef _ _ _ _ _ _ s ..) => s | _ => default
theorem seg_q {p : Program} {w : World} {n₀ : Nat} {ann : Option Value} {b n : Nat} {s : SharedT} {l : List Stmt} {env : PySem.Env} {c : Code} {pos : Pos} {B : List Frame} {r : Option (Flow × SharedT × Code × Pos)}
    (h : PySem.W.Fast.tw10110043849684766642 PySem.W.Fast.tw14364793385576792824 p w n₀ ann b n s ⟨(PySem.W.Fast.tw12563942051412417395 l env).wrap doneF deadEnd id id, c, pos, B⟩ = r) : segRunT treeTable p w n₀ ann b n s (piecesOf l env c pos B) = r := by
  show segRunT treeTable p w n₀ ann b n s ⟨(execs l env).wrap doneF deadEnd id id, c, pos, B⟩ = r
  rw [PySem.W.Fast.te10110043849684766642, PySem.W.Fast.te14364793385576792824, PySem.W.Fast.te12563942051412417395]
  exact h
noncomputable def ann0 : Option Value := (some (PySem.Value.ref 6))
noncomputable def env0 : PySem.Env := { scope := pp.main.scope, locals := mainNs, globals := mainNs, cells := [], code := (PySem.Value.ref 13), frame := some 14 }
noncomputable def cod0 : Code := .body (behindTheImports pp) env0
noncomputable def B0 : List Frame := [topFrame (PySem.Pos.mk 0 0 0 0)]
noncomputable def o0 (P : Params) : Obj := (Obj.mk (Value.type "tuple") none (Data.seq #[] 0) #[])
noncomputable def o1 (P : Params) : Obj := (Obj.mk Value.none none (Data.fields #[]) #[])
noncomputable def o2 (P : Params) : Obj := (Obj.mk (Value.type "code") none (Data.fields #[(Value.str (SS "<module>") 182), (Value.str (SS "<module>") 183), (Value.str (SS "/claim/cut.py") 184), (Value.int (1 : Int) 0), (Value.int (0 : Int) 0), (Value.int (0 : Int) 0), (Value.int (0 : Int) 0), (Value.int (0 : Int) 0), (Value.ref 11), (Value.bool false), (Value.int (181 : Int) 0), (Value.ref 12), Value.none, Value.none, Value.none, Value.none, (Value.int (185 : Int) 0), (Value.int (1 : Int) 0), (Value.str (SS "/claim/cut.py") 186)]) #[])
noncomputable def o3 (P : Params) : Obj := (Obj.mk (Value.type "frame") none Data.plain #[(some (Value.ref 13)), (some (Value.ref 3)), (some (Value.ref 3)), none, (some (Value.str (SS "__main__") 164)), none, (some (Value.ref 0))])
noncomputable def Ha (P : Params) : Heap := ⟨#[boot_o_0 P, boot_o_1 P, boot_o_2 P, boot_o_3 P, boot_o_4 P, boot_o_5 P, boot_o_6 P, boot_o_7 P, boot_o_8 P, boot_o_9 P, boot_o_10 P, o0 P, o1 P, o2 P, o3 P], (PySem.Life.mk [] [] [] 0 [] [] false #[] [] 0 false false false (0 : Int) [(2000 : Int), (10 : Int), (10 : Int)] false 0 true [] [] 0 false)⟩
noncomputable def Sa (w : World) (os : OsState) : Shared := ⟨Ha w.params, #[], (PySem.Drawn.mk 0 0 0 0), 187, os⟩
theorem c_pre (w : World) (os : OsState) : topGo treeTable pp w 11 ann0 12 ⟨boot_heap w.params, Array.mk [], boot_drawn, boot_toks, os⟩ (topStub pp) = some (Sa w os, ⟨denote treeTable cod0, cod0, (PySem.Pos.mk 0 0 0 0), B0⟩) := by kernel_rfl
noncomputable def T0 (P : Params) : BT := (BT.node (boot_o_0 P) (BT.node (boot_o_1 P) (BT.node (boot_o_3 P) (BT.node (boot_o_7 P) BT.nil BT.nil) (BT.node (o0 P) BT.nil BT.nil)) (BT.node (boot_o_5 P) (BT.node (boot_o_9 P) BT.nil BT.nil) (BT.node (o2 P) BT.nil BT.nil))) (BT.node (boot_o_2 P) (BT.node (boot_o_4 P) (BT.node (boot_o_8 P) BT.nil BT.nil) (BT.node (o1 P) BT.nil BT.nil)) (BT.node (boot_o_6 P) (BT.node (boot_o_10 P) BT.nil BT.nil) (BT.node (o3 P) BT.nil BT.nil))))
noncomputable def S0 (w : World) (os : OsState) : SharedT := ⟨T0 w.params, 15, (PySem.Life.mk [] [] [] 0 [] [] false #[] [] 0 false false false (0 : Int) [(2000 : Int), (10 : Int), (10 : Int)] false 0 true [] [] 0 false), #[], (PySem.Drawn.mk 0 0 0 0), 187, os⟩
theorem c_blk (w : World) (os : OsState) : segRun treeTable pp w 11 ann0 1 1 (Sa w os) (blockOf (behindTheImports pp) env0 cod0 (PySem.Pos.mk 0 0 0 0) B0) = some (.next, (S0 w os).abs, cod0, (PySem.Pos.mk 0 0 0 0)) := by kernel_rfl
noncomputable def o4 (P : Params) : Obj := (Obj.mk (Value.type "dict") none (Data.dict #[(DictEntry.mk (kh P (SS "__name__")) (Value.str (SS "__name__") 165) (Value.str (SS "fencewright.errors") 187)), (DictEntry.mk (kh P (SS "__doc__")) (Value.str (SS "__doc__") 166) Value.none), (DictEntry.mk (kh P (SS "__package__")) (Value.str (SS "__package__") 167) Value.none), (DictEntry.mk (kh P (SS "__loader__")) (Value.str (SS "__loader__") 168) (Value.builtin "__main__.__loader__#opaque")), (DictEntry.mk (kh P (SS "__spec__")) (Value.str (SS "__spec__") 169) Value.none), (DictEntry.mk (kh P (SS "__annotations__")) (Value.str (SS "__annotations__") 170) (Value.ref 6)), (DictEntry.mk (kh P (SS "__builtins__")) (Value.str (SS "__builtins__") 171) (Value.ref 4)), (DictEntry.mk (kh P (SS "__file__")) (Value.str (SS "__file__") 173) (Value.str (SS "/claim/cut.py") 172)), (DictEntry.mk (kh P (SS "__cached__")) (Value.str (SS "__cached__") 174) Value.none), (DictEntry.mk (kh P (SS "WebError")) (Value.str (SS "WebError") 206) (Value.ref 24))] 10) #[])
noncomputable def o5 (P : Params) : Obj := (Obj.mk Value.none none (Data.fields #[(Value.int (2 : Int) 0), (Value.int (0 : Int) 0), (Value.ref 20)]) #[])
noncomputable def o6 (P : Params) : Obj := (Obj.mk (Value.type "tuple") none (Data.seq #[(Value.type "ValueError")] 0) #[])
noncomputable def o7 (P : Params) : Obj := (Obj.mk (Value.type "builtin_function_or_method") none (Data.fields #[(Value.builtin "type.__prepare__"), (Value.type "type")]) #[])
noncomputable def o8 (P : Params) : Obj := (Obj.mk (Value.type "dict") none (Data.dict #[(DictEntry.mk (kh P (SS "__module__")) (Value.str (SS "__module__") 196) (Value.str (SS "fencewright.errors") 187)), (DictEntry.mk (kh P (SS "__qualname__")) (Value.str (SS "__qualname__") 198) (Value.str (SS "WebError") 197)), (DictEntry.mk (kh P (SS "__firstlineno__")) (Value.str (SS "__firstlineno__") 200) (Value.int (2 : Int) 199)), (DictEntry.mk (kh P (SS "__static_attributes__")) (Value.str (SS "__static_attributes__") 201) (Value.ref 22))] 4) #[])
noncomputable def o9 (P : Params) : Obj := (Obj.mk (Value.type "tuple") none (Data.seq #[] 0) #[])
noncomputable def o10 (P : Params) : Obj := (Obj.mk Value.none none (Data.fields #[]) #[])
noncomputable def o11 (P : Params) : Obj := (Obj.mk (Value.type "code") none (Data.fields #[(Value.str (SS "WebError") 191), (Value.str (SS "WebError") 192), (Value.str (SS "/claim/cut.py") 193), (Value.int (2 : Int) 0), (Value.int (0 : Int) 0), (Value.int (0 : Int) 0), (Value.int (0 : Int) 0), (Value.int (0 : Int) 0), (Value.ref 18), (Value.bool false), (Value.int (181 : Int) 0), (Value.ref 19), Value.none, Value.none, Value.none, Value.none, (Value.int (194 : Int) 0), (Value.int (2 : Int) 0), (Value.str (SS "/claim/cut.py") 195)]) #[])
noncomputable def o12 (P : Params) : Obj := (Obj.mk (Value.type "frame") none Data.plain #[(some (Value.ref 20)), (some (Value.ref 3)), (some (Value.ref 17)), none, (some (Value.str (SS "fencewright.errors") 187)), none, (some (Value.ref 0))])
noncomputable def o13 (P : Params) : Obj := (Obj.mk (Value.type "tuple") none (Data.seq #[] 0) #[])
noncomputable def o14 (P : Params) : Obj := (Obj.mk (Value.type "dict") none (Data.dict #[(DictEntry.mk (kh P (SS "__module__")) (Value.str (SS "__module__") 196) (Value.str (SS "fencewright.errors") 187)), (DictEntry.mk (kh P (SS "__firstlineno__")) (Value.str (SS "__firstlineno__") 200) (Value.int (2 : Int) 199)), (DictEntry.mk (kh P (SS "__static_attributes__")) (Value.str (SS "__static_attributes__") 201) (Value.ref 22)), (DictEntry.mk (kh P (SS "__weakref__")) (Value.str (SS "__weakref__") 203) (Value.ref 25)), (DictEntry.mk (kh P (SS "__doc__")) (Value.str (SS "__doc__") 204) Value.none)] 3) #[])
noncomputable def o15 (P : Params) : Obj := (Obj.mk (Value.type "type") none (Data.cls (PySem.ClassData.mk (SS "WebError") [(Value.type "ValueError")] [(Value.ref 24), (Value.type "ValueError"), (Value.type "Exception"), (Value.type "BaseException"), (Value.type "object")] 23 (SS "WebError") true [] [] false none false)) #[(some (Value.ref 15)), none, (some (Value.str (SS "WebError") 189)), (some (Value.str (SS "WebError") 197)), (some (Value.builtin "ValueError.__new__")), (some (Value.bool true))])
noncomputable def o16 (P : Params) : Obj := (Obj.mk (Value.type "getset_descriptor") none (Data.fields #[(Value.str (SS "__weakref__") 202), (Value.ref 24), (Value.builtin "ExceptionGroup.__weakref__"), Value.none]) #[])
noncomputable def o17 (P : Params) : Obj := (Obj.mk (Value.type "super") none (Data.fields #[(Value.ref 24), (Value.ref 24), (Value.ref 24)]) #[])
noncomputable def o18 (P : Params) : Obj := (Obj.mk (Value.type "builtin_function_or_method") none (Data.fields #[(Value.builtin "object.__init_subclass__"), (Value.ref 24)]) #[])
noncomputable def T1 (P : Params) : BT := (BT.node (boot_o_0 P) (BT.node (boot_o_1 P) (BT.node (o4 P) (BT.node (boot_o_7 P) (BT.node (o6 P) BT.nil BT.nil) (BT.node (o14 P) BT.nil BT.nil)) (BT.node (o0 P) (BT.node (o10 P) BT.nil BT.nil) (BT.node (o18 P) BT.nil BT.nil))) (BT.node (boot_o_5 P) (BT.node (boot_o_9 P) (BT.node (o8 P) BT.nil BT.nil) (BT.node (o16 P) BT.nil BT.nil)) (BT.node (o2 P) (BT.node (o12 P) BT.nil BT.nil) BT.nil))) (BT.node (boot_o_2 P) (BT.node (boot_o_4 P) (BT.node (boot_o_8 P) (BT.node (o7 P) BT.nil BT.nil) (BT.node (o15 P) BT.nil BT.nil)) (BT.node (o5 P) (BT.node (o11 P) BT.nil BT.nil) BT.nil)) (BT.node (boot_o_6 P) (BT.node (boot_o_10 P) (BT.node (o9 P) BT.nil BT.nil) (BT.node (o17 P) BT.nil BT.nil)) (BT.node (o3 P) (BT.node (o13 P) BT.nil BT.nil) BT.nil))))
noncomputable def S1 (w : World) (os : OsState) : SharedT := ⟨T1 w.params, 28, (PySem.Life.mk [] [] [] 0 [] [] false #[] [] 0 false false false (0 : Int) [(2000 : Int), (10 : Int), (10 : Int)] false 0 true [] [] 0 false), #[], (PySem.Drawn.mk 0 0 0 0), 207, os⟩
noncomputable def g1 : List Stmt := ((behindTheImports pp).drop 0).take 2
theorem c1 (w : World) (os : OsState) : segRunT treeTable pp w 11 ann0 1 196 (S0 w os) (piecesOf g1 env0 cod0 (PySem.Pos.mk 0 0 0 0) B0) = some (.next, S1 w os, cod0, (PySem.Pos.mk 2 0 3 8)) := seg_q (by kernel_rfl)
noncomputable def o19 (P : Params) : Obj := (Obj.mk (Value.type "dict") none (Data.dict #[(DictEntry.mk (kh P (SS "__name__")) (Value.str (SS "__name__") 165) (Value.str (SS "fencewright.errors") 187)), (DictEntry.mk (kh P (SS "__doc__")) (Value.str (SS "__doc__") 166) Value.none), (DictEntry.mk (kh P (SS "__package__")) (Value.str (SS "__package__") 167) Value.none), (DictEntry.mk (kh P (SS "__loader__")) (Value.str (SS "__loader__") 168) (Value.builtin "__main__.__loader__#opaque")), (DictEntry.mk (kh P (SS "__spec__")) (Value.str (SS "__spec__") 169) Value.none), (DictEntry.mk (kh P (SS "__annotations__")) (Value.str (SS "__annotations__") 170) (Value.ref 6)), (DictEntry.mk (kh P (SS "__builtins__")) (Value.str (SS "__builtins__") 171) (Value.ref 4)), (DictEntry.mk (kh P (SS "__file__")) (Value.str (SS "__file__") 173) (Value.str (SS "/claim/cut.py") 172)), (DictEntry.mk (kh P (SS "__cached__")) (Value.str (SS "__cached__") 174) Value.none), (DictEntry.mk (kh P (SS "WebError")) (Value.str (SS "WebError") 206) (Value.ref 24)), (DictEntry.mk (kh P (SS "BadWeb")) (Value.str (SS "BadWeb") 222) (Value.ref 37))] 11) #[])
noncomputable def o20 (P : Params) : Obj := (Obj.mk Value.none none (Data.fields #[(Value.int (2 : Int) 0), (Value.int (0 : Int) 0), (Value.ref 20), (Value.int (4 : Int) 0), (Value.int (0 : Int) 0), (Value.ref 33)]) #[])
noncomputable def o21 (P : Params) : Obj := (Obj.mk (Value.type "type") none (Data.cls (PySem.ClassData.mk (SS "WebError") [(Value.type "ValueError")] [(Value.ref 24), (Value.type "ValueError"), (Value.type "Exception"), (Value.type "BaseException"), (Value.type "object")] 23 (SS "WebError") true [] [(Value.ref 37)] false none false)) #[(some (Value.ref 15)), none, (some (Value.str (SS "WebError") 189)), (some (Value.str (SS "WebError") 197)), (some (Value.builtin "ValueError.__new__")), (some (Value.bool true))])
noncomputable def o22 (P : Params) : Obj := (Obj.mk (Value.type "tuple") none (Data.seq #[(Value.ref 24)] 0) #[])
noncomputable def o23 (P : Params) : Obj := (Obj.mk (Value.type "builtin_function_or_method") none (Data.fields #[(Value.builtin "type.__prepare__"), (Value.type "type")]) #[])
noncomputable def o24 (P : Params) : Obj := (Obj.mk (Value.type "dict") none (Data.dict #[(DictEntry.mk (kh P (SS "__module__")) (Value.str (SS "__module__") 214) (Value.str (SS "fencewright.errors") 187)), (DictEntry.mk (kh P (SS "__qualname__")) (Value.str (SS "__qualname__") 216) (Value.str (SS "BadWeb") 215)), (DictEntry.mk (kh P (SS "__firstlineno__")) (Value.str (SS "__firstlineno__") 218) (Value.int (4 : Int) 217)), (DictEntry.mk (kh P (SS "__static_attributes__")) (Value.str (SS "__static_attributes__") 219) (Value.ref 35))] 4) #[])
noncomputable def o25 (P : Params) : Obj := (Obj.mk (Value.type "tuple") none (Data.seq #[] 0) #[])
noncomputable def o26 (P : Params) : Obj := (Obj.mk Value.none none (Data.fields #[]) #[])
noncomputable def o27 (P : Params) : Obj := (Obj.mk (Value.type "code") none (Data.fields #[(Value.str (SS "BadWeb") 209), (Value.str (SS "BadWeb") 210), (Value.str (SS "/claim/cut.py") 211), (Value.int (4 : Int) 0), (Value.int (0 : Int) 0), (Value.int (0 : Int) 0), (Value.int (0 : Int) 0), (Value.int (0 : Int) 0), (Value.ref 31), (Value.bool false), (Value.int (181 : Int) 0), (Value.ref 32), Value.none, Value.none, Value.none, Value.none, (Value.int (212 : Int) 0), (Value.int (4 : Int) 0), (Value.str (SS "/claim/cut.py") 213)]) #[])
noncomputable def o28 (P : Params) : Obj := (Obj.mk (Value.type "frame") none Data.plain #[(some (Value.ref 33)), (some (Value.ref 3)), (some (Value.ref 30)), none, (some (Value.str (SS "fencewright.errors") 187)), none, (some (Value.ref 0))])
noncomputable def o29 (P : Params) : Obj := (Obj.mk (Value.type "tuple") none (Data.seq #[] 0) #[])
noncomputable def o30 (P : Params) : Obj := (Obj.mk (Value.type "dict") none (Data.dict #[(DictEntry.mk (kh P (SS "__module__")) (Value.str (SS "__module__") 214) (Value.str (SS "fencewright.errors") 187)), (DictEntry.mk (kh P (SS "__firstlineno__")) (Value.str (SS "__firstlineno__") 218) (Value.int (4 : Int) 217)), (DictEntry.mk (kh P (SS "__static_attributes__")) (Value.str (SS "__static_attributes__") 219) (Value.ref 35)), (DictEntry.mk (kh P (SS "__doc__")) (Value.str (SS "__doc__") 220) Value.none)] 2) #[])
noncomputable def o31 (P : Params) : Obj := (Obj.mk (Value.type "type") none (Data.cls (PySem.ClassData.mk (SS "BadWeb") [(Value.ref 24)] [(Value.ref 37), (Value.ref 24), (Value.type "ValueError"), (Value.type "Exception"), (Value.type "BaseException"), (Value.type "object")] 36 (SS "BadWeb") true [] [] false none false)) #[(some (Value.ref 28)), none, (some (Value.str (SS "BadWeb") 207)), (some (Value.str (SS "BadWeb") 215)), (some (Value.builtin "ValueError.__new__")), (some (Value.bool true))])
noncomputable def o32 (P : Params) : Obj := (Obj.mk (Value.type "super") none (Data.fields #[(Value.ref 37), (Value.ref 37), (Value.ref 37)]) #[])
noncomputable def o33 (P : Params) : Obj := (Obj.mk (Value.type "builtin_function_or_method") none (Data.fields #[(Value.builtin "object.__init_subclass__"), (Value.ref 37)]) #[])
noncomputable def T2 (P : Params) : BT := (BT.node (boot_o_0 P) (BT.node (boot_o_1 P) (BT.node (o19 P) (BT.node (boot_o_7 P) (BT.node (o6 P) (BT.node (o25 P) BT.nil BT.nil) BT.nil) (BT.node (o14 P) (BT.node (o33 P) BT.nil BT.nil) BT.nil)) (BT.node (o0 P) (BT.node (o10 P) (BT.node (o29 P) BT.nil BT.nil) BT.nil) (BT.node (o18 P) BT.nil BT.nil))) (BT.node (boot_o_5 P) (BT.node (boot_o_9 P) (BT.node (o8 P) (BT.node (o27 P) BT.nil BT.nil) BT.nil) (BT.node (o16 P) BT.nil BT.nil)) (BT.node (o2 P) (BT.node (o12 P) (BT.node (o31 P) BT.nil BT.nil) BT.nil) (BT.node (o23 P) BT.nil BT.nil)))) (BT.node (boot_o_2 P) (BT.node (boot_o_4 P) (BT.node (boot_o_8 P) (BT.node (o7 P) (BT.node (o26 P) BT.nil BT.nil) BT.nil) (BT.node (o21 P) BT.nil BT.nil)) (BT.node (o20 P) (BT.node (o11 P) (BT.node (o30 P) BT.nil BT.nil) BT.nil) (BT.node (o22 P) BT.nil BT.nil))) (BT.node (boot_o_6 P) (BT.node (boot_o_10 P) (BT.node (o9 P) (BT.node (o28 P) BT.nil BT.nil) BT.nil) (BT.node (o17 P) BT.nil BT.nil)) (BT.node (o3 P) (BT.node (o13 P) (BT.node (o32 P) BT.nil BT.nil) BT.nil) (BT.node (o24 P) BT.nil BT.nil)))))
noncomputable def S2 (w : World) (os : OsState) : SharedT := ⟨T2 w.params, 40, (PySem.Life.mk [] [] [] 0 [] [] false #[] [] 0 false false false (0 : Int) [(2000 : Int), (10 : Int), (10 : Int)] false 0 true [] [] 0 false), #[], (PySem.Drawn.mk 0 0 0 0), 223, os⟩
noncomputable def g2 : List Stmt := ((behindTheImports pp).drop 2).take 1
theorem c2 (w : World) (os : OsState) : segRunT treeTable pp w 11 ann0 1 214 (S1 w os) (piecesOf g2 env0 cod0 (PySem.Pos.mk 2 0 3 8) B0) = some (.next, S2 w os, cod0, (PySem.Pos.mk 4 0 5 8)) := seg_q (by kernel_rfl)
noncomputable def o34 (P : Params) : Obj := (Obj.mk (Value.type "dict") none (Data.dict #[(DictEntry.mk (kh P (SS "__name__")) (Value.str (SS "__name__") 165) (Value.str (SS "fencewright.errors") 187)), (DictEntry.mk (kh P (SS "__doc__")) (Value.str (SS "__doc__") 166) Value.none), (DictEntry.mk (kh P (SS "__package__")) (Value.str (SS "__package__") 167) Value.none), (DictEntry.mk (kh P (SS "__loader__")) (Value.str (SS "__loader__") 168) (Value.builtin "__main__.__loader__#opaque")), (DictEntry.mk (kh P (SS "__spec__")) (Value.str (SS "__spec__") 169) Value.none), (DictEntry.mk (kh P (SS "__annotations__")) (Value.str (SS "__annotations__") 170) (Value.ref 6)), (DictEntry.mk (kh P (SS "__builtins__")) (Value.str (SS "__builtins__") 171) (Value.ref 4)), (DictEntry.mk (kh P (SS "__file__")) (Value.str (SS "__file__") 173) (Value.str (SS "/claim/cut.py") 172)), (DictEntry.mk (kh P (SS "__cached__")) (Value.str (SS "__cached__") 174) Value.none), (DictEntry.mk (kh P (SS "WebError")) (Value.str (SS "WebError") 206) (Value.ref 24)), (DictEntry.mk (kh P (SS "BadWeb")) (Value.str (SS "BadWeb") 222) (Value.ref 37)), (DictEntry.mk (kh P (SS "NoMove")) (Value.str (SS "NoMove") 238) (Value.ref 49))] 12) #[])
noncomputable def o35 (P : Params) : Obj := (Obj.mk Value.none none (Data.fields #[(Value.int (2 : Int) 0), (Value.int (0 : Int) 0), (Value.ref 20), (Value.int (4 : Int) 0), (Value.int (0 : Int) 0), (Value.ref 33), (Value.int (6 : Int) 0), (Value.int (0 : Int) 0), (Value.ref 45)]) #[])
noncomputable def o36 (P : Params) : Obj := (Obj.mk (Value.type "type") none (Data.cls (PySem.ClassData.mk (SS "WebError") [(Value.type "ValueError")] [(Value.ref 24), (Value.type "ValueError"), (Value.type "Exception"), (Value.type "BaseException"), (Value.type "object")] 23 (SS "WebError") true [] [(Value.ref 37), (Value.ref 49)] false none false)) #[(some (Value.ref 15)), none, (some (Value.str (SS "WebError") 189)), (some (Value.str (SS "WebError") 197)), (some (Value.builtin "ValueError.__new__")), (some (Value.bool true))])
noncomputable def o37 (P : Params) : Obj := (Obj.mk (Value.type "tuple") none (Data.seq #[(Value.ref 24)] 0) #[])
noncomputable def o38 (P : Params) : Obj := (Obj.mk (Value.type "builtin_function_or_method") none (Data.fields #[(Value.builtin "type.__prepare__"), (Value.type "type")]) #[])
noncomputable def o39 (P : Params) : Obj := (Obj.mk (Value.type "dict") none (Data.dict #[(DictEntry.mk (kh P (SS "__module__")) (Value.str (SS "__module__") 230) (Value.str (SS "fencewright.errors") 187)), (DictEntry.mk (kh P (SS "__qualname__")) (Value.str (SS "__qualname__") 232) (Value.str (SS "NoMove") 231)), (DictEntry.mk (kh P (SS "__firstlineno__")) (Value.str (SS "__firstlineno__") 234) (Value.int (6 : Int) 233)), (DictEntry.mk (kh P (SS "__static_attributes__")) (Value.str (SS "__static_attributes__") 235) (Value.ref 47))] 4) #[])
noncomputable def o40 (P : Params) : Obj := (Obj.mk (Value.type "tuple") none (Data.seq #[] 0) #[])
noncomputable def o41 (P : Params) : Obj := (Obj.mk Value.none none (Data.fields #[]) #[])
noncomputable def o42 (P : Params) : Obj := (Obj.mk (Value.type "code") none (Data.fields #[(Value.str (SS "NoMove") 225), (Value.str (SS "NoMove") 226), (Value.str (SS "/claim/cut.py") 227), (Value.int (6 : Int) 0), (Value.int (0 : Int) 0), (Value.int (0 : Int) 0), (Value.int (0 : Int) 0), (Value.int (0 : Int) 0), (Value.ref 43), (Value.bool false), (Value.int (181 : Int) 0), (Value.ref 44), Value.none, Value.none, Value.none, Value.none, (Value.int (228 : Int) 0), (Value.int (6 : Int) 0), (Value.str (SS "/claim/cut.py") 229)]) #[])
noncomputable def o43 (P : Params) : Obj := (Obj.mk (Value.type "frame") none Data.plain #[(some (Value.ref 45)), (some (Value.ref 3)), (some (Value.ref 42)), none, (some (Value.str (SS "fencewright.errors") 187)), none, (some (Value.ref 0))])
noncomputable def o44 (P : Params) : Obj := (Obj.mk (Value.type "tuple") none (Data.seq #[] 0) #[])
noncomputable def o45 (P : Params) : Obj := (Obj.mk (Value.type "dict") none (Data.dict #[(DictEntry.mk (kh P (SS "__module__")) (Value.str (SS "__module__") 230) (Value.str (SS "fencewright.errors") 187)), (DictEntry.mk (kh P (SS "__firstlineno__")) (Value.str (SS "__firstlineno__") 234) (Value.int (6 : Int) 233)), (DictEntry.mk (kh P (SS "__static_attributes__")) (Value.str (SS "__static_attributes__") 235) (Value.ref 47)), (DictEntry.mk (kh P (SS "__doc__")) (Value.str (SS "__doc__") 236) Value.none)] 2) #[])
noncomputable def o46 (P : Params) : Obj := (Obj.mk (Value.type "type") none (Data.cls (PySem.ClassData.mk (SS "NoMove") [(Value.ref 24)] [(Value.ref 49), (Value.ref 24), (Value.type "ValueError"), (Value.type "Exception"), (Value.type "BaseException"), (Value.type "object")] 48 (SS "NoMove") true [] [] false none false)) #[(some (Value.ref 40)), none, (some (Value.str (SS "NoMove") 223)), (some (Value.str (SS "NoMove") 231)), (some (Value.builtin "ValueError.__new__")), (some (Value.bool true))])
noncomputable def o47 (P : Params) : Obj := (Obj.mk (Value.type "super") none (Data.fields #[(Value.ref 49), (Value.ref 49), (Value.ref 49)]) #[])
noncomputable def o48 (P : Params) : Obj := (Obj.mk (Value.type "builtin_function_or_method") none (Data.fields #[(Value.builtin "object.__init_subclass__"), (Value.ref 49)]) #[])
noncomputable def T3 (P : Params) : BT := (BT.node (boot_o_0 P) (BT.node (boot_o_1 P) (BT.node (o34 P) (BT.node (boot_o_7 P) (BT.node (o6 P) (BT.node (o25 P) BT.nil BT.nil) (BT.node (o44 P) BT.nil BT.nil)) (BT.node (o14 P) (BT.node (o33 P) BT.nil BT.nil) BT.nil)) (BT.node (o0 P) (BT.node (o10 P) (BT.node (o29 P) BT.nil BT.nil) (BT.node (o48 P) BT.nil BT.nil)) (BT.node (o18 P) (BT.node (o40 P) BT.nil BT.nil) BT.nil))) (BT.node (boot_o_5 P) (BT.node (boot_o_9 P) (BT.node (o8 P) (BT.node (o27 P) BT.nil BT.nil) (BT.node (o46 P) BT.nil BT.nil)) (BT.node (o16 P) (BT.node (o38 P) BT.nil BT.nil) BT.nil)) (BT.node (o2 P) (BT.node (o12 P) (BT.node (o31 P) BT.nil BT.nil) BT.nil) (BT.node (o23 P) (BT.node (o42 P) BT.nil BT.nil) BT.nil)))) (BT.node (boot_o_2 P) (BT.node (boot_o_4 P) (BT.node (boot_o_8 P) (BT.node (o7 P) (BT.node (o26 P) BT.nil BT.nil) (BT.node (o45 P) BT.nil BT.nil)) (BT.node (o36 P) (BT.node (o37 P) BT.nil BT.nil) BT.nil)) (BT.node (o35 P) (BT.node (o11 P) (BT.node (o30 P) BT.nil BT.nil) BT.nil) (BT.node (o22 P) (BT.node (o41 P) BT.nil BT.nil) BT.nil))) (BT.node (boot_o_6 P) (BT.node (boot_o_10 P) (BT.node (o9 P) (BT.node (o28 P) BT.nil BT.nil) (BT.node (o47 P) BT.nil BT.nil)) (BT.node (o17 P) (BT.node (o39 P) BT.nil BT.nil) BT.nil)) (BT.node (o3 P) (BT.node (o13 P) (BT.node (o32 P) BT.nil BT.nil) BT.nil) (BT.node (o24 P) (BT.node (o43 P) BT.nil BT.nil) BT.nil)))))
noncomputable def S3 (w : World) (os : OsState) : SharedT := ⟨T3 w.params, 52, (PySem.Life.mk [] [] [] 0 [] [] false #[] [] 0 false false false (0 : Int) [(2000 : Int), (10 : Int), (10 : Int)] false 0 true [] [] 0 false), #[], (PySem.Drawn.mk 0 0 0 0), 239, os⟩
noncomputable def g3 : List Stmt := ((behindTheImports pp).drop 3).take 1
theorem c3 (w : World) (os : OsState) : segRunT treeTable pp w 11 ann0 1 214 (S2 w os) (piecesOf g3 env0 cod0 (PySem.Pos.mk 4 0 5 8) B0) = some (.next, S3 w os, cod0, (PySem.Pos.mk 6 0 7 8)) := seg_q (by kernel_rfl)
noncomputable def o49 (P : Params) : Obj := (Obj.mk (Value.type "dict") none (Data.dict #[(DictEntry.mk (kh P (SS "__name__")) (Value.str (SS "__name__") 165) (Value.str (SS "fencewright.errors") 187)), (DictEntry.mk (kh P (SS "__doc__")) (Value.str (SS "__doc__") 166) Value.none), (DictEntry.mk (kh P (SS "__package__")) (Value.str (SS "__package__") 167) Value.none), (DictEntry.mk (kh P (SS "__loader__")) (Value.str (SS "__loader__") 168) (Value.builtin "__main__.__loader__#opaque")), (DictEntry.mk (kh P (SS "__spec__")) (Value.str (SS "__spec__") 169) Value.none), (DictEntry.mk (kh P (SS "__annotations__")) (Value.str (SS "__annotations__") 170) (Value.ref 6)), (DictEntry.mk (kh P (SS "__builtins__")) (Value.str (SS "__builtins__") 171) (Value.ref 4)), (DictEntry.mk (kh P (SS "__file__")) (Value.str (SS "__file__") 173) (Value.str (SS "/claim/cut.py") 172)), (DictEntry.mk (kh P (SS "__cached__")) (Value.str (SS "__cached__") 174) Value.none), (DictEntry.mk (kh P (SS "WebError")) (Value.str (SS "WebError") 206) (Value.ref 24)), (DictEntry.mk (kh P (SS "BadWeb")) (Value.str (SS "BadWeb") 222) (Value.ref 37)), (DictEntry.mk (kh P (SS "NoMove")) (Value.str (SS "NoMove") 238) (Value.ref 49)), (DictEntry.mk (kh P (SS "NotOver")) (Value.str (SS "NotOver") 254) (Value.ref 61))] 13) #[])
noncomputable def o50 (P : Params) : Obj := (Obj.mk Value.none none (Data.fields #[(Value.int (2 : Int) 0), (Value.int (0 : Int) 0), (Value.ref 20), (Value.int (4 : Int) 0), (Value.int (0 : Int) 0), (Value.ref 33), (Value.int (6 : Int) 0), (Value.int (0 : Int) 0), (Value.ref 45), (Value.int (8 : Int) 0), (Value.int (0 : Int) 0), (Value.ref 57)]) #[])
noncomputable def o51 (P : Params) : Obj := (Obj.mk (Value.type "type") none (Data.cls (PySem.ClassData.mk (SS "WebError") [(Value.type "ValueError")] [(Value.ref 24), (Value.type "ValueError"), (Value.type "Exception"), (Value.type "BaseException"), (Value.type "object")] 23 (SS "WebError") true [] [(Value.ref 37), (Value.ref 49), (Value.ref 61)] false none false)) #[(some (Value.ref 15)), none, (some (Value.str (SS "WebError") 189)), (some (Value.str (SS "WebError") 197)), (some (Value.builtin "ValueError.__new__")), (some (Value.bool true))])
noncomputable def o52 (P : Params) : Obj := (Obj.mk (Value.type "tuple") none (Data.seq #[(Value.ref 24)] 0) #[])
noncomputable def o53 (P : Params) : Obj := (Obj.mk (Value.type "builtin_function_or_method") none (Data.fields #[(Value.builtin "type.__prepare__"), (Value.type "type")]) #[])
noncomputable def o54 (P : Params) : Obj := (Obj.mk (Value.type "dict") none (Data.dict #[(DictEntry.mk (kh P (SS "__module__")) (Value.str (SS "__module__") 246) (Value.str (SS "fencewright.errors") 187)), (DictEntry.mk (kh P (SS "__qualname__")) (Value.str (SS "__qualname__") 248) (Value.str (SS "NotOver") 247)), (DictEntry.mk (kh P (SS "__firstlineno__")) (Value.str (SS "__firstlineno__") 250) (Value.int (8 : Int) 249)), (DictEntry.mk (kh P (SS "__static_attributes__")) (Value.str (SS "__static_attributes__") 251) (Value.ref 59))] 4) #[])
noncomputable def o55 (P : Params) : Obj := (Obj.mk (Value.type "tuple") none (Data.seq #[] 0) #[])
noncomputable def o56 (P : Params) : Obj := (Obj.mk Value.none none (Data.fields #[]) #[])
noncomputable def o57 (P : Params) : Obj := (Obj.mk (Value.type "code") none (Data.fields #[(Value.str (SS "NotOver") 241), (Value.str (SS "NotOver") 242), (Value.str (SS "/claim/cut.py") 243), (Value.int (8 : Int) 0), (Value.int (0 : Int) 0), (Value.int (0 : Int) 0), (Value.int (0 : Int) 0), (Value.int (0 : Int) 0), (Value.ref 55), (Value.bool false), (Value.int (181 : Int) 0), (Value.ref 56), Value.none, Value.none, Value.none, Value.none, (Value.int (244 : Int) 0), (Value.int (8 : Int) 0), (Value.str (SS "/claim/cut.py") 245)]) #[])
noncomputable def o58 (P : Params) : Obj := (Obj.mk (Value.type "frame") none Data.plain #[(some (Value.ref 57)), (some (Value.ref 3)), (some (Value.ref 54)), none, (some (Value.str (SS "fencewright.errors") 187)), none, (some (Value.ref 0))])
noncomputable def o59 (P : Params) : Obj := (Obj.mk (Value.type "tuple") none (Data.seq #[] 0) #[])
noncomputable def o60 (P : Params) : Obj := (Obj.mk (Value.type "dict") none (Data.dict #[(DictEntry.mk (kh P (SS "__module__")) (Value.str (SS "__module__") 246) (Value.str (SS "fencewright.errors") 187)), (DictEntry.mk (kh P (SS "__firstlineno__")) (Value.str (SS "__firstlineno__") 250) (Value.int (8 : Int) 249)), (DictEntry.mk (kh P (SS "__static_attributes__")) (Value.str (SS "__static_attributes__") 251) (Value.ref 59)), (DictEntry.mk (kh P (SS "__doc__")) (Value.str (SS "__doc__") 252) Value.none)] 2) #[])
noncomputable def o61 (P : Params) : Obj := (Obj.mk (Value.type "type") none (Data.cls (PySem.ClassData.mk (SS "NotOver") [(Value.ref 24)] [(Value.ref 61), (Value.ref 24), (Value.type "ValueError"), (Value.type "Exception"), (Value.type "BaseException"), (Value.type "object")] 60 (SS "NotOver") true [] [] false none false)) #[(some (Value.ref 52)), none, (some (Value.str (SS "NotOver") 239)), (some (Value.str (SS "NotOver") 247)), (some (Value.builtin "ValueError.__new__")), (some (Value.bool true))])
noncomputable def o62 (P : Params) : Obj := (Obj.mk (Value.type "super") none (Data.fields #[(Value.ref 61), (Value.ref 61), (Value.ref 61)]) #[])
noncomputable def o63 (P : Params) : Obj := (Obj.mk (Value.type "builtin_function_or_method") none (Data.fields #[(Value.builtin "object.__init_subclass__"), (Value.ref 61)]) #[])
noncomputable def T4 (P : Params) : BT := (BT.node (boot_o_0 P) (BT.node (boot_o_1 P) (BT.node (o49 P) (BT.node (boot_o_7 P) (BT.node (o6 P) (BT.node (o25 P) (BT.node (o63 P) BT.nil BT.nil) BT.nil) (BT.node (o44 P) BT.nil BT.nil)) (BT.node (o14 P) (BT.node (o33 P) BT.nil BT.nil) (BT.node (o55 P) BT.nil BT.nil))) (BT.node (o0 P) (BT.node (o10 P) (BT.node (o29 P) BT.nil BT.nil) (BT.node (o48 P) BT.nil BT.nil)) (BT.node (o18 P) (BT.node (o40 P) BT.nil BT.nil) (BT.node (o59 P) BT.nil BT.nil)))) (BT.node (boot_o_5 P) (BT.node (boot_o_9 P) (BT.node (o8 P) (BT.node (o27 P) BT.nil BT.nil) (BT.node (o46 P) BT.nil BT.nil)) (BT.node (o16 P) (BT.node (o38 P) BT.nil BT.nil) (BT.node (o57 P) BT.nil BT.nil))) (BT.node (o2 P) (BT.node (o12 P) (BT.node (o31 P) BT.nil BT.nil) (BT.node (o53 P) BT.nil BT.nil)) (BT.node (o23 P) (BT.node (o42 P) BT.nil BT.nil) (BT.node (o61 P) BT.nil BT.nil))))) (BT.node (boot_o_2 P) (BT.node (boot_o_4 P) (BT.node (boot_o_8 P) (BT.node (o7 P) (BT.node (o26 P) BT.nil BT.nil) (BT.node (o45 P) BT.nil BT.nil)) (BT.node (o51 P) (BT.node (o37 P) BT.nil BT.nil) (BT.node (o56 P) BT.nil BT.nil))) (BT.node (o50 P) (BT.node (o11 P) (BT.node (o30 P) BT.nil BT.nil) (BT.node (o52 P) BT.nil BT.nil)) (BT.node (o22 P) (BT.node (o41 P) BT.nil BT.nil) (BT.node (o60 P) BT.nil BT.nil)))) (BT.node (boot_o_6 P) (BT.node (boot_o_10 P) (BT.node (o9 P) (BT.node (o28 P) BT.nil BT.nil) (BT.node (o47 P) BT.nil BT.nil)) (BT.node (o17 P) (BT.node (o39 P) BT.nil BT.nil) (BT.node (o58 P) BT.nil BT.nil))) (BT.node (o3 P) (BT.node (o13 P) (BT.node (o32 P) BT.nil BT.nil) (BT.node (o54 P) BT.nil BT.nil)) (BT.node (o24 P) (BT.node (o43 P) BT.nil BT.nil) (BT.node (o62 P) BT.nil BT.nil))))))
noncomputable def S4 (w : World) (os : OsState) : SharedT := ⟨T4 w.params, 64, (PySem.Life.mk [] [] [] 0 [] [] false #[] [] 0 false false false (0 : Int) [(2000 : Int), (10 : Int), (10 : Int)] false 0 true [] [] 0 false), #[], (PySem.Drawn.mk 0 0 0 0), 255, os⟩
noncomputable def g4 : List Stmt := ((behindTheImports pp).drop 4).take 1
theorem c4 (w : World) (os : OsState) : segRunT treeTable pp w 11 ann0 1 214 (S3 w os) (piecesOf g4 env0 cod0 (PySem.Pos.mk 6 0 7 8) B0) = some (.next, S4 w os, cod0, (PySem.Pos.mk 8 0 9 8)) := seg_q (by kernel_rfl)
noncomputable def o64 (P : Params) : Obj := (Obj.mk (Value.type "dict") none (Data.dict #[(DictEntry.mk (kh P (SS "__name__")) (Value.str (SS "__name__") 165) (Value.str (SS "fencewright.errors") 187)), (DictEntry.mk (kh P (SS "__doc__")) (Value.str (SS "__doc__") 166) Value.none), (DictEntry.mk (kh P (SS "__package__")) (Value.str (SS "__package__") 167) Value.none), (DictEntry.mk (kh P (SS "__loader__")) (Value.str (SS "__loader__") 168) (Value.builtin "__main__.__loader__#opaque")), (DictEntry.mk (kh P (SS "__spec__")) (Value.str (SS "__spec__") 169) Value.none), (DictEntry.mk (kh P (SS "__annotations__")) (Value.str (SS "__annotations__") 170) (Value.ref 6)), (DictEntry.mk (kh P (SS "__builtins__")) (Value.str (SS "__builtins__") 171) (Value.ref 4)), (DictEntry.mk (kh P (SS "__file__")) (Value.str (SS "__file__") 173) (Value.str (SS "/claim/cut.py") 172)), (DictEntry.mk (kh P (SS "__cached__")) (Value.str (SS "__cached__") 174) Value.none), (DictEntry.mk (kh P (SS "WebError")) (Value.str (SS "WebError") 206) (Value.ref 24)), (DictEntry.mk (kh P (SS "BadWeb")) (Value.str (SS "BadWeb") 222) (Value.ref 37)), (DictEntry.mk (kh P (SS "NoMove")) (Value.str (SS "NoMove") 238) (Value.ref 49)), (DictEntry.mk (kh P (SS "NotOver")) (Value.str (SS "NotOver") 254) (Value.ref 61)), (DictEntry.mk (kh P (SS "NoPlace")) (Value.str (SS "NoPlace") 270) (Value.ref 73))] 14) #[])
noncomputable def o65 (P : Params) : Obj := (Obj.mk Value.none none (Data.fields #[(Value.int (2 : Int) 0), (Value.int (0 : Int) 0), (Value.ref 20), (Value.int (4 : Int) 0), (Value.int (0 : Int) 0), (Value.ref 33), (Value.int (6 : Int) 0), (Value.int (0 : Int) 0), (Value.ref 45), (Value.int (8 : Int) 0), (Value.int (0 : Int) 0), (Value.ref 57), (Value.int (10 : Int) 0), (Value.int (0 : Int) 0), (Value.ref 69)]) #[])
noncomputable def o66 (P : Params) : Obj := (Obj.mk (Value.type "type") none (Data.cls (PySem.ClassData.mk (SS "WebError") [(Value.type "ValueError")] [(Value.ref 24), (Value.type "ValueError"), (Value.type "Exception"), (Value.type "BaseException"), (Value.type "object")] 23 (SS "WebError") true [] [(Value.ref 37), (Value.ref 49), (Value.ref 61), (Value.ref 73)] false none false)) #[(some (Value.ref 15)), none, (some (Value.str (SS "WebError") 189)), (some (Value.str (SS "WebError") 197)), (some (Value.builtin "ValueError.__new__")), (some (Value.bool true))])
noncomputable def o67 (P : Params) : Obj := (Obj.mk (Value.type "tuple") none (Data.seq #[(Value.ref 24)] 0) #[])
noncomputable def o68 (P : Params) : Obj := (Obj.mk (Value.type "builtin_function_or_method") none (Data.fields #[(Value.builtin "type.__prepare__"), (Value.type "type")]) #[])
noncomputable def o69 (P : Params) : Obj := (Obj.mk (Value.type "dict") none (Data.dict #[(DictEntry.mk (kh P (SS "__module__")) (Value.str (SS "__module__") 262) (Value.str (SS "fencewright.errors") 187)), (DictEntry.mk (kh P (SS "__qualname__")) (Value.str (SS "__qualname__") 264) (Value.str (SS "NoPlace") 263)), (DictEntry.mk (kh P (SS "__firstlineno__")) (Value.str (SS "__firstlineno__") 266) (Value.int (10 : Int) 265)), (DictEntry.mk (kh P (SS "__static_attributes__")) (Value.str (SS "__static_attributes__") 267) (Value.ref 71))] 4) #[])
noncomputable def o70 (P : Params) : Obj := (Obj.mk (Value.type "tuple") none (Data.seq #[] 0) #[])
noncomputable def o71 (P : Params) : Obj := (Obj.mk Value.none none (Data.fields #[]) #[])
noncomputable def o72 (P : Params) : Obj := (Obj.mk (Value.type "code") none (Data.fields #[(Value.str (SS "NoPlace") 257), (Value.str (SS "NoPlace") 258), (Value.str (SS "/claim/cut.py") 259), (Value.int (10 : Int) 0), (Value.int (0 : Int) 0), (Value.int (0 : Int) 0), (Value.int (0 : Int) 0), (Value.int (0 : Int) 0), (Value.ref 67), (Value.bool false), (Value.int (181 : Int) 0), (Value.ref 68), Value.none, Value.none, Value.none, Value.none, (Value.int (260 : Int) 0), (Value.int (10 : Int) 0), (Value.str (SS "/claim/cut.py") 261)]) #[])
noncomputable def o73 (P : Params) : Obj := (Obj.mk (Value.type "frame") none Data.plain #[(some (Value.ref 69)), (some (Value.ref 3)), (some (Value.ref 66)), none, (some (Value.str (SS "fencewright.errors") 187)), none, (some (Value.ref 0))])
noncomputable def o74 (P : Params) : Obj := (Obj.mk (Value.type "tuple") none (Data.seq #[] 0) #[])
noncomputable def o75 (P : Params) : Obj := (Obj.mk (Value.type "dict") none (Data.dict #[(DictEntry.mk (kh P (SS "__module__")) (Value.str (SS "__module__") 262) (Value.str (SS "fencewright.errors") 187)), (DictEntry.mk (kh P (SS "__firstlineno__")) (Value.str (SS "__firstlineno__") 266) (Value.int (10 : Int) 265)), (DictEntry.mk (kh P (SS "__static_attributes__")) (Value.str (SS "__static_attributes__") 267) (Value.ref 71)), (DictEntry.mk (kh P (SS "__doc__")) (Value.str (SS "__doc__") 268) Value.none)] 2) #[])
noncomputable def o76 (P : Params) : Obj := (Obj.mk (Value.type "type") none (Data.cls (PySem.ClassData.mk (SS "NoPlace") [(Value.ref 24)] [(Value.ref 73), (Value.ref 24), (Value.type "ValueError"), (Value.type "Exception"), (Value.type "BaseException"), (Value.type "object")] 72 (SS "NoPlace") true [] [] false none false)) #[(some (Value.ref 64)), none, (some (Value.str (SS "NoPlace") 255)), (some (Value.str (SS "NoPlace") 263)), (some (Value.builtin "ValueError.__new__")), (some (Value.bool true))])
noncomputable def o77 (P : Params) : Obj := (Obj.mk (Value.type "super") none (Data.fields #[(Value.ref 73), (Value.ref 73), (Value.ref 73)]) #[])
noncomputable def o78 (P : Params) : Obj := (Obj.mk (Value.type "builtin_function_or_method") none (Data.fields #[(Value.builtin "object.__init_subclass__"), (Value.ref 73)]) #[])
noncomputable def T5 (P : Params) : BT := (BT.node (boot_o_0 P) (BT.node (boot_o_1 P) (BT.node (o64 P) (BT.node (boot_o_7 P) (BT.node (o6 P) (BT.node (o25 P) (BT.node (o63 P) BT.nil BT.nil) BT.nil) (BT.node (o44 P) BT.nil BT.nil)) (BT.node (o14 P) (BT.node (o33 P) (BT.node (o74 P) BT.nil BT.nil) BT.nil) (BT.node (o55 P) BT.nil BT.nil))) (BT.node (o0 P) (BT.node (o10 P) (BT.node (o29 P) (BT.node (o70 P) BT.nil BT.nil) BT.nil) (BT.node (o48 P) BT.nil BT.nil)) (BT.node (o18 P) (BT.node (o40 P) (BT.node (o78 P) BT.nil BT.nil) BT.nil) (BT.node (o59 P) BT.nil BT.nil)))) (BT.node (boot_o_5 P) (BT.node (boot_o_9 P) (BT.node (o8 P) (BT.node (o27 P) (BT.node (o68 P) BT.nil BT.nil) BT.nil) (BT.node (o46 P) BT.nil BT.nil)) (BT.node (o16 P) (BT.node (o38 P) (BT.node (o76 P) BT.nil BT.nil) BT.nil) (BT.node (o57 P) BT.nil BT.nil))) (BT.node (o2 P) (BT.node (o12 P) (BT.node (o31 P) (BT.node (o72 P) BT.nil BT.nil) BT.nil) (BT.node (o53 P) BT.nil BT.nil)) (BT.node (o23 P) (BT.node (o42 P) BT.nil BT.nil) (BT.node (o61 P) BT.nil BT.nil))))) (BT.node (boot_o_2 P) (BT.node (boot_o_4 P) (BT.node (boot_o_8 P) (BT.node (o7 P) (BT.node (o26 P) (BT.node (o67 P) BT.nil BT.nil) BT.nil) (BT.node (o45 P) BT.nil BT.nil)) (BT.node (o66 P) (BT.node (o37 P) (BT.node (o75 P) BT.nil BT.nil) BT.nil) (BT.node (o56 P) BT.nil BT.nil))) (BT.node (o65 P) (BT.node (o11 P) (BT.node (o30 P) (BT.node (o71 P) BT.nil BT.nil) BT.nil) (BT.node (o52 P) BT.nil BT.nil)) (BT.node (o22 P) (BT.node (o41 P) BT.nil BT.nil) (BT.node (o60 P) BT.nil BT.nil)))) (BT.node (boot_o_6 P) (BT.node (boot_o_10 P) (BT.node (o9 P) (BT.node (o28 P) (BT.node (o69 P) BT.nil BT.nil) BT.nil) (BT.node (o47 P) BT.nil BT.nil)) (BT.node (o17 P) (BT.node (o39 P) (BT.node (o77 P) BT.nil BT.nil) BT.nil) (BT.node (o58 P) BT.nil BT.nil))) (BT.node (o3 P) (BT.node (o13 P) (BT.node (o32 P) (BT.node (o73 P) BT.nil BT.nil) BT.nil) (BT.node (o54 P) BT.nil BT.nil)) (BT.node (o24 P) (BT.node (o43 P) BT.nil BT.nil) (BT.node (o62 P) BT.nil BT.nil))))))
noncomputable def S5 (w : World) (os : OsState) : SharedT := ⟨T5 w.params, 76, (PySem.Life.mk [] [] [] 0 [] [] false #[] [] 0 false false false (0 : Int) [(2000 : Int), (10 : Int), (10 : Int)] false 0 true [] [] 0 false), #[], (PySem.Drawn.mk 0 0 0 0), 271, os⟩
noncomputable def g5 : List Stmt := ((behindTheImports pp).drop 5).take 1
theorem c5 (w : World) (os : OsState) : segRunT treeTable pp w 11 ann0 1 214 (S4 w os) (piecesOf g5 env0 cod0 (PySem.Pos.mk 8 0 9 8) B0) = some (.next, S5 w os, cod0, (PySem.Pos.mk 10 0 11 8)) := seg_q (by kernel_rfl)
noncomputable def o79 (P : Params) : Obj := (Obj.mk (Value.type "dict") none (Data.dict #[(DictEntry.mk (kh P (SS "__name__")) (Value.str (SS "__name__") 165) (Value.str (SS "fencewright.states") 330)), (DictEntry.mk (kh P (SS "__doc__")) (Value.str (SS "__doc__") 166) Value.none), (DictEntry.mk (kh P (SS "__package__")) (Value.str (SS "__package__") 167) Value.none), (DictEntry.mk (kh P (SS "__loader__")) (Value.str (SS "__loader__") 168) (Value.builtin "__main__.__loader__#opaque")), (DictEntry.mk (kh P (SS "__spec__")) (Value.str (SS "__spec__") 169) Value.none), (DictEntry.mk (kh P (SS "__annotations__")) (Value.str (SS "__annotations__") 170) (Value.ref 6)), (DictEntry.mk (kh P (SS "__builtins__")) (Value.str (SS "__builtins__") 171) (Value.ref 4)), (DictEntry.mk (kh P (SS "__file__")) (Value.str (SS "__file__") 173) (Value.str (SS "/claim/cut.py") 172)), (DictEntry.mk (kh P (SS "__cached__")) (Value.str (SS "__cached__") 174) Value.none), (DictEntry.mk (kh P (SS "WebError")) (Value.str (SS "WebError") 206) (Value.ref 24)), (DictEntry.mk (kh P (SS "BadWeb")) (Value.str (SS "BadWeb") 222) (Value.ref 37)), (DictEntry.mk (kh P (SS "NoMove")) (Value.str (SS "NoMove") 238) (Value.ref 49)), (DictEntry.mk (kh P (SS "NotOver")) (Value.str (SS "NotOver") 254) (Value.ref 61)), (DictEntry.mk (kh P (SS "NoPlace")) (Value.str (SS "NoPlace") 270) (Value.ref 73)), (DictEntry.mk (kh P (SS "NoText")) (Value.str (SS "NoText") 286) (Value.ref 85)), (DictEntry.mk (kh P (SS "BOXES")) (Value.str (SS "BOXES") 290) (Value.int (4 : Int) 289)), (DictEntry.mk (kh P (SS "MOST_ROWS")) (Value.str (SS "MOST_ROWS") 292) (Value.int (3 : Int) 291)), (DictEntry.mk (kh P (SS "MOST_DEEDS")) (Value.str (SS "MOST_DEEDS") 294) (Value.int (8 : Int) 293)), (DictEntry.mk (kh P (SS "TOO_GREAT")) (Value.str (SS "TOO_GREAT") 298) (Value.int (1000000000000000000000000000000 : Int) 297)), (DictEntry.mk (kh P (SS "is_whole")) (Value.str (SS "is_whole") 305) (Value.ref 94)), (DictEntry.mk (kh P (SS "is_box")) (Value.str (SS "is_box") 312) (Value.ref 101)), (DictEntry.mk (kh P (SS "is_step")) (Value.str (SS "is_step") 319) (Value.ref 108)), (DictEntry.mk (kh P (SS "need_web")) (Value.str (SS "need_web") 329) (Value.ref 115))] 23) #[])
noncomputable def o80 (P : Params) : Obj := (Obj.mk Value.none none (Data.fields #[(Value.int (2 : Int) 0), (Value.int (0 : Int) 0), (Value.ref 20), (Value.int (4 : Int) 0), (Value.int (0 : Int) 0), (Value.ref 33), (Value.int (6 : Int) 0), (Value.int (0 : Int) 0), (Value.ref 45), (Value.int (8 : Int) 0), (Value.int (0 : Int) 0), (Value.ref 57), (Value.int (10 : Int) 0), (Value.int (0 : Int) 0), (Value.ref 69), (Value.int (12 : Int) 0), (Value.int (0 : Int) 0), (Value.ref 81), (Value.int (19 : Int) 0), (Value.int (0 : Int) 0), (Value.ref 93), (Value.int (21 : Int) 0), (Value.int (0 : Int) 0), (Value.ref 100), (Value.int (23 : Int) 0), (Value.int (0 : Int) 0), (Value.ref 107), (Value.int (33 : Int) 0), (Value.int (0 : Int) 0), (Value.ref 114)]) #[])
noncomputable def o81 (P : Params) : Obj := (Obj.mk (Value.type "type") none (Data.cls (PySem.ClassData.mk (SS "WebError") [(Value.type "ValueError")] [(Value.ref 24), (Value.type "ValueError"), (Value.type "Exception"), (Value.type "BaseException"), (Value.type "object")] 23 (SS "WebError") true [] [(Value.ref 37), (Value.ref 49), (Value.ref 61), (Value.ref 73), (Value.ref 85)] false none false)) #[(some (Value.ref 15)), none, (some (Value.str (SS "WebError") 189)), (some (Value.str (SS "WebError") 197)), (some (Value.builtin "ValueError.__new__")), (some (Value.bool true))])
noncomputable def o82 (P : Params) : Obj := (Obj.mk (Value.type "tuple") none (Data.seq #[(Value.ref 24)] 0) #[])
noncomputable def o83 (P : Params) : Obj := (Obj.mk (Value.type "builtin_function_or_method") none (Data.fields #[(Value.builtin "type.__prepare__"), (Value.type "type")]) #[])
noncomputable def o84 (P : Params) : Obj := (Obj.mk (Value.type "dict") none (Data.dict #[(DictEntry.mk (kh P (SS "__module__")) (Value.str (SS "__module__") 278) (Value.str (SS "fencewright.errors") 187)), (DictEntry.mk (kh P (SS "__qualname__")) (Value.str (SS "__qualname__") 280) (Value.str (SS "NoText") 279)), (DictEntry.mk (kh P (SS "__firstlineno__")) (Value.str (SS "__firstlineno__") 282) (Value.int (12 : Int) 281)), (DictEntry.mk (kh P (SS "__static_attributes__")) (Value.str (SS "__static_attributes__") 283) (Value.ref 83))] 4) #[])
noncomputable def o85 (P : Params) : Obj := (Obj.mk (Value.type "tuple") none (Data.seq #[] 0) #[])
noncomputable def o86 (P : Params) : Obj := (Obj.mk Value.none none (Data.fields #[]) #[])
noncomputable def o87 (P : Params) : Obj := (Obj.mk (Value.type "code") none (Data.fields #[(Value.str (SS "NoText") 273), (Value.str (SS "NoText") 274), (Value.str (SS "/claim/cut.py") 275), (Value.int (12 : Int) 0), (Value.int (0 : Int) 0), (Value.int (0 : Int) 0), (Value.int (0 : Int) 0), (Value.int (0 : Int) 0), (Value.ref 79), (Value.bool false), (Value.int (181 : Int) 0), (Value.ref 80), Value.none, Value.none, Value.none, Value.none, (Value.int (276 : Int) 0), (Value.int (12 : Int) 0), (Value.str (SS "/claim/cut.py") 277)]) #[])
noncomputable def o88 (P : Params) : Obj := (Obj.mk (Value.type "frame") none Data.plain #[(some (Value.ref 81)), (some (Value.ref 3)), (some (Value.ref 78)), none, (some (Value.str (SS "fencewright.errors") 187)), none, (some (Value.ref 0))])
noncomputable def o89 (P : Params) : Obj := (Obj.mk (Value.type "tuple") none (Data.seq #[] 0) #[])
noncomputable def o90 (P : Params) : Obj := (Obj.mk (Value.type "dict") none (Data.dict #[(DictEntry.mk (kh P (SS "__module__")) (Value.str (SS "__module__") 278) (Value.str (SS "fencewright.errors") 187)), (DictEntry.mk (kh P (SS "__firstlineno__")) (Value.str (SS "__firstlineno__") 282) (Value.int (12 : Int) 281)), (DictEntry.mk (kh P (SS "__static_attributes__")) (Value.str (SS "__static_attributes__") 283) (Value.ref 83)), (DictEntry.mk (kh P (SS "__doc__")) (Value.str (SS "__doc__") 284) Value.none)] 2) #[])
noncomputable def o91 (P : Params) : Obj := (Obj.mk (Value.type "type") none (Data.cls (PySem.ClassData.mk (SS "NoText") [(Value.ref 24)] [(Value.ref 85), (Value.ref 24), (Value.type "ValueError"), (Value.type "Exception"), (Value.type "BaseException"), (Value.type "object")] 84 (SS "NoText") true [] [] false none false)) #[(some (Value.ref 76)), none, (some (Value.str (SS "NoText") 271)), (some (Value.str (SS "NoText") 279)), (some (Value.builtin "ValueError.__new__")), (some (Value.bool true))])
noncomputable def o92 (P : Params) : Obj := (Obj.mk (Value.type "super") none (Data.fields #[(Value.ref 85), (Value.ref 85), (Value.ref 85)]) #[])
noncomputable def o93 (P : Params) : Obj := (Obj.mk (Value.type "builtin_function_or_method") none (Data.fields #[(Value.builtin "object.__init_subclass__"), (Value.ref 85)]) #[])
noncomputable def o94 (P : Params) : Obj := (Obj.mk (Value.type "tuple") none (Data.seq #[] 0) #[])
noncomputable def o95 (P : Params) : Obj := (Obj.mk Value.none none (Data.fields #[]) #[])
noncomputable def o96 (P : Params) : Obj := (Obj.mk (Value.type "tuple") none (Data.seq #[(Value.str (SS "thing") 302)] 0) #[])
noncomputable def o97 (P : Params) : Obj := (Obj.mk (Value.type "tuple") none (Data.seq #[] 0) #[])
noncomputable def o98 (P : Params) : Obj := (Obj.mk Value.none none (Data.func (PySem.FuncData.mk (SS "is_whole") (SS "is_whole") (fdA 12) (PySem.FuncBody.stmts (fdB 12)) (fdS 12) 0 [] Value.none Value.none Value.none Value.none none Value.none Value.none 0)) #[])
noncomputable def o99 (P : Params) : Obj := (Obj.mk (Value.type "code") none (Data.fields #[(Value.str (SS "is_whole") 299), (Value.str (SS "is_whole") 300), (Value.str (SS "/claim/cut.py") 301), (Value.int (19 : Int) 0), (Value.int (1 : Int) 0), (Value.int (0 : Int) 0), (Value.int (0 : Int) 0), (Value.int (3 : Int) 0), (Value.ref 88), (Value.bool true), (Value.int (181 : Int) 0), (Value.ref 89), Value.none, (Value.ref 90), (Value.ref 91), (Value.ref 92), (Value.int (303 : Int) 0), (Value.int (19 : Int) 0), (Value.str (SS "/claim/cut.py") 304)]) #[])
noncomputable def o100 (P : Params) : Obj := (Obj.mk (Value.type "function") none (Data.func (PySem.FuncData.mk (SS "is_whole") (SS "is_whole") (fdA 12) (PySem.FuncBody.stmts (fdB 12)) (fdS 12) 3 [] Value.none Value.none Value.none (Value.str (SS "fencewright.webs") 287) none (Value.ref 93) Value.none 0)) #[])
noncomputable def o101 (P : Params) : Obj := (Obj.mk (Value.type "tuple") none (Data.seq #[] 0) #[])
noncomputable def o102 (P : Params) : Obj := (Obj.mk Value.none none (Data.fields #[]) #[])
noncomputable def o103 (P : Params) : Obj := (Obj.mk (Value.type "tuple") none (Data.seq #[(Value.str (SS "thing") 309)] 0) #[])
noncomputable def o104 (P : Params) : Obj := (Obj.mk (Value.type "tuple") none (Data.seq #[] 0) #[])
noncomputable def o105 (P : Params) : Obj := (Obj.mk Value.none none (Data.func (PySem.FuncData.mk (SS "is_box") (SS "is_box") (fdA 13) (PySem.FuncBody.stmts (fdB 13)) (fdS 13) 0 [] Value.none Value.none Value.none Value.none none Value.none Value.none 0)) #[])
noncomputable def o106 (P : Params) : Obj := (Obj.mk (Value.type "code") none (Data.fields #[(Value.str (SS "is_box") 306), (Value.str (SS "is_box") 307), (Value.str (SS "/claim/cut.py") 308), (Value.int (21 : Int) 0), (Value.int (1 : Int) 0), (Value.int (0 : Int) 0), (Value.int (0 : Int) 0), (Value.int (3 : Int) 0), (Value.ref 95), (Value.bool true), (Value.int (181 : Int) 0), (Value.ref 96), Value.none, (Value.ref 97), (Value.ref 98), (Value.ref 99), (Value.int (310 : Int) 0), (Value.int (21 : Int) 0), (Value.str (SS "/claim/cut.py") 311)]) #[])
noncomputable def o107 (P : Params) : Obj := (Obj.mk (Value.type "function") none (Data.func (PySem.FuncData.mk (SS "is_box") (SS "is_box") (fdA 13) (PySem.FuncBody.stmts (fdB 13)) (fdS 13) 3 [] Value.none Value.none Value.none (Value.str (SS "fencewright.webs") 287) none (Value.ref 100) Value.none 0)) #[])
noncomputable def o108 (P : Params) : Obj := (Obj.mk (Value.type "tuple") none (Data.seq #[] 0) #[])
noncomputable def o109 (P : Params) : Obj := (Obj.mk Value.none none (Data.fields #[]) #[])
noncomputable def o110 (P : Params) : Obj := (Obj.mk (Value.type "tuple") none (Data.seq #[(Value.str (SS "thing") 316)] 0) #[])
noncomputable def o111 (P : Params) : Obj := (Obj.mk (Value.type "tuple") none (Data.seq #[] 0) #[])
noncomputable def o112 (P : Params) : Obj := (Obj.mk Value.none none (Data.func (PySem.FuncData.mk (SS "is_step") (SS "is_step") (fdA 14) (PySem.FuncBody.stmts (fdB 14)) (fdS 14) 0 [] Value.none Value.none Value.none Value.none none Value.none Value.none 0)) #[])
noncomputable def o113 (P : Params) : Obj := (Obj.mk (Value.type "code") none (Data.fields #[(Value.str (SS "is_step") 313), (Value.str (SS "is_step") 314), (Value.str (SS "/claim/cut.py") 315), (Value.int (23 : Int) 0), (Value.int (1 : Int) 0), (Value.int (0 : Int) 0), (Value.int (0 : Int) 0), (Value.int (3 : Int) 0), (Value.ref 102), (Value.bool true), (Value.int (181 : Int) 0), (Value.ref 103), Value.none, (Value.ref 104), (Value.ref 105), (Value.ref 106), (Value.int (317 : Int) 0), (Value.int (23 : Int) 0), (Value.str (SS "/claim/cut.py") 318)]) #[])
noncomputable def o114 (P : Params) : Obj := (Obj.mk (Value.type "function") none (Data.func (PySem.FuncData.mk (SS "is_step") (SS "is_step") (fdA 14) (PySem.FuncBody.stmts (fdB 14)) (fdS 14) 3 [] Value.none Value.none Value.none (Value.str (SS "fencewright.webs") 287) none (Value.ref 107) Value.none 0)) #[])
noncomputable def o115 (P : Params) : Obj := (Obj.mk (Value.type "tuple") none (Data.seq #[] 0) #[])
noncomputable def o116 (P : Params) : Obj := (Obj.mk Value.none none (Data.fields #[]) #[])
noncomputable def o117 (P : Params) : Obj := (Obj.mk (Value.type "tuple") none (Data.seq #[(Value.str (SS "web") 323), (Value.str (SS "deeds") 324), (Value.str (SS "row") 325), (Value.str (SS "step") 326)] 0) #[])
noncomputable def o118 (P : Params) : Obj := (Obj.mk (Value.type "tuple") none (Data.seq #[] 0) #[])
noncomputable def o119 (P : Params) : Obj := (Obj.mk Value.none none (Data.func (PySem.FuncData.mk (SS "need_web") (SS "need_web") (fdA 15) (PySem.FuncBody.stmts (fdB 15)) (fdS 15) 0 [] Value.none Value.none Value.none Value.none none Value.none Value.none 0)) #[])
noncomputable def o120 (P : Params) : Obj := (Obj.mk (Value.type "code") none (Data.fields #[(Value.str (SS "need_web") 320), (Value.str (SS "need_web") 321), (Value.str (SS "/claim/cut.py") 322), (Value.int (33 : Int) 0), (Value.int (1 : Int) 0), (Value.int (0 : Int) 0), (Value.int (0 : Int) 0), (Value.int (3 : Int) 0), (Value.ref 109), (Value.bool true), (Value.int (181 : Int) 0), (Value.ref 110), Value.none, (Value.ref 111), (Value.ref 112), (Value.ref 113), (Value.int (327 : Int) 0), (Value.int (33 : Int) 0), (Value.str (SS "/claim/cut.py") 328)]) #[])
noncomputable def o121 (P : Params) : Obj := (Obj.mk (Value.type "function") none (Data.func (PySem.FuncData.mk (SS "need_web") (SS "need_web") (fdA 15) (PySem.FuncBody.stmts (fdB 15)) (fdS 15) 3 [] Value.none Value.none Value.none (Value.str (SS "fencewright.webs") 287) none (Value.ref 114) Value.none 0)) #[])
noncomputable def T6 (P : Params) : BT := (BT.node (boot_o_0 P) (BT.node (boot_o_1 P) (BT.node (o79 P) (BT.node (boot_o_7 P) (BT.node (o6 P) (BT.node (o25 P) (BT.node (o63 P) BT.nil BT.nil) (BT.node (o101 P) BT.nil BT.nil)) (BT.node (o44 P) (BT.node (o85 P) BT.nil BT.nil) (BT.node (o117 P) BT.nil BT.nil))) (BT.node (o14 P) (BT.node (o33 P) (BT.node (o74 P) BT.nil BT.nil) (BT.node (o109 P) BT.nil BT.nil)) (BT.node (o55 P) (BT.node (o93 P) BT.nil BT.nil) BT.nil))) (BT.node (o0 P) (BT.node (o10 P) (BT.node (o29 P) (BT.node (o70 P) BT.nil BT.nil) (BT.node (o105 P) BT.nil BT.nil)) (BT.node (o48 P) (BT.node (o89 P) BT.nil BT.nil) (BT.node (o121 P) BT.nil BT.nil))) (BT.node (o18 P) (BT.node (o40 P) (BT.node (o78 P) BT.nil BT.nil) (BT.node (o113 P) BT.nil BT.nil)) (BT.node (o59 P) (BT.node (o97 P) BT.nil BT.nil) BT.nil)))) (BT.node (boot_o_5 P) (BT.node (boot_o_9 P) (BT.node (o8 P) (BT.node (o27 P) (BT.node (o68 P) BT.nil BT.nil) (BT.node (o103 P) BT.nil BT.nil)) (BT.node (o46 P) (BT.node (o87 P) BT.nil BT.nil) (BT.node (o119 P) BT.nil BT.nil))) (BT.node (o16 P) (BT.node (o38 P) (BT.node (o76 P) BT.nil BT.nil) (BT.node (o111 P) BT.nil BT.nil)) (BT.node (o57 P) (BT.node (o95 P) BT.nil BT.nil) BT.nil))) (BT.node (o2 P) (BT.node (o12 P) (BT.node (o31 P) (BT.node (o72 P) BT.nil BT.nil) (BT.node (o107 P) BT.nil BT.nil)) (BT.node (o53 P) (BT.node (o91 P) BT.nil BT.nil) BT.nil)) (BT.node (o23 P) (BT.node (o42 P) (BT.node (o83 P) BT.nil BT.nil) (BT.node (o115 P) BT.nil BT.nil)) (BT.node (o61 P) (BT.node (o99 P) BT.nil BT.nil) BT.nil))))) (BT.node (boot_o_2 P) (BT.node (boot_o_4 P) (BT.node (boot_o_8 P) (BT.node (o7 P) (BT.node (o26 P) (BT.node (o67 P) BT.nil BT.nil) (BT.node (o102 P) BT.nil BT.nil)) (BT.node (o45 P) (BT.node (o86 P) BT.nil BT.nil) (BT.node (o118 P) BT.nil BT.nil))) (BT.node (o81 P) (BT.node (o37 P) (BT.node (o75 P) BT.nil BT.nil) (BT.node (o110 P) BT.nil BT.nil)) (BT.node (o56 P) (BT.node (o94 P) BT.nil BT.nil) BT.nil))) (BT.node (o80 P) (BT.node (o11 P) (BT.node (o30 P) (BT.node (o71 P) BT.nil BT.nil) (BT.node (o106 P) BT.nil BT.nil)) (BT.node (o52 P) (BT.node (o90 P) BT.nil BT.nil) BT.nil)) (BT.node (o22 P) (BT.node (o41 P) (BT.node (o82 P) BT.nil BT.nil) (BT.node (o114 P) BT.nil BT.nil)) (BT.node (o60 P) (BT.node (o98 P) BT.nil BT.nil) BT.nil)))) (BT.node (boot_o_6 P) (BT.node (boot_o_10 P) (BT.node (o9 P) (BT.node (o28 P) (BT.node (o69 P) BT.nil BT.nil) (BT.node (o104 P) BT.nil BT.nil)) (BT.node (o47 P) (BT.node (o88 P) BT.nil BT.nil) (BT.node (o120 P) BT.nil BT.nil))) (BT.node (o17 P) (BT.node (o39 P) (BT.node (o77 P) BT.nil BT.nil) (BT.node (o112 P) BT.nil BT.nil)) (BT.node (o58 P) (BT.node (o96 P) BT.nil BT.nil) BT.nil))) (BT.node (o3 P) (BT.node (o13 P) (BT.node (o32 P) (BT.node (o73 P) BT.nil BT.nil) (BT.node (o108 P) BT.nil BT.nil)) (BT.node (o54 P) (BT.node (o92 P) BT.nil BT.nil) BT.nil)) (BT.node (o24 P) (BT.node (o43 P) (BT.node (o84 P) BT.nil BT.nil) (BT.node (o116 P) BT.nil BT.nil)) (BT.node (o62 P) (BT.node (o100 P) BT.nil BT.nil) BT.nil))))))
noncomputable def S6 (w : World) (os : OsState) : SharedT := ⟨T6 w.params, 116, (PySem.Life.mk [] [] [] 0 [] [] false #[] [] 0 false false false (0 : Int) [(2000 : Int), (10 : Int), (10 : Int)] false 0 true [] [] 0 false), #[], (PySem.Drawn.mk 0 0 0 0), 332, os⟩
noncomputable def g6 : List Stmt := ((behindTheImports pp).drop 6).take 11
theorem c6 (w : World) (os : OsState) : segRunT treeTable pp w 11 ann0 1 393 (S5 w os) (piecesOf g6 env0 cod0 (PySem.Pos.mk 10 0 11 8) B0) = some (.next, S6 w os, cod0, (PySem.Pos.mk 48 0 48 8)) := seg_q (by kernel_rfl)
noncomputable def o122 (P : Params) : Obj := (Obj.mk (Value.type "dict") none (Data.dict #[(DictEntry.mk (kh P (SS "__name__")) (Value.str (SS "__name__") 165) (Value.str (SS "law_uf030029_04") 417)), (DictEntry.mk (kh P (SS "__doc__")) (Value.str (SS "__doc__") 166) Value.none), (DictEntry.mk (kh P (SS "__package__")) (Value.str (SS "__package__") 167) Value.none), (DictEntry.mk (kh P (SS "__loader__")) (Value.str (SS "__loader__") 168) (Value.builtin "__main__.__loader__#opaque")), (DictEntry.mk (kh P (SS "__spec__")) (Value.str (SS "__spec__") 169) Value.none), (DictEntry.mk (kh P (SS "__annotations__")) (Value.str (SS "__annotations__") 170) (Value.ref 6)), (DictEntry.mk (kh P (SS "__builtins__")) (Value.str (SS "__builtins__") 171) (Value.ref 4)), (DictEntry.mk (kh P (SS "__file__")) (Value.str (SS "__file__") 173) (Value.str (SS "/claim/cut.py") 172)), (DictEntry.mk (kh P (SS "__cached__")) (Value.str (SS "__cached__") 174) Value.none), (DictEntry.mk (kh P (SS "WebError")) (Value.str (SS "WebError") 206) (Value.ref 24)), (DictEntry.mk (kh P (SS "BadWeb")) (Value.str (SS "BadWeb") 222) (Value.ref 37)), (DictEntry.mk (kh P (SS "NoMove")) (Value.str (SS "NoMove") 238) (Value.ref 49)), (DictEntry.mk (kh P (SS "NotOver")) (Value.str (SS "NotOver") 254) (Value.ref 61)), (DictEntry.mk (kh P (SS "NoPlace")) (Value.str (SS "NoPlace") 270) (Value.ref 73)), (DictEntry.mk (kh P (SS "NoText")) (Value.str (SS "NoText") 286) (Value.ref 85)), (DictEntry.mk (kh P (SS "BOXES")) (Value.str (SS "BOXES") 290) (Value.int (4 : Int) 289)), (DictEntry.mk (kh P (SS "MOST_ROWS")) (Value.str (SS "MOST_ROWS") 292) (Value.int (3 : Int) 291)), (DictEntry.mk (kh P (SS "MOST_DEEDS")) (Value.str (SS "MOST_DEEDS") 294) (Value.int (8 : Int) 293)), (DictEntry.mk (kh P (SS "TOO_GREAT")) (Value.str (SS "TOO_GREAT") 298) (Value.int (1000000000000000000000000000000 : Int) 297)), (DictEntry.mk (kh P (SS "is_whole")) (Value.str (SS "is_whole") 305) (Value.ref 94)), (DictEntry.mk (kh P (SS "is_box")) (Value.str (SS "is_box") 312) (Value.ref 101)), (DictEntry.mk (kh P (SS "is_step")) (Value.str (SS "is_step") 319) (Value.ref 108)), (DictEntry.mk (kh P (SS "need_web")) (Value.str (SS "need_web") 329) (Value.ref 115)), (DictEntry.mk (kh P (SS "begun")) (Value.str (SS "begun") 339) (Value.ref 122)), (DictEntry.mk (kh P (SS "can")) (Value.str (SS "can") 350) (Value.ref 129)), (DictEntry.mk (kh P (SS "changed")) (Value.str (SS "changed") 359) (Value.ref 136)), (DictEntry.mk (kh P (SS "seen")) (Value.str (SS "seen") 370) (Value.ref 143)), (DictEntry.mk (kh P (SS "moved")) (Value.str (SS "moved") 386) (Value.ref 150)), (DictEntry.mk (kh P (SS "is_over")) (Value.str (SS "is_over") 396) (Value.ref 157)), (DictEntry.mk (kh P (SS "end_of")) (Value.str (SS "end_of") 404) (Value.ref 164)), (DictEntry.mk (kh P (SS "woven")) (Value.str (SS "woven") 416) (Value.ref 171)), (DictEntry.mk (kh P (SS "_law_cell_at")) (Value.str (SS "_law_cell_at") 426) (Value.ref 178)), (DictEntry.mk (kh P (SS "_law_number_by")) (Value.str (SS "_law_number_by") 433) (Value.ref 185)), (DictEntry.mk (kh P (SS "_law_step_by")) (Value.str (SS "_law_step_by") 441) (Value.ref 192)), (DictEntry.mk (kh P (SS "_law_web_by")) (Value.str (SS "_law_web_by") 447) (Value.ref 197))] 35) #[])
noncomputable def o123 (P : Params) : Obj := (Obj.mk Value.none none (Data.fields #[(Value.int (2 : Int) 0), (Value.int (0 : Int) 0), (Value.ref 20), (Value.int (4 : Int) 0), (Value.int (0 : Int) 0), (Value.ref 33), (Value.int (6 : Int) 0), (Value.int (0 : Int) 0), (Value.ref 45), (Value.int (8 : Int) 0), (Value.int (0 : Int) 0), (Value.ref 57), (Value.int (10 : Int) 0), (Value.int (0 : Int) 0), (Value.ref 69), (Value.int (12 : Int) 0), (Value.int (0 : Int) 0), (Value.ref 81), (Value.int (19 : Int) 0), (Value.int (0 : Int) 0), (Value.ref 93), (Value.int (21 : Int) 0), (Value.int (0 : Int) 0), (Value.ref 100), (Value.int (23 : Int) 0), (Value.int (0 : Int) 0), (Value.ref 107), (Value.int (33 : Int) 0), (Value.int (0 : Int) 0), (Value.ref 114), (Value.int (49 : Int) 0), (Value.int (0 : Int) 0), (Value.ref 121), (Value.int (53 : Int) 0), (Value.int (0 : Int) 0), (Value.ref 128), (Value.int (65 : Int) 0), (Value.int (0 : Int) 0), (Value.ref 135), (Value.int (67 : Int) 0), (Value.int (0 : Int) 0), (Value.ref 142), (Value.int (73 : Int) 0), (Value.int (0 : Int) 0), (Value.ref 149), (Value.int (90 : Int) 0), (Value.int (0 : Int) 0), (Value.ref 156), (Value.int (95 : Int) 0), (Value.int (0 : Int) 0), (Value.ref 163), (Value.int (100 : Int) 0), (Value.int (0 : Int) 0), (Value.ref 170), (Value.int (106 : Int) 0), (Value.int (0 : Int) 0), (Value.ref 177), (Value.int (110 : Int) 0), (Value.int (0 : Int) 0), (Value.ref 184), (Value.int (114 : Int) 0), (Value.int (0 : Int) 0), (Value.ref 191), (Value.int (120 : Int) 0), (Value.int (0 : Int) 0), (Value.ref 196)]) #[])
noncomputable def o124 (P : Params) : Obj := (Obj.mk (Value.type "tuple") none (Data.seq #[] 0) #[])
noncomputable def o125 (P : Params) : Obj := (Obj.mk Value.none none (Data.fields #[]) #[])
noncomputable def o126 (P : Params) : Obj := (Obj.mk (Value.type "tuple") none (Data.seq #[(Value.str (SS "web") 335), (Value.str (SS "many") 336)] 0) #[])
noncomputable def o127 (P : Params) : Obj := (Obj.mk (Value.type "tuple") none (Data.seq #[] 0) #[])
noncomputable def o128 (P : Params) : Obj := (Obj.mk Value.none none (Data.func (PySem.FuncData.mk (SS "begun") (SS "begun") (fdA 17) (PySem.FuncBody.stmts (fdB 17)) (fdS 17) 0 [] Value.none Value.none Value.none Value.none none Value.none Value.none 0)) #[])
noncomputable def o129 (P : Params) : Obj := (Obj.mk (Value.type "code") none (Data.fields #[(Value.str (SS "begun") 332), (Value.str (SS "begun") 333), (Value.str (SS "/claim/cut.py") 334), (Value.int (49 : Int) 0), (Value.int (1 : Int) 0), (Value.int (0 : Int) 0), (Value.int (0 : Int) 0), (Value.int (3 : Int) 0), (Value.ref 116), (Value.bool true), (Value.int (181 : Int) 0), (Value.ref 117), Value.none, (Value.ref 118), (Value.ref 119), (Value.ref 120), (Value.int (337 : Int) 0), (Value.int (49 : Int) 0), (Value.str (SS "/claim/cut.py") 338)]) #[])
noncomputable def o130 (P : Params) : Obj := (Obj.mk (Value.type "function") none (Data.func (PySem.FuncData.mk (SS "begun") (SS "begun") (fdA 17) (PySem.FuncBody.stmts (fdB 17)) (fdS 17) 3 [] Value.none Value.none Value.none (Value.str (SS "fencewright.states") 330) none (Value.ref 121) Value.none 0)) #[])
noncomputable def o131 (P : Params) : Obj := (Obj.mk (Value.type "tuple") none (Data.seq #[] 0) #[])
noncomputable def o132 (P : Params) : Obj := (Obj.mk Value.none none (Data.fields #[]) #[])
noncomputable def o133 (P : Params) : Obj := (Obj.mk (Value.type "tuple") none (Data.seq #[(Value.str (SS "web") 343), (Value.str (SS "state") 344), (Value.str (SS "move") 345), (Value.str (SS "hand") 346), (Value.str (SS "line") 347)] 0) #[])
noncomputable def o134 (P : Params) : Obj := (Obj.mk (Value.type "tuple") none (Data.seq #[] 0) #[])
noncomputable def o135 (P : Params) : Obj := (Obj.mk Value.none none (Data.func (PySem.FuncData.mk (SS "can") (SS "can") (fdA 18) (PySem.FuncBody.stmts (fdB 18)) (fdS 18) 0 [] Value.none Value.none Value.none Value.none none Value.none Value.none 0)) #[])
noncomputable def o136 (P : Params) : Obj := (Obj.mk (Value.type "code") none (Data.fields #[(Value.str (SS "can") 340), (Value.str (SS "can") 341), (Value.str (SS "/claim/cut.py") 342), (Value.int (53 : Int) 0), (Value.int (3 : Int) 0), (Value.int (0 : Int) 0), (Value.int (0 : Int) 0), (Value.int (3 : Int) 0), (Value.ref 123), (Value.bool true), (Value.int (181 : Int) 0), (Value.ref 124), Value.none, (Value.ref 125), (Value.ref 126), (Value.ref 127), (Value.int (348 : Int) 0), (Value.int (53 : Int) 0), (Value.str (SS "/claim/cut.py") 349)]) #[])
noncomputable def o137 (P : Params) : Obj := (Obj.mk (Value.type "function") none (Data.func (PySem.FuncData.mk (SS "can") (SS "can") (fdA 18) (PySem.FuncBody.stmts (fdB 18)) (fdS 18) 3 [] Value.none Value.none Value.none (Value.str (SS "fencewright.states") 330) none (Value.ref 128) Value.none 0)) #[])
noncomputable def o138 (P : Params) : Obj := (Obj.mk (Value.type "tuple") none (Data.seq #[] 0) #[])
noncomputable def o139 (P : Params) : Obj := (Obj.mk Value.none none (Data.fields #[]) #[])
noncomputable def o140 (P : Params) : Obj := (Obj.mk (Value.type "tuple") none (Data.seq #[(Value.str (SS "row") 354), (Value.str (SS "at") 355), (Value.str (SS "thing") 356)] 0) #[])
noncomputable def o141 (P : Params) : Obj := (Obj.mk (Value.type "tuple") none (Data.seq #[] 0) #[])
noncomputable def o142 (P : Params) : Obj := (Obj.mk Value.none none (Data.func (PySem.FuncData.mk (SS "changed") (SS "changed") (fdA 19) (PySem.FuncBody.stmts (fdB 19)) (fdS 19) 0 [] Value.none Value.none Value.none Value.none none Value.none Value.none 0)) #[])
noncomputable def o143 (P : Params) : Obj := (Obj.mk (Value.type "code") none (Data.fields #[(Value.str (SS "changed") 351), (Value.str (SS "changed") 352), (Value.str (SS "/claim/cut.py") 353), (Value.int (65 : Int) 0), (Value.int (3 : Int) 0), (Value.int (0 : Int) 0), (Value.int (0 : Int) 0), (Value.int (3 : Int) 0), (Value.ref 130), (Value.bool true), (Value.int (181 : Int) 0), (Value.ref 131), Value.none, (Value.ref 132), (Value.ref 133), (Value.ref 134), (Value.int (357 : Int) 0), (Value.int (65 : Int) 0), (Value.str (SS "/claim/cut.py") 358)]) #[])
noncomputable def o144 (P : Params) : Obj := (Obj.mk (Value.type "function") none (Data.func (PySem.FuncData.mk (SS "changed") (SS "changed") (fdA 19) (PySem.FuncBody.stmts (fdB 19)) (fdS 19) 3 [] Value.none Value.none Value.none (Value.str (SS "fencewright.states") 330) none (Value.ref 135) Value.none 0)) #[])
noncomputable def o145 (P : Params) : Obj := (Obj.mk (Value.type "tuple") none (Data.seq #[] 0) #[])
noncomputable def o146 (P : Params) : Obj := (Obj.mk Value.none none (Data.fields #[]) #[])
noncomputable def o147 (P : Params) : Obj := (Obj.mk (Value.type "tuple") none (Data.seq #[(Value.str (SS "state") 363), (Value.str (SS "hand") 364), (Value.str (SS "box") 365), (Value.str (SS "found") 366), (Value.str (SS "pair") 367)] 0) #[])
noncomputable def o148 (P : Params) : Obj := (Obj.mk (Value.type "tuple") none (Data.seq #[] 0) #[])
noncomputable def o149 (P : Params) : Obj := (Obj.mk Value.none none (Data.func (PySem.FuncData.mk (SS "seen") (SS "seen") (fdA 20) (PySem.FuncBody.stmts (fdB 20)) (fdS 20) 0 [] Value.none Value.none Value.none Value.none none Value.none Value.none 0)) #[])
noncomputable def o150 (P : Params) : Obj := (Obj.mk (Value.type "code") none (Data.fields #[(Value.str (SS "seen") 360), (Value.str (SS "seen") 361), (Value.str (SS "/claim/cut.py") 362), (Value.int (67 : Int) 0), (Value.int (3 : Int) 0), (Value.int (0 : Int) 0), (Value.int (0 : Int) 0), (Value.int (3 : Int) 0), (Value.ref 137), (Value.bool true), (Value.int (181 : Int) 0), (Value.ref 138), Value.none, (Value.ref 139), (Value.ref 140), (Value.ref 141), (Value.int (368 : Int) 0), (Value.int (67 : Int) 0), (Value.str (SS "/claim/cut.py") 369)]) #[])
noncomputable def o151 (P : Params) : Obj := (Obj.mk (Value.type "function") none (Data.func (PySem.FuncData.mk (SS "seen") (SS "seen") (fdA 20) (PySem.FuncBody.stmts (fdB 20)) (fdS 20) 3 [] Value.none Value.none Value.none (Value.str (SS "fencewright.states") 330) none (Value.ref 142) Value.none 0)) #[])
noncomputable def o152 (P : Params) : Obj := (Obj.mk (Value.type "tuple") none (Data.seq #[] 0) #[])
noncomputable def o153 (P : Params) : Obj := (Obj.mk Value.none none (Data.fields #[]) #[])
noncomputable def o154 (P : Params) : Obj := (Obj.mk (Value.type "tuple") none (Data.seq #[(Value.str (SS "web") 374), (Value.str (SS "state") 375), (Value.str (SS "move") 376), (Value.str (SS "hand") 377), (Value.str (SS "done") 378), (Value.str (SS "lines") 379), (Value.str (SS "boxes") 380), (Value.str (SS "got") 381), (Value.str (SS "pair") 382), (Value.str (SS "step") 383)] 0) #[])
noncomputable def o155 (P : Params) : Obj := (Obj.mk (Value.type "tuple") none (Data.seq #[] 0) #[])
noncomputable def o156 (P : Params) : Obj := (Obj.mk Value.none none (Data.func (PySem.FuncData.mk (SS "moved") (SS "moved") (fdA 21) (PySem.FuncBody.stmts (fdB 21)) (fdS 21) 0 [] Value.none Value.none Value.none Value.none none Value.none Value.none 0)) #[])
noncomputable def o157 (P : Params) : Obj := (Obj.mk (Value.type "code") none (Data.fields #[(Value.str (SS "moved") 371), (Value.str (SS "moved") 372), (Value.str (SS "/claim/cut.py") 373), (Value.int (73 : Int) 0), (Value.int (3 : Int) 0), (Value.int (0 : Int) 0), (Value.int (0 : Int) 0), (Value.int (3 : Int) 0), (Value.ref 144), (Value.bool true), (Value.int (181 : Int) 0), (Value.ref 145), Value.none, (Value.ref 146), (Value.ref 147), (Value.ref 148), (Value.int (384 : Int) 0), (Value.int (73 : Int) 0), (Value.str (SS "/claim/cut.py") 385)]) #[])
noncomputable def o158 (P : Params) : Obj := (Obj.mk (Value.type "function") none (Data.func (PySem.FuncData.mk (SS "moved") (SS "moved") (fdA 21) (PySem.FuncBody.stmts (fdB 21)) (fdS 21) 3 [] Value.none Value.none Value.none (Value.str (SS "fencewright.states") 330) none (Value.ref 149) Value.none 0)) #[])
noncomputable def o159 (P : Params) : Obj := (Obj.mk (Value.type "tuple") none (Data.seq #[] 0) #[])
noncomputable def o160 (P : Params) : Obj := (Obj.mk Value.none none (Data.fields #[]) #[])
noncomputable def o161 (P : Params) : Obj := (Obj.mk (Value.type "tuple") none (Data.seq #[(Value.str (SS "web") 390), (Value.str (SS "state") 391), (Value.str (SS "hand") 392), (Value.str (SS "row") 393)] 0) #[])
noncomputable def o162 (P : Params) : Obj := (Obj.mk (Value.type "tuple") none (Data.seq #[] 0) #[])
noncomputable def o163 (P : Params) : Obj := (Obj.mk Value.none none (Data.func (PySem.FuncData.mk (SS "is_over") (SS "is_over") (fdA 22) (PySem.FuncBody.stmts (fdB 22)) (fdS 22) 0 [] Value.none Value.none Value.none Value.none none Value.none Value.none 0)) #[])
noncomputable def o164 (P : Params) : Obj := (Obj.mk (Value.type "code") none (Data.fields #[(Value.str (SS "is_over") 387), (Value.str (SS "is_over") 388), (Value.str (SS "/claim/cut.py") 389), (Value.int (90 : Int) 0), (Value.int (2 : Int) 0), (Value.int (0 : Int) 0), (Value.int (0 : Int) 0), (Value.int (3 : Int) 0), (Value.ref 151), (Value.bool true), (Value.int (181 : Int) 0), (Value.ref 152), Value.none, (Value.ref 153), (Value.ref 154), (Value.ref 155), (Value.int (394 : Int) 0), (Value.int (90 : Int) 0), (Value.str (SS "/claim/cut.py") 395)]) #[])
noncomputable def o165 (P : Params) : Obj := (Obj.mk (Value.type "function") none (Data.func (PySem.FuncData.mk (SS "is_over") (SS "is_over") (fdA 22) (PySem.FuncBody.stmts (fdB 22)) (fdS 22) 3 [] Value.none Value.none Value.none (Value.str (SS "fencewright.states") 330) none (Value.ref 156) Value.none 0)) #[])
noncomputable def o166 (P : Params) : Obj := (Obj.mk (Value.type "tuple") none (Data.seq #[] 0) #[])
noncomputable def o167 (P : Params) : Obj := (Obj.mk Value.none none (Data.fields #[]) #[])
noncomputable def o168 (P : Params) : Obj := (Obj.mk (Value.type "tuple") none (Data.seq #[(Value.str (SS "web") 400), (Value.str (SS "state") 401)] 0) #[])
noncomputable def o169 (P : Params) : Obj := (Obj.mk (Value.type "tuple") none (Data.seq #[] 0) #[])
noncomputable def o170 (P : Params) : Obj := (Obj.mk Value.none none (Data.func (PySem.FuncData.mk (SS "end_of") (SS "end_of") (fdA 23) (PySem.FuncBody.stmts (fdB 23)) (fdS 23) 0 [] Value.none Value.none Value.none Value.none none Value.none Value.none 0)) #[])
noncomputable def o171 (P : Params) : Obj := (Obj.mk (Value.type "code") none (Data.fields #[(Value.str (SS "end_of") 397), (Value.str (SS "end_of") 398), (Value.str (SS "/claim/cut.py") 399), (Value.int (95 : Int) 0), (Value.int (2 : Int) 0), (Value.int (0 : Int) 0), (Value.int (0 : Int) 0), (Value.int (3 : Int) 0), (Value.ref 158), (Value.bool true), (Value.int (181 : Int) 0), (Value.ref 159), Value.none, (Value.ref 160), (Value.ref 161), (Value.ref 162), (Value.int (402 : Int) 0), (Value.int (95 : Int) 0), (Value.str (SS "/claim/cut.py") 403)]) #[])
noncomputable def o172 (P : Params) : Obj := (Obj.mk (Value.type "function") none (Data.func (PySem.FuncData.mk (SS "end_of") (SS "end_of") (fdA 23) (PySem.FuncBody.stmts (fdB 23)) (fdS 23) 3 [] Value.none Value.none Value.none (Value.str (SS "fencewright.states") 330) none (Value.ref 163) Value.none 0)) #[])
noncomputable def o173 (P : Params) : Obj := (Obj.mk (Value.type "tuple") none (Data.seq #[] 0) #[])
noncomputable def o174 (P : Params) : Obj := (Obj.mk Value.none none (Data.fields #[]) #[])
noncomputable def o175 (P : Params) : Obj := (Obj.mk (Value.type "tuple") none (Data.seq #[(Value.str (SS "web") 410), (Value.str (SS "weaving") 411), (Value.str (SS "state") 412), (Value.str (SS "move") 413)] 0) #[])
noncomputable def o176 (P : Params) : Obj := (Obj.mk (Value.type "tuple") none (Data.seq #[] 0) #[])
noncomputable def o177 (P : Params) : Obj := (Obj.mk Value.none none (Data.func (PySem.FuncData.mk (SS "woven") (SS "woven") (fdA 25) (PySem.FuncBody.stmts (fdB 25)) (fdS 25) 0 [] Value.none Value.none Value.none Value.none none Value.none Value.none 0)) #[])
noncomputable def o178 (P : Params) : Obj := (Obj.mk (Value.type "code") none (Data.fields #[(Value.str (SS "woven") 407), (Value.str (SS "woven") 408), (Value.str (SS "/claim/cut.py") 409), (Value.int (100 : Int) 0), (Value.int (2 : Int) 0), (Value.int (0 : Int) 0), (Value.int (0 : Int) 0), (Value.int (3 : Int) 0), (Value.ref 165), (Value.bool true), (Value.int (181 : Int) 0), (Value.ref 166), Value.none, (Value.ref 167), (Value.ref 168), (Value.ref 169), (Value.int (414 : Int) 0), (Value.int (100 : Int) 0), (Value.str (SS "/claim/cut.py") 415)]) #[])
noncomputable def o179 (P : Params) : Obj := (Obj.mk (Value.type "function") none (Data.func (PySem.FuncData.mk (SS "woven") (SS "woven") (fdA 25) (PySem.FuncBody.stmts (fdB 25)) (fdS 25) 3 [] Value.none Value.none Value.none (Value.str (SS "fencewright.ends") 405) none (Value.ref 170) Value.none 0)) #[])
noncomputable def o180 (P : Params) : Obj := (Obj.mk (Value.type "tuple") none (Data.seq #[] 0) #[])
noncomputable def o181 (P : Params) : Obj := (Obj.mk Value.none none (Data.fields #[]) #[])
noncomputable def o182 (P : Params) : Obj := (Obj.mk (Value.type "tuple") none (Data.seq #[(Value.str (SS "_law_script") 422), (Value.str (SS "_law_k") 423)] 0) #[])
noncomputable def o183 (P : Params) : Obj := (Obj.mk (Value.type "tuple") none (Data.seq #[] 0) #[])
noncomputable def o184 (P : Params) : Obj := (Obj.mk Value.none none (Data.func (PySem.FuncData.mk (SS "_law_cell_at") (SS "_law_cell_at") (fdA 27) (PySem.FuncBody.stmts (fdB 27)) (fdS 27) 0 [] Value.none Value.none Value.none Value.none none Value.none Value.none 0)) #[])
noncomputable def o185 (P : Params) : Obj := (Obj.mk (Value.type "code") none (Data.fields #[(Value.str (SS "_law_cell_at") 419), (Value.str (SS "_law_cell_at") 420), (Value.str (SS "/claim/cut.py") 421), (Value.int (106 : Int) 0), (Value.int (2 : Int) 0), (Value.int (0 : Int) 0), (Value.int (0 : Int) 0), (Value.int (3 : Int) 0), (Value.ref 172), (Value.bool true), (Value.int (181 : Int) 0), (Value.ref 173), Value.none, (Value.ref 174), (Value.ref 175), (Value.ref 176), (Value.int (424 : Int) 0), (Value.int (106 : Int) 0), (Value.str (SS "/claim/cut.py") 425)]) #[])
noncomputable def o186 (P : Params) : Obj := (Obj.mk (Value.type "function") none (Data.func (PySem.FuncData.mk (SS "_law_cell_at") (SS "_law_cell_at") (fdA 27) (PySem.FuncBody.stmts (fdB 27)) (fdS 27) 3 [] Value.none Value.none Value.none (Value.str (SS "law_uf030029_04") 417) none (Value.ref 177) Value.none 0)) #[])
noncomputable def o187 (P : Params) : Obj := (Obj.mk (Value.type "tuple") none (Data.seq #[] 0) #[])
noncomputable def o188 (P : Params) : Obj := (Obj.mk Value.none none (Data.fields #[]) #[])
noncomputable def o189 (P : Params) : Obj := (Obj.mk (Value.type "tuple") none (Data.seq #[(Value.str (SS "_law_cell") 430)] 0) #[])
noncomputable def o190 (P : Params) : Obj := (Obj.mk (Value.type "tuple") none (Data.seq #[] 0) #[])
noncomputable def o191 (P : Params) : Obj := (Obj.mk Value.none none (Data.func (PySem.FuncData.mk (SS "_law_number_by") (SS "_law_number_by") (fdA 28) (PySem.FuncBody.stmts (fdB 28)) (fdS 28) 0 [] Value.none Value.none Value.none Value.none none Value.none Value.none 0)) #[])
noncomputable def o192 (P : Params) : Obj := (Obj.mk (Value.type "code") none (Data.fields #[(Value.str (SS "_law_number_by") 427), (Value.str (SS "_law_number_by") 428), (Value.str (SS "/claim/cut.py") 429), (Value.int (110 : Int) 0), (Value.int (1 : Int) 0), (Value.int (0 : Int) 0), (Value.int (0 : Int) 0), (Value.int (3 : Int) 0), (Value.ref 179), (Value.bool true), (Value.int (181 : Int) 0), (Value.ref 180), Value.none, (Value.ref 181), (Value.ref 182), (Value.ref 183), (Value.int (431 : Int) 0), (Value.int (110 : Int) 0), (Value.str (SS "/claim/cut.py") 432)]) #[])
noncomputable def o193 (P : Params) : Obj := (Obj.mk (Value.type "function") none (Data.func (PySem.FuncData.mk (SS "_law_number_by") (SS "_law_number_by") (fdA 28) (PySem.FuncBody.stmts (fdB 28)) (fdS 28) 3 [] Value.none Value.none Value.none (Value.str (SS "law_uf030029_04") 417) none (Value.ref 184) Value.none 0)) #[])
noncomputable def o194 (P : Params) : Obj := (Obj.mk (Value.type "tuple") none (Data.seq #[] 0) #[])
noncomputable def o195 (P : Params) : Obj := (Obj.mk Value.none none (Data.fields #[]) #[])
noncomputable def o196 (P : Params) : Obj := (Obj.mk (Value.type "tuple") none (Data.seq #[(Value.str (SS "_law_cell") 437), (Value.str (SS "_law_boxes") 438)] 0) #[])
noncomputable def o197 (P : Params) : Obj := (Obj.mk (Value.type "tuple") none (Data.seq #[] 0) #[])
noncomputable def o198 (P : Params) : Obj := (Obj.mk Value.none none (Data.func (PySem.FuncData.mk (SS "_law_step_by") (SS "_law_step_by") (fdA 29) (PySem.FuncBody.stmts (fdB 29)) (fdS 29) 0 [] Value.none Value.none Value.none Value.none none Value.none Value.none 0)) #[])
noncomputable def o199 (P : Params) : Obj := (Obj.mk (Value.type "code") none (Data.fields #[(Value.str (SS "_law_step_by") 434), (Value.str (SS "_law_step_by") 435), (Value.str (SS "/claim/cut.py") 436), (Value.int (114 : Int) 0), (Value.int (2 : Int) 0), (Value.int (0 : Int) 0), (Value.int (0 : Int) 0), (Value.int (3 : Int) 0), (Value.ref 186), (Value.bool true), (Value.int (181 : Int) 0), (Value.ref 187), Value.none, (Value.ref 188), (Value.ref 189), (Value.ref 190), (Value.int (439 : Int) 0), (Value.int (114 : Int) 0), (Value.str (SS "/claim/cut.py") 440)]) #[])
noncomputable def o200 (P : Params) : Obj := (Obj.mk (Value.type "function") none (Data.func (PySem.FuncData.mk (SS "_law_step_by") (SS "_law_step_by") (fdA 29) (PySem.FuncBody.stmts (fdB 29)) (fdS 29) 3 [] Value.none Value.none Value.none (Value.str (SS "law_uf030029_04") 417) none (Value.ref 191) Value.none 0)) #[])
noncomputable def o201 (P : Params) : Obj := (Obj.mk (Value.type "tuple") none (Data.seq #[] 0) #[])
noncomputable def o202 (P : Params) : Obj := (Obj.mk Value.none none (Data.fields #[]) #[])
noncomputable def o203 (P : Params) : Obj := (Obj.mk Value.none none (Data.func (PySem.FuncData.mk (SS "_law_web_by") (SS "_law_web_by") (fdA 30) (PySem.FuncBody.stmts (fdB 30)) (fdS 30) 0 [] Value.none Value.none Value.none Value.none none Value.none Value.none 0)) #[])
noncomputable def o204 (P : Params) : Obj := (Obj.mk (Value.type "code") none (Data.fields #[(Value.str (SS "_law_web_by") 442), (Value.str (SS "_law_web_by") 443), (Value.str (SS "/claim/cut.py") 444), (Value.int (120 : Int) 0), (Value.int (1 : Int) 0), (Value.int (0 : Int) 0), (Value.int (0 : Int) 0), (Value.int (3 : Int) 0), (Value.ref 193), (Value.bool true), (Value.int (181 : Int) 0), (Value.ref 194), Value.none, Value.none, Value.none, (Value.ref 195), (Value.int (445 : Int) 0), (Value.int (120 : Int) 0), (Value.str (SS "/claim/cut.py") 446)]) #[])
noncomputable def o205 (P : Params) : Obj := (Obj.mk (Value.type "function") none (Data.func (PySem.FuncData.mk (SS "_law_web_by") (SS "_law_web_by") (fdA 30) (PySem.FuncBody.stmts (fdB 30)) (fdS 30) 3 [] Value.none Value.none Value.none (Value.str (SS "law_uf030029_04") 417) none (Value.ref 196) Value.none 0)) #[])
noncomputable def T7 (P : Params) : BT := (BT.node (boot_o_0 P) (BT.node (boot_o_1 P) (BT.node (o122 P) (BT.node (boot_o_7 P) (BT.node (o6 P) (BT.node (o25 P) (BT.node (o63 P) (BT.node (o135 P) BT.nil BT.nil) (BT.node (o199 P) BT.nil BT.nil)) (BT.node (o101 P) (BT.node (o167 P) BT.nil BT.nil) BT.nil)) (BT.node (o44 P) (BT.node (o85 P) (BT.node (o151 P) BT.nil BT.nil) BT.nil) (BT.node (o117 P) (BT.node (o183 P) BT.nil BT.nil) BT.nil))) (BT.node (o14 P) (BT.node (o33 P) (BT.node (o74 P) (BT.node (o143 P) BT.nil BT.nil) BT.nil) (BT.node (o109 P) (BT.node (o175 P) BT.nil BT.nil) BT.nil)) (BT.node (o55 P) (BT.node (o93 P) (BT.node (o159 P) BT.nil BT.nil) BT.nil) (BT.node (o127 P) (BT.node (o191 P) BT.nil BT.nil) BT.nil)))) (BT.node (o0 P) (BT.node (o10 P) (BT.node (o29 P) (BT.node (o70 P) (BT.node (o139 P) BT.nil BT.nil) (BT.node (o203 P) BT.nil BT.nil)) (BT.node (o105 P) (BT.node (o171 P) BT.nil BT.nil) BT.nil)) (BT.node (o48 P) (BT.node (o89 P) (BT.node (o155 P) BT.nil BT.nil) BT.nil) (BT.node (o121 P) (BT.node (o187 P) BT.nil BT.nil) BT.nil))) (BT.node (o18 P) (BT.node (o40 P) (BT.node (o78 P) (BT.node (o147 P) BT.nil BT.nil) BT.nil) (BT.node (o113 P) (BT.node (o179 P) BT.nil BT.nil) BT.nil)) (BT.node (o59 P) (BT.node (o97 P) (BT.node (o163 P) BT.nil BT.nil) BT.nil) (BT.node (o131 P) (BT.node (o195 P) BT.nil BT.nil) BT.nil))))) (BT.node (boot_o_5 P) (BT.node (boot_o_9 P) (BT.node (o8 P) (BT.node (o27 P) (BT.node (o68 P) (BT.node (o137 P) BT.nil BT.nil) (BT.node (o201 P) BT.nil BT.nil)) (BT.node (o103 P) (BT.node (o169 P) BT.nil BT.nil) BT.nil)) (BT.node (o46 P) (BT.node (o87 P) (BT.node (o153 P) BT.nil BT.nil) BT.nil) (BT.node (o119 P) (BT.node (o185 P) BT.nil BT.nil) BT.nil))) (BT.node (o16 P) (BT.node (o38 P) (BT.node (o76 P) (BT.node (o145 P) BT.nil BT.nil) BT.nil) (BT.node (o111 P) (BT.node (o177 P) BT.nil BT.nil) BT.nil)) (BT.node (o57 P) (BT.node (o95 P) (BT.node (o161 P) BT.nil BT.nil) BT.nil) (BT.node (o129 P) (BT.node (o193 P) BT.nil BT.nil) BT.nil)))) (BT.node (o2 P) (BT.node (o12 P) (BT.node (o31 P) (BT.node (o72 P) (BT.node (o141 P) BT.nil BT.nil) (BT.node (o205 P) BT.nil BT.nil)) (BT.node (o107 P) (BT.node (o173 P) BT.nil BT.nil) BT.nil)) (BT.node (o53 P) (BT.node (o91 P) (BT.node (o157 P) BT.nil BT.nil) BT.nil) (BT.node (o125 P) (BT.node (o189 P) BT.nil BT.nil) BT.nil))) (BT.node (o23 P) (BT.node (o42 P) (BT.node (o83 P) (BT.node (o149 P) BT.nil BT.nil) BT.nil) (BT.node (o115 P) (BT.node (o181 P) BT.nil BT.nil) BT.nil)) (BT.node (o61 P) (BT.node (o99 P) (BT.node (o165 P) BT.nil BT.nil) BT.nil) (BT.node (o133 P) (BT.node (o197 P) BT.nil BT.nil) BT.nil)))))) (BT.node (boot_o_2 P) (BT.node (boot_o_4 P) (BT.node (boot_o_8 P) (BT.node (o7 P) (BT.node (o26 P) (BT.node (o67 P) (BT.node (o136 P) BT.nil BT.nil) (BT.node (o200 P) BT.nil BT.nil)) (BT.node (o102 P) (BT.node (o168 P) BT.nil BT.nil) BT.nil)) (BT.node (o45 P) (BT.node (o86 P) (BT.node (o152 P) BT.nil BT.nil) BT.nil) (BT.node (o118 P) (BT.node (o184 P) BT.nil BT.nil) BT.nil))) (BT.node (o81 P) (BT.node (o37 P) (BT.node (o75 P) (BT.node (o144 P) BT.nil BT.nil) BT.nil) (BT.node (o110 P) (BT.node (o176 P) BT.nil BT.nil) BT.nil)) (BT.node (o56 P) (BT.node (o94 P) (BT.node (o160 P) BT.nil BT.nil) BT.nil) (BT.node (o128 P) (BT.node (o192 P) BT.nil BT.nil) BT.nil)))) (BT.node (o123 P) (BT.node (o11 P) (BT.node (o30 P) (BT.node (o71 P) (BT.node (o140 P) BT.nil BT.nil) (BT.node (o204 P) BT.nil BT.nil)) (BT.node (o106 P) (BT.node (o172 P) BT.nil BT.nil) BT.nil)) (BT.node (o52 P) (BT.node (o90 P) (BT.node (o156 P) BT.nil BT.nil) BT.nil) (BT.node (o124 P) (BT.node (o188 P) BT.nil BT.nil) BT.nil))) (BT.node (o22 P) (BT.node (o41 P) (BT.node (o82 P) (BT.node (o148 P) BT.nil BT.nil) BT.nil) (BT.node (o114 P) (BT.node (o180 P) BT.nil BT.nil) BT.nil)) (BT.node (o60 P) (BT.node (o98 P) (BT.node (o164 P) BT.nil BT.nil) BT.nil) (BT.node (o132 P) (BT.node (o196 P) BT.nil BT.nil) BT.nil))))) (BT.node (boot_o_6 P) (BT.node (boot_o_10 P) (BT.node (o9 P) (BT.node (o28 P) (BT.node (o69 P) (BT.node (o138 P) BT.nil BT.nil) (BT.node (o202 P) BT.nil BT.nil)) (BT.node (o104 P) (BT.node (o170 P) BT.nil BT.nil) BT.nil)) (BT.node (o47 P) (BT.node (o88 P) (BT.node (o154 P) BT.nil BT.nil) BT.nil) (BT.node (o120 P) (BT.node (o186 P) BT.nil BT.nil) BT.nil))) (BT.node (o17 P) (BT.node (o39 P) (BT.node (o77 P) (BT.node (o146 P) BT.nil BT.nil) BT.nil) (BT.node (o112 P) (BT.node (o178 P) BT.nil BT.nil) BT.nil)) (BT.node (o58 P) (BT.node (o96 P) (BT.node (o162 P) BT.nil BT.nil) BT.nil) (BT.node (o130 P) (BT.node (o194 P) BT.nil BT.nil) BT.nil)))) (BT.node (o3 P) (BT.node (o13 P) (BT.node (o32 P) (BT.node (o73 P) (BT.node (o142 P) BT.nil BT.nil) BT.nil) (BT.node (o108 P) (BT.node (o174 P) BT.nil BT.nil) BT.nil)) (BT.node (o54 P) (BT.node (o92 P) (BT.node (o158 P) BT.nil BT.nil) BT.nil) (BT.node (o126 P) (BT.node (o190 P) BT.nil BT.nil) BT.nil))) (BT.node (o24 P) (BT.node (o43 P) (BT.node (o84 P) (BT.node (o150 P) BT.nil BT.nil) BT.nil) (BT.node (o116 P) (BT.node (o182 P) BT.nil BT.nil) BT.nil)) (BT.node (o62 P) (BT.node (o100 P) (BT.node (o166 P) BT.nil BT.nil) BT.nil) (BT.node (o134 P) (BT.node (o198 P) BT.nil BT.nil) BT.nil)))))))
noncomputable def S7 (w : World) (os : OsState) : SharedT := ⟨T7 w.params, 198, (PySem.Life.mk [] [] [] 0 [] [] false #[] [] 0 false false false (0 : Int) [(2000 : Int), (10 : Int), (10 : Int)] false 0 true [] [] 0 false), #[], (PySem.Drawn.mk 0 0 0 0), 448, os⟩
noncomputable def g7 : List Stmt := ((behindTheImports pp).drop 17).take 14
theorem c7 (w : World) (os : OsState) : segRunT treeTable pp w 11 ann0 1 393 (S6 w os) (piecesOf g7 env0 cod0 (PySem.Pos.mk 48 0 48 8) B0) = some (.next, S7 w os, cod0, (PySem.Pos.mk 120 0 134 19)) := seg_q (by kernel_rfl)
noncomputable def o206 (P : Params) : Obj := (Obj.mk (Value.type "dict") none (Data.dict #[(DictEntry.mk (kh P (SS "__name__")) (Value.str (SS "__name__") 165) (Value.str (SS "law_uf030029_04") 417)), (DictEntry.mk (kh P (SS "__doc__")) (Value.str (SS "__doc__") 166) Value.none), (DictEntry.mk (kh P (SS "__package__")) (Value.str (SS "__package__") 167) Value.none), (DictEntry.mk (kh P (SS "__loader__")) (Value.str (SS "__loader__") 168) (Value.builtin "__main__.__loader__#opaque")), (DictEntry.mk (kh P (SS "__spec__")) (Value.str (SS "__spec__") 169) Value.none), (DictEntry.mk (kh P (SS "__annotations__")) (Value.str (SS "__annotations__") 170) (Value.ref 6)), (DictEntry.mk (kh P (SS "__builtins__")) (Value.str (SS "__builtins__") 171) (Value.ref 4)), (DictEntry.mk (kh P (SS "__file__")) (Value.str (SS "__file__") 173) (Value.str (SS "/claim/cut.py") 172)), (DictEntry.mk (kh P (SS "__cached__")) (Value.str (SS "__cached__") 174) Value.none), (DictEntry.mk (kh P (SS "WebError")) (Value.str (SS "WebError") 206) (Value.ref 24)), (DictEntry.mk (kh P (SS "BadWeb")) (Value.str (SS "BadWeb") 222) (Value.ref 37)), (DictEntry.mk (kh P (SS "NoMove")) (Value.str (SS "NoMove") 238) (Value.ref 49)), (DictEntry.mk (kh P (SS "NotOver")) (Value.str (SS "NotOver") 254) (Value.ref 61)), (DictEntry.mk (kh P (SS "NoPlace")) (Value.str (SS "NoPlace") 270) (Value.ref 73)), (DictEntry.mk (kh P (SS "NoText")) (Value.str (SS "NoText") 286) (Value.ref 85)), (DictEntry.mk (kh P (SS "BOXES")) (Value.str (SS "BOXES") 290) (Value.int (4 : Int) 289)), (DictEntry.mk (kh P (SS "MOST_ROWS")) (Value.str (SS "MOST_ROWS") 292) (Value.int (3 : Int) 291)), (DictEntry.mk (kh P (SS "MOST_DEEDS")) (Value.str (SS "MOST_DEEDS") 294) (Value.int (8 : Int) 293)), (DictEntry.mk (kh P (SS "TOO_GREAT")) (Value.str (SS "TOO_GREAT") 298) (Value.int (1000000000000000000000000000000 : Int) 297)), (DictEntry.mk (kh P (SS "is_whole")) (Value.str (SS "is_whole") 305) (Value.ref 94)), (DictEntry.mk (kh P (SS "is_box")) (Value.str (SS "is_box") 312) (Value.ref 101)), (DictEntry.mk (kh P (SS "is_step")) (Value.str (SS "is_step") 319) (Value.ref 108)), (DictEntry.mk (kh P (SS "need_web")) (Value.str (SS "need_web") 329) (Value.ref 115)), (DictEntry.mk (kh P (SS "begun")) (Value.str (SS "begun") 339) (Value.ref 122)), (DictEntry.mk (kh P (SS "can")) (Value.str (SS "can") 350) (Value.ref 129)), (DictEntry.mk (kh P (SS "changed")) (Value.str (SS "changed") 359) (Value.ref 136)), (DictEntry.mk (kh P (SS "seen")) (Value.str (SS "seen") 370) (Value.ref 143)), (DictEntry.mk (kh P (SS "moved")) (Value.str (SS "moved") 386) (Value.ref 150)), (DictEntry.mk (kh P (SS "is_over")) (Value.str (SS "is_over") 396) (Value.ref 157)), (DictEntry.mk (kh P (SS "end_of")) (Value.str (SS "end_of") 404) (Value.ref 164)), (DictEntry.mk (kh P (SS "woven")) (Value.str (SS "woven") 416) (Value.ref 171)), (DictEntry.mk (kh P (SS "_law_cell_at")) (Value.str (SS "_law_cell_at") 426) (Value.ref 178)), (DictEntry.mk (kh P (SS "_law_number_by")) (Value.str (SS "_law_number_by") 433) (Value.ref 185)), (DictEntry.mk (kh P (SS "_law_step_by")) (Value.str (SS "_law_step_by") 441) (Value.ref 192)), (DictEntry.mk (kh P (SS "_law_web_by")) (Value.str (SS "_law_web_by") 447) (Value.ref 197)), (DictEntry.mk (kh P (SS "_law_begun")) (Value.str (SS "_law_begun") 453) (Value.ref 202)), (DictEntry.mk (kh P (SS "_law_can")) (Value.str (SS "_law_can") 463) (Value.ref 209)), (DictEntry.mk (kh P (SS "_law_do")) (Value.str (SS "_law_do") 469) (Value.ref 214)), (DictEntry.mk (kh P (SS "_law_moves")) (Value.str (SS "_law_moves") 475) (Value.ref 219)), (DictEntry.mk (kh P (SS "_law_end")) (Value.str (SS "_law_end") 481) (Value.ref 224)), (DictEntry.mk (kh P (SS "_law_word")) (Value.str (SS "_law_word") 492) (Value.ref 231)), (DictEntry.mk (kh P (SS "_law_over_good")) (Value.str (SS "_law_over_good") 504) (Value.ref 238)), (DictEntry.mk (kh P (SS "_law_spoilt_good")) (Value.str (SS "_law_spoilt_good") 521) (Value.ref 245)), (DictEntry.mk (kh P (SS "law")) (Value.str (SS "law") 527) (Value.ref 250))] 44) #[])
noncomputable def o207 (P : Params) : Obj := (Obj.mk Value.none none (Data.fields #[(Value.int (2 : Int) 0), (Value.int (0 : Int) 0), (Value.ref 20), (Value.int (4 : Int) 0), (Value.int (0 : Int) 0), (Value.ref 33), (Value.int (6 : Int) 0), (Value.int (0 : Int) 0), (Value.ref 45), (Value.int (8 : Int) 0), (Value.int (0 : Int) 0), (Value.ref 57), (Value.int (10 : Int) 0), (Value.int (0 : Int) 0), (Value.ref 69), (Value.int (12 : Int) 0), (Value.int (0 : Int) 0), (Value.ref 81), (Value.int (19 : Int) 0), (Value.int (0 : Int) 0), (Value.ref 93), (Value.int (21 : Int) 0), (Value.int (0 : Int) 0), (Value.ref 100), (Value.int (23 : Int) 0), (Value.int (0 : Int) 0), (Value.ref 107), (Value.int (33 : Int) 0), (Value.int (0 : Int) 0), (Value.ref 114), (Value.int (49 : Int) 0), (Value.int (0 : Int) 0), (Value.ref 121), (Value.int (53 : Int) 0), (Value.int (0 : Int) 0), (Value.ref 128), (Value.int (65 : Int) 0), (Value.int (0 : Int) 0), (Value.ref 135), (Value.int (67 : Int) 0), (Value.int (0 : Int) 0), (Value.ref 142), (Value.int (73 : Int) 0), (Value.int (0 : Int) 0), (Value.ref 149), (Value.int (90 : Int) 0), (Value.int (0 : Int) 0), (Value.ref 156), (Value.int (95 : Int) 0), (Value.int (0 : Int) 0), (Value.ref 163), (Value.int (100 : Int) 0), (Value.int (0 : Int) 0), (Value.ref 170), (Value.int (106 : Int) 0), (Value.int (0 : Int) 0), (Value.ref 177), (Value.int (110 : Int) 0), (Value.int (0 : Int) 0), (Value.ref 184), (Value.int (114 : Int) 0), (Value.int (0 : Int) 0), (Value.ref 191), (Value.int (120 : Int) 0), (Value.int (0 : Int) 0), (Value.ref 196), (Value.int (135 : Int) 0), (Value.int (0 : Int) 0), (Value.ref 201), (Value.int (137 : Int) 0), (Value.int (0 : Int) 0), (Value.ref 208), (Value.int (143 : Int) 0), (Value.int (0 : Int) 0), (Value.ref 213), (Value.int (155 : Int) 0), (Value.int (0 : Int) 0), (Value.ref 218), (Value.int (160 : Int) 0), (Value.int (0 : Int) 0), (Value.ref 223), (Value.int (162 : Int) 0), (Value.int (0 : Int) 0), (Value.ref 230), (Value.int (170 : Int) 0), (Value.int (0 : Int) 0), (Value.ref 237), (Value.int (180 : Int) 0), (Value.int (0 : Int) 0), (Value.ref 244), (Value.int (196 : Int) 0), (Value.int (0 : Int) 0), (Value.ref 249)]) #[])
noncomputable def o208 (P : Params) : Obj := (Obj.mk (Value.type "tuple") none (Data.seq #[] 0) #[])
noncomputable def o209 (P : Params) : Obj := (Obj.mk Value.none none (Data.fields #[]) #[])
noncomputable def o210 (P : Params) : Obj := (Obj.mk Value.none none (Data.func (PySem.FuncData.mk (SS "_law_begun") (SS "_law_begun") (fdA 31) (PySem.FuncBody.stmts (fdB 31)) (fdS 31) 0 [] Value.none Value.none Value.none Value.none none Value.none Value.none 0)) #[])
noncomputable def o211 (P : Params) : Obj := (Obj.mk (Value.type "code") none (Data.fields #[(Value.str (SS "_law_begun") 448), (Value.str (SS "_law_begun") 449), (Value.str (SS "/claim/cut.py") 450), (Value.int (135 : Int) 0), (Value.int (1 : Int) 0), (Value.int (0 : Int) 0), (Value.int (0 : Int) 0), (Value.int (3 : Int) 0), (Value.ref 198), (Value.bool true), (Value.int (181 : Int) 0), (Value.ref 199), Value.none, Value.none, Value.none, (Value.ref 200), (Value.int (451 : Int) 0), (Value.int (135 : Int) 0), (Value.str (SS "/claim/cut.py") 452)]) #[])
noncomputable def o212 (P : Params) : Obj := (Obj.mk (Value.type "function") none (Data.func (PySem.FuncData.mk (SS "_law_begun") (SS "_law_begun") (fdA 31) (PySem.FuncBody.stmts (fdB 31)) (fdS 31) 3 [] Value.none Value.none Value.none (Value.str (SS "law_uf030029_04") 417) none (Value.ref 201) Value.none 0)) #[])
noncomputable def o213 (P : Params) : Obj := (Obj.mk (Value.type "tuple") none (Data.seq #[] 0) #[])
noncomputable def o214 (P : Params) : Obj := (Obj.mk Value.none none (Data.fields #[]) #[])
noncomputable def o215 (P : Params) : Obj := (Obj.mk (Value.type "tuple") none (Data.seq #[(Value.str (SS "_law_web") 457), (Value.str (SS "_law_own") 458), (Value.str (SS "_law_hand") 459), (Value.str (SS "_law_kind") 460)] 0) #[])
noncomputable def o216 (P : Params) : Obj := (Obj.mk (Value.type "tuple") none (Data.seq #[] 0) #[])
noncomputable def o217 (P : Params) : Obj := (Obj.mk Value.none none (Data.func (PySem.FuncData.mk (SS "_law_can") (SS "_law_can") (fdA 32) (PySem.FuncBody.stmts (fdB 32)) (fdS 32) 0 [] Value.none Value.none Value.none Value.none none Value.none Value.none 0)) #[])
noncomputable def o218 (P : Params) : Obj := (Obj.mk (Value.type "code") none (Data.fields #[(Value.str (SS "_law_can") 454), (Value.str (SS "_law_can") 455), (Value.str (SS "/claim/cut.py") 456), (Value.int (137 : Int) 0), (Value.int (4 : Int) 0), (Value.int (0 : Int) 0), (Value.int (0 : Int) 0), (Value.int (3 : Int) 0), (Value.ref 203), (Value.bool true), (Value.int (181 : Int) 0), (Value.ref 204), Value.none, (Value.ref 205), (Value.ref 206), (Value.ref 207), (Value.int (461 : Int) 0), (Value.int (137 : Int) 0), (Value.str (SS "/claim/cut.py") 462)]) #[])
noncomputable def o219 (P : Params) : Obj := (Obj.mk (Value.type "function") none (Data.func (PySem.FuncData.mk (SS "_law_can") (SS "_law_can") (fdA 32) (PySem.FuncBody.stmts (fdB 32)) (fdS 32) 3 [] Value.none Value.none Value.none (Value.str (SS "law_uf030029_04") 417) none (Value.ref 208) Value.none 0)) #[])
noncomputable def o220 (P : Params) : Obj := (Obj.mk (Value.type "tuple") none (Data.seq #[] 0) #[])
noncomputable def o221 (P : Params) : Obj := (Obj.mk Value.none none (Data.fields #[]) #[])
noncomputable def o222 (P : Params) : Obj := (Obj.mk Value.none none (Data.func (PySem.FuncData.mk (SS "_law_do") (SS "_law_do") (fdA 33) (PySem.FuncBody.stmts (fdB 33)) (fdS 33) 0 [] Value.none Value.none Value.none Value.none none Value.none Value.none 0)) #[])
noncomputable def o223 (P : Params) : Obj := (Obj.mk (Value.type "code") none (Data.fields #[(Value.str (SS "_law_do") 464), (Value.str (SS "_law_do") 465), (Value.str (SS "/claim/cut.py") 466), (Value.int (143 : Int) 0), (Value.int (4 : Int) 0), (Value.int (0 : Int) 0), (Value.int (0 : Int) 0), (Value.int (3 : Int) 0), (Value.ref 210), (Value.bool true), (Value.int (181 : Int) 0), (Value.ref 211), Value.none, Value.none, Value.none, (Value.ref 212), (Value.int (467 : Int) 0), (Value.int (143 : Int) 0), (Value.str (SS "/claim/cut.py") 468)]) #[])
noncomputable def o224 (P : Params) : Obj := (Obj.mk (Value.type "function") none (Data.func (PySem.FuncData.mk (SS "_law_do") (SS "_law_do") (fdA 33) (PySem.FuncBody.stmts (fdB 33)) (fdS 33) 3 [] Value.none Value.none Value.none (Value.str (SS "law_uf030029_04") 417) none (Value.ref 213) Value.none 0)) #[])
noncomputable def o225 (P : Params) : Obj := (Obj.mk (Value.type "tuple") none (Data.seq #[] 0) #[])
noncomputable def o226 (P : Params) : Obj := (Obj.mk Value.none none (Data.fields #[]) #[])
noncomputable def o227 (P : Params) : Obj := (Obj.mk Value.none none (Data.func (PySem.FuncData.mk (SS "_law_moves") (SS "_law_moves") (fdA 34) (PySem.FuncBody.stmts (fdB 34)) (fdS 34) 0 [] Value.none Value.none Value.none Value.none none Value.none Value.none 0)) #[])
noncomputable def o228 (P : Params) : Obj := (Obj.mk (Value.type "code") none (Data.fields #[(Value.str (SS "_law_moves") 470), (Value.str (SS "_law_moves") 471), (Value.str (SS "/claim/cut.py") 472), (Value.int (155 : Int) 0), (Value.int (2 : Int) 0), (Value.int (0 : Int) 0), (Value.int (0 : Int) 0), (Value.int (3 : Int) 0), (Value.ref 215), (Value.bool true), (Value.int (181 : Int) 0), (Value.ref 216), Value.none, Value.none, Value.none, (Value.ref 217), (Value.int (473 : Int) 0), (Value.int (155 : Int) 0), (Value.str (SS "/claim/cut.py") 474)]) #[])
noncomputable def o229 (P : Params) : Obj := (Obj.mk (Value.type "function") none (Data.func (PySem.FuncData.mk (SS "_law_moves") (SS "_law_moves") (fdA 34) (PySem.FuncBody.stmts (fdB 34)) (fdS 34) 3 [] Value.none Value.none Value.none (Value.str (SS "law_uf030029_04") 417) none (Value.ref 218) Value.none 0)) #[])
noncomputable def o230 (P : Params) : Obj := (Obj.mk (Value.type "tuple") none (Data.seq #[] 0) #[])
noncomputable def o231 (P : Params) : Obj := (Obj.mk Value.none none (Data.fields #[]) #[])
noncomputable def o232 (P : Params) : Obj := (Obj.mk Value.none none (Data.func (PySem.FuncData.mk (SS "_law_end") (SS "_law_end") (fdA 35) (PySem.FuncBody.stmts (fdB 35)) (fdS 35) 0 [] Value.none Value.none Value.none Value.none none Value.none Value.none 0)) #[])
noncomputable def o233 (P : Params) : Obj := (Obj.mk (Value.type "code") none (Data.fields #[(Value.str (SS "_law_end") 476), (Value.str (SS "_law_end") 477), (Value.str (SS "/claim/cut.py") 478), (Value.int (160 : Int) 0), (Value.int (1 : Int) 0), (Value.int (0 : Int) 0), (Value.int (0 : Int) 0), (Value.int (3 : Int) 0), (Value.ref 220), (Value.bool true), (Value.int (181 : Int) 0), (Value.ref 221), Value.none, Value.none, Value.none, (Value.ref 222), (Value.int (479 : Int) 0), (Value.int (160 : Int) 0), (Value.str (SS "/claim/cut.py") 480)]) #[])
noncomputable def o234 (P : Params) : Obj := (Obj.mk (Value.type "function") none (Data.func (PySem.FuncData.mk (SS "_law_end") (SS "_law_end") (fdA 35) (PySem.FuncBody.stmts (fdB 35)) (fdS 35) 3 [] Value.none Value.none Value.none (Value.str (SS "law_uf030029_04") 417) none (Value.ref 223) Value.none 0)) #[])
noncomputable def o235 (P : Params) : Obj := (Obj.mk (Value.type "tuple") none (Data.seq #[] 0) #[])
noncomputable def o236 (P : Params) : Obj := (Obj.mk Value.none none (Data.fields #[]) #[])
noncomputable def o237 (P : Params) : Obj := (Obj.mk (Value.type "tuple") none (Data.seq #[(Value.str (SS "_law_web") 485), (Value.str (SS "_law_weaving") 486), (Value.str (SS "error") 487), (Value.str (SS "_law_other") 488), (Value.str (SS "_law_found") 489)] 0) #[])
noncomputable def o238 (P : Params) : Obj := (Obj.mk (Value.type "tuple") none (Data.seq #[] 0) #[])
noncomputable def o239 (P : Params) : Obj := (Obj.mk Value.none none (Data.func (PySem.FuncData.mk (SS "_law_word") (SS "_law_word") (fdA 36) (PySem.FuncBody.stmts (fdB 36)) (fdS 36) 0 [] Value.none Value.none Value.none Value.none none Value.none Value.none 0)) #[])
noncomputable def o240 (P : Params) : Obj := (Obj.mk (Value.type "code") none (Data.fields #[(Value.str (SS "_law_word") 482), (Value.str (SS "_law_word") 483), (Value.str (SS "/claim/cut.py") 484), (Value.int (162 : Int) 0), (Value.int (2 : Int) 0), (Value.int (0 : Int) 0), (Value.int (0 : Int) 0), (Value.int (3 : Int) 0), (Value.ref 225), (Value.bool true), (Value.int (181 : Int) 0), (Value.ref 226), Value.none, (Value.ref 227), (Value.ref 228), (Value.ref 229), (Value.int (490 : Int) 0), (Value.int (162 : Int) 0), (Value.str (SS "/claim/cut.py") 491)]) #[])
noncomputable def o241 (P : Params) : Obj := (Obj.mk (Value.type "function") none (Data.func (PySem.FuncData.mk (SS "_law_word") (SS "_law_word") (fdA 36) (PySem.FuncBody.stmts (fdB 36)) (fdS 36) 3 [] Value.none Value.none Value.none (Value.str (SS "law_uf030029_04") 417) none (Value.ref 230) Value.none 0)) #[])
noncomputable def o242 (P : Params) : Obj := (Obj.mk (Value.type "tuple") none (Data.seq #[] 0) #[])
noncomputable def o243 (P : Params) : Obj := (Obj.mk Value.none none (Data.fields #[]) #[])
noncomputable def o244 (P : Params) : Obj := (Obj.mk (Value.type "tuple") none (Data.seq #[(Value.str (SS "_law_web") 496), (Value.str (SS "_law_state") 497), (Value.str (SS "_law_own") 498), (Value.str (SS "_law_due") 499), (Value.str (SS "_law_found") 500), (Value.str (SS "_law_end_here") 501)] 0) #[])
noncomputable def o245 (P : Params) : Obj := (Obj.mk (Value.type "tuple") none (Data.seq #[] 0) #[])
noncomputable def o246 (P : Params) : Obj := (Obj.mk Value.none none (Data.func (PySem.FuncData.mk (SS "_law_over_good") (SS "_law_over_good") (fdA 37) (PySem.FuncBody.stmts (fdB 37)) (fdS 37) 0 [] Value.none Value.none Value.none Value.none none Value.none Value.none 0)) #[])
noncomputable def o247 (P : Params) : Obj := (Obj.mk (Value.type "code") none (Data.fields #[(Value.str (SS "_law_over_good") 493), (Value.str (SS "_law_over_good") 494), (Value.str (SS "/claim/cut.py") 495), (Value.int (170 : Int) 0), (Value.int (3 : Int) 0), (Value.int (0 : Int) 0), (Value.int (0 : Int) 0), (Value.int (3 : Int) 0), (Value.ref 232), (Value.bool true), (Value.int (181 : Int) 0), (Value.ref 233), Value.none, (Value.ref 234), (Value.ref 235), (Value.ref 236), (Value.int (502 : Int) 0), (Value.int (170 : Int) 0), (Value.str (SS "/claim/cut.py") 503)]) #[])
noncomputable def o248 (P : Params) : Obj := (Obj.mk (Value.type "function") none (Data.func (PySem.FuncData.mk (SS "_law_over_good") (SS "_law_over_good") (fdA 37) (PySem.FuncBody.stmts (fdB 37)) (fdS 37) 3 [] Value.none Value.none Value.none (Value.str (SS "law_uf030029_04") 417) none (Value.ref 237) Value.none 0)) #[])
noncomputable def o249 (P : Params) : Obj := (Obj.mk (Value.type "tuple") none (Data.seq #[] 0) #[])
noncomputable def o250 (P : Params) : Obj := (Obj.mk Value.none none (Data.fields #[]) #[])
noncomputable def o251 (P : Params) : Obj := (Obj.mk (Value.type "tuple") none (Data.seq #[(Value.str (SS "_law_web") 508), (Value.str (SS "_law_weaving") 509), (Value.str (SS "_law_cell") 510), (Value.str (SS "_law_at") 511), (Value.str (SS "_law_own") 512), (Value.str (SS "_law_move") 513), (Value.str (SS "_law_some") 514), (Value.str (SS "_law_things") 515), (Value.str (SS "_law_odd") 516), (Value.str (SS "_law_hand") 517), (Value.str (SS "_law_kind") 518)] 0) #[])
noncomputable def o252 (P : Params) : Obj := (Obj.mk (Value.type "tuple") none (Data.seq #[] 0) #[])
noncomputable def o253 (P : Params) : Obj := (Obj.mk Value.none none (Data.func (PySem.FuncData.mk (SS "_law_spoilt_good") (SS "_law_spoilt_good") (fdA 38) (PySem.FuncBody.stmts (fdB 38)) (fdS 38) 0 [] Value.none Value.none Value.none Value.none none Value.none Value.none 0)) #[])
noncomputable def o254 (P : Params) : Obj := (Obj.mk (Value.type "code") none (Data.fields #[(Value.str (SS "_law_spoilt_good") 505), (Value.str (SS "_law_spoilt_good") 506), (Value.str (SS "/claim/cut.py") 507), (Value.int (180 : Int) 0), (Value.int (3 : Int) 0), (Value.int (0 : Int) 0), (Value.int (0 : Int) 0), (Value.int (3 : Int) 0), (Value.ref 239), (Value.bool true), (Value.int (181 : Int) 0), (Value.ref 240), Value.none, (Value.ref 241), (Value.ref 242), (Value.ref 243), (Value.int (519 : Int) 0), (Value.int (180 : Int) 0), (Value.str (SS "/claim/cut.py") 520)]) #[])
noncomputable def o255 (P : Params) : Obj := (Obj.mk (Value.type "function") none (Data.func (PySem.FuncData.mk (SS "_law_spoilt_good") (SS "_law_spoilt_good") (fdA 38) (PySem.FuncBody.stmts (fdB 38)) (fdS 38) 3 [] Value.none Value.none Value.none (Value.str (SS "law_uf030029_04") 417) none (Value.ref 244) Value.none 0)) #[])
noncomputable def o256 (P : Params) : Obj := (Obj.mk (Value.type "tuple") none (Data.seq #[] 0) #[])
noncomputable def o257 (P : Params) : Obj := (Obj.mk Value.none none (Data.fields #[]) #[])
noncomputable def o258 (P : Params) : Obj := (Obj.mk Value.none none (Data.func (PySem.FuncData.mk (SS "law") (SS "law") (fdA 39) (PySem.FuncBody.stmts (fdB 39)) (fdS 39) 0 [] Value.none Value.none Value.none Value.none none Value.none Value.none 0)) #[])
noncomputable def o259 (P : Params) : Obj := (Obj.mk (Value.type "code") none (Data.fields #[(Value.str (SS "law") 522), (Value.str (SS "law") 523), (Value.str (SS "/claim/cut.py") 524), (Value.int (196 : Int) 0), (Value.int (1 : Int) 0), (Value.int (0 : Int) 0), (Value.int (0 : Int) 0), (Value.int (3 : Int) 0), (Value.ref 246), (Value.bool true), (Value.int (181 : Int) 0), (Value.ref 247), Value.none, Value.none, Value.none, (Value.ref 248), (Value.int (525 : Int) 0), (Value.int (196 : Int) 0), (Value.str (SS "/claim/cut.py") 526)]) #[])
noncomputable def o260 (P : Params) : Obj := (Obj.mk (Value.type "function") none (Data.func (PySem.FuncData.mk (SS "law") (SS "law") (fdA 39) (PySem.FuncBody.stmts (fdB 39)) (fdS 39) 3 [] Value.none Value.none Value.none (Value.str (SS "law_uf030029_04") 417) none (Value.ref 249) Value.none 0)) #[])
noncomputable def T8 (P : Params) : BT := (BT.node (boot_o_0 P) (BT.node (boot_o_1 P) (BT.node (o206 P) (BT.node (boot_o_7 P) (BT.node (o6 P) (BT.node (o25 P) (BT.node (o63 P) (BT.node (o135 P) BT.nil BT.nil) (BT.node (o199 P) BT.nil BT.nil)) (BT.node (o101 P) (BT.node (o167 P) BT.nil BT.nil) (BT.node (o233 P) BT.nil BT.nil))) (BT.node (o44 P) (BT.node (o85 P) (BT.node (o151 P) BT.nil BT.nil) (BT.node (o217 P) BT.nil BT.nil)) (BT.node (o117 P) (BT.node (o183 P) BT.nil BT.nil) (BT.node (o249 P) BT.nil BT.nil)))) (BT.node (o14 P) (BT.node (o33 P) (BT.node (o74 P) (BT.node (o143 P) BT.nil BT.nil) (BT.node (o209 P) BT.nil BT.nil)) (BT.node (o109 P) (BT.node (o175 P) BT.nil BT.nil) (BT.node (o241 P) BT.nil BT.nil))) (BT.node (o55 P) (BT.node (o93 P) (BT.node (o159 P) BT.nil BT.nil) (BT.node (o225 P) BT.nil BT.nil)) (BT.node (o127 P) (BT.node (o191 P) BT.nil BT.nil) (BT.node (o257 P) BT.nil BT.nil))))) (BT.node (o0 P) (BT.node (o10 P) (BT.node (o29 P) (BT.node (o70 P) (BT.node (o139 P) BT.nil BT.nil) (BT.node (o203 P) BT.nil BT.nil)) (BT.node (o105 P) (BT.node (o171 P) BT.nil BT.nil) (BT.node (o237 P) BT.nil BT.nil))) (BT.node (o48 P) (BT.node (o89 P) (BT.node (o155 P) BT.nil BT.nil) (BT.node (o221 P) BT.nil BT.nil)) (BT.node (o121 P) (BT.node (o187 P) BT.nil BT.nil) (BT.node (o253 P) BT.nil BT.nil)))) (BT.node (o18 P) (BT.node (o40 P) (BT.node (o78 P) (BT.node (o147 P) BT.nil BT.nil) (BT.node (o213 P) BT.nil BT.nil)) (BT.node (o113 P) (BT.node (o179 P) BT.nil BT.nil) (BT.node (o245 P) BT.nil BT.nil))) (BT.node (o59 P) (BT.node (o97 P) (BT.node (o163 P) BT.nil BT.nil) (BT.node (o229 P) BT.nil BT.nil)) (BT.node (o131 P) (BT.node (o195 P) BT.nil BT.nil) BT.nil))))) (BT.node (boot_o_5 P) (BT.node (boot_o_9 P) (BT.node (o8 P) (BT.node (o27 P) (BT.node (o68 P) (BT.node (o137 P) BT.nil BT.nil) (BT.node (o201 P) BT.nil BT.nil)) (BT.node (o103 P) (BT.node (o169 P) BT.nil BT.nil) (BT.node (o235 P) BT.nil BT.nil))) (BT.node (o46 P) (BT.node (o87 P) (BT.node (o153 P) BT.nil BT.nil) (BT.node (o219 P) BT.nil BT.nil)) (BT.node (o119 P) (BT.node (o185 P) BT.nil BT.nil) (BT.node (o251 P) BT.nil BT.nil)))) (BT.node (o16 P) (BT.node (o38 P) (BT.node (o76 P) (BT.node (o145 P) BT.nil BT.nil) (BT.node (o211 P) BT.nil BT.nil)) (BT.node (o111 P) (BT.node (o177 P) BT.nil BT.nil) (BT.node (o243 P) BT.nil BT.nil))) (BT.node (o57 P) (BT.node (o95 P) (BT.node (o161 P) BT.nil BT.nil) (BT.node (o227 P) BT.nil BT.nil)) (BT.node (o129 P) (BT.node (o193 P) BT.nil BT.nil) (BT.node (o259 P) BT.nil BT.nil))))) (BT.node (o2 P) (BT.node (o12 P) (BT.node (o31 P) (BT.node (o72 P) (BT.node (o141 P) BT.nil BT.nil) (BT.node (o205 P) BT.nil BT.nil)) (BT.node (o107 P) (BT.node (o173 P) BT.nil BT.nil) (BT.node (o239 P) BT.nil BT.nil))) (BT.node (o53 P) (BT.node (o91 P) (BT.node (o157 P) BT.nil BT.nil) (BT.node (o223 P) BT.nil BT.nil)) (BT.node (o125 P) (BT.node (o189 P) BT.nil BT.nil) (BT.node (o255 P) BT.nil BT.nil)))) (BT.node (o23 P) (BT.node (o42 P) (BT.node (o83 P) (BT.node (o149 P) BT.nil BT.nil) (BT.node (o215 P) BT.nil BT.nil)) (BT.node (o115 P) (BT.node (o181 P) BT.nil BT.nil) (BT.node (o247 P) BT.nil BT.nil))) (BT.node (o61 P) (BT.node (o99 P) (BT.node (o165 P) BT.nil BT.nil) (BT.node (o231 P) BT.nil BT.nil)) (BT.node (o133 P) (BT.node (o197 P) BT.nil BT.nil) BT.nil)))))) (BT.node (boot_o_2 P) (BT.node (boot_o_4 P) (BT.node (boot_o_8 P) (BT.node (o7 P) (BT.node (o26 P) (BT.node (o67 P) (BT.node (o136 P) BT.nil BT.nil) (BT.node (o200 P) BT.nil BT.nil)) (BT.node (o102 P) (BT.node (o168 P) BT.nil BT.nil) (BT.node (o234 P) BT.nil BT.nil))) (BT.node (o45 P) (BT.node (o86 P) (BT.node (o152 P) BT.nil BT.nil) (BT.node (o218 P) BT.nil BT.nil)) (BT.node (o118 P) (BT.node (o184 P) BT.nil BT.nil) (BT.node (o250 P) BT.nil BT.nil)))) (BT.node (o81 P) (BT.node (o37 P) (BT.node (o75 P) (BT.node (o144 P) BT.nil BT.nil) (BT.node (o210 P) BT.nil BT.nil)) (BT.node (o110 P) (BT.node (o176 P) BT.nil BT.nil) (BT.node (o242 P) BT.nil BT.nil))) (BT.node (o56 P) (BT.node (o94 P) (BT.node (o160 P) BT.nil BT.nil) (BT.node (o226 P) BT.nil BT.nil)) (BT.node (o128 P) (BT.node (o192 P) BT.nil BT.nil) (BT.node (o258 P) BT.nil BT.nil))))) (BT.node (o207 P) (BT.node (o11 P) (BT.node (o30 P) (BT.node (o71 P) (BT.node (o140 P) BT.nil BT.nil) (BT.node (o204 P) BT.nil BT.nil)) (BT.node (o106 P) (BT.node (o172 P) BT.nil BT.nil) (BT.node (o238 P) BT.nil BT.nil))) (BT.node (o52 P) (BT.node (o90 P) (BT.node (o156 P) BT.nil BT.nil) (BT.node (o222 P) BT.nil BT.nil)) (BT.node (o124 P) (BT.node (o188 P) BT.nil BT.nil) (BT.node (o254 P) BT.nil BT.nil)))) (BT.node (o22 P) (BT.node (o41 P) (BT.node (o82 P) (BT.node (o148 P) BT.nil BT.nil) (BT.node (o214 P) BT.nil BT.nil)) (BT.node (o114 P) (BT.node (o180 P) BT.nil BT.nil) (BT.node (o246 P) BT.nil BT.nil))) (BT.node (o60 P) (BT.node (o98 P) (BT.node (o164 P) BT.nil BT.nil) (BT.node (o230 P) BT.nil BT.nil)) (BT.node (o132 P) (BT.node (o196 P) BT.nil BT.nil) BT.nil))))) (BT.node (boot_o_6 P) (BT.node (boot_o_10 P) (BT.node (o9 P) (BT.node (o28 P) (BT.node (o69 P) (BT.node (o138 P) BT.nil BT.nil) (BT.node (o202 P) BT.nil BT.nil)) (BT.node (o104 P) (BT.node (o170 P) BT.nil BT.nil) (BT.node (o236 P) BT.nil BT.nil))) (BT.node (o47 P) (BT.node (o88 P) (BT.node (o154 P) BT.nil BT.nil) (BT.node (o220 P) BT.nil BT.nil)) (BT.node (o120 P) (BT.node (o186 P) BT.nil BT.nil) (BT.node (o252 P) BT.nil BT.nil)))) (BT.node (o17 P) (BT.node (o39 P) (BT.node (o77 P) (BT.node (o146 P) BT.nil BT.nil) (BT.node (o212 P) BT.nil BT.nil)) (BT.node (o112 P) (BT.node (o178 P) BT.nil BT.nil) (BT.node (o244 P) BT.nil BT.nil))) (BT.node (o58 P) (BT.node (o96 P) (BT.node (o162 P) BT.nil BT.nil) (BT.node (o228 P) BT.nil BT.nil)) (BT.node (o130 P) (BT.node (o194 P) BT.nil BT.nil) (BT.node (o260 P) BT.nil BT.nil))))) (BT.node (o3 P) (BT.node (o13 P) (BT.node (o32 P) (BT.node (o73 P) (BT.node (o142 P) BT.nil BT.nil) (BT.node (o208 P) BT.nil BT.nil)) (BT.node (o108 P) (BT.node (o174 P) BT.nil BT.nil) (BT.node (o240 P) BT.nil BT.nil))) (BT.node (o54 P) (BT.node (o92 P) (BT.node (o158 P) BT.nil BT.nil) (BT.node (o224 P) BT.nil BT.nil)) (BT.node (o126 P) (BT.node (o190 P) BT.nil BT.nil) (BT.node (o256 P) BT.nil BT.nil)))) (BT.node (o24 P) (BT.node (o43 P) (BT.node (o84 P) (BT.node (o150 P) BT.nil BT.nil) (BT.node (o216 P) BT.nil BT.nil)) (BT.node (o116 P) (BT.node (o182 P) BT.nil BT.nil) (BT.node (o248 P) BT.nil BT.nil))) (BT.node (o62 P) (BT.node (o100 P) (BT.node (o166 P) BT.nil BT.nil) (BT.node (o232 P) BT.nil BT.nil)) (BT.node (o134 P) (BT.node (o198 P) BT.nil BT.nil) BT.nil)))))))
noncomputable def S8 (w : World) (os : OsState) : SharedT := ⟨T8 w.params, 251, (PySem.Life.mk [] [] [] 0 [] [] false #[] [] 0 false false false (0 : Int) [(2000 : Int), (10 : Int), (10 : Int)] false 0 true [] [] 0 false), #[], (PySem.Drawn.mk 0 0 0 0), 528, os⟩
noncomputable def g8 : List Stmt := ((behindTheImports pp).drop 31).take 9
theorem c8 (w : World) (os : OsState) : segRunT treeTable pp w 11 ann0 1 269 (S7 w os) (piecesOf g8 env0 cod0 (PySem.Pos.mk 120 0 134 19) B0) = some (.next, S8 w os, cod0, (PySem.Pos.mk 196 0 216 84)) := seg_q (by kernel_rfl)
noncomputable def H1 (P : Params) : Heap := ⟨#[boot_o_0 P, boot_o_1 P, boot_o_2 P, o206 P, boot_o_4 P, boot_o_5 P, boot_o_6 P, boot_o_7 P, boot_o_8 P, boot_o_9 P, boot_o_10 P, o0 P, o207 P, o2 P, o3 P, o6 P, o7 P, o8 P, o9 P, o10 P, o11 P, o12 P, o13 P, o14 P, o81 P, o16 P, o17 P, o18 P, o22 P, o23 P, o24 P, o25 P, o26 P, o27 P, o28 P, o29 P, o30 P, o31 P, o32 P, o33 P, o37 P, o38 P, o39 P, o40 P, o41 P, o42 P, o43 P, o44 P, o45 P, o46 P, o47 P, o48 P, o52 P, o53 P, o54 P, o55 P, o56 P, o57 P, o58 P, o59 P, o60 P, o61 P, o62 P, o63 P, o67 P, o68 P, o69 P, o70 P, o71 P, o72 P, o73 P, o74 P, o75 P, o76 P, o77 P, o78 P, o82 P, o83 P, o84 P, o85 P, o86 P, o87 P, o88 P, o89 P, o90 P, o91 P, o92 P, o93 P, o94 P, o95 P, o96 P, o97 P, o98 P, o99 P, o100 P, o101 P, o102 P, o103 P, o104 P, o105 P, o106 P, o107 P, o108 P, o109 P, o110 P, o111 P, o112 P, o113 P, o114 P, o115 P, o116 P, o117 P, o118 P, o119 P, o120 P, o121 P, o124 P, o125 P, o126 P, o127 P, o128 P, o129 P, o130 P, o131 P, o132 P, o133 P, o134 P, o135 P, o136 P, o137 P, o138 P, o139 P, o140 P, o141 P, o142 P, o143 P, o144 P, o145 P, o146 P, o147 P, o148 P, o149 P, o150 P, o151 P, o152 P, o153 P, o154 P, o155 P, o156 P, o157 P, o158 P, o159 P, o160 P, o161 P, o162 P, o163 P, o164 P, o165 P, o166 P, o167 P, o168 P, o169 P, o170 P, o171 P, o172 P, o173 P, o174 P, o175 P, o176 P, o177 P, o178 P, o179 P, o180 P, o181 P, o182 P, o183 P, o184 P, o185 P, o186 P, o187 P, o188 P, o189 P, o190 P, o191 P, o192 P, o193 P, o194 P, o195 P, o196 P, o197 P, o198 P, o199 P, o200 P, o201 P, o202 P, o203 P, o204 P, o205 P, o208 P, o209 P, o210 P, o211 P, o212 P, o213 P, o214 P, o215 P, o216 P, o217 P, o218 P, o219 P, o220 P, o221 P, o222 P, o223 P, o224 P, o225 P, o226 P, o227 P, o228 P, o229 P, o230 P, o231 P, o232 P, o233 P, o234 P, o235 P, o236 P, o237 P, o238 P, o239 P, o240 P, o241 P, o242 P, o243 P, o244 P, o245 P, o246 P, o247 P, o248 P, o249 P, o250 P, o251 P, o252 P, o253 P, o254 P, o255 P, o256 P, o257 P, o258 P, o259 P, o260 P], (PySem.Life.mk [] [] [] 0 [] [] false #[] [] 0 false false false (0 : Int) [(2000 : Int), (10 : Int), (10 : Int)] false 0 true [] [] 0 false)⟩
noncomputable def d1 : Drawn := (PySem.Drawn.mk 0 0 0 0)
noncomputable def Sf (w : World) (os : OsState) : Shared := ⟨H1 w.params, #[], d1, 528, os⟩
theorem c_fin (w : World) (os : OsState) : topRun treeTable pp w 11 ann0 2 (S8 w os).abs ⟨doneF .next, cod0, (PySem.Pos.mk 196 0 216 84), B0⟩ = some (Sf w os) := by kernel_rfl
theorem all_g : behindTheImports pp = g1 ++ (g2 ++ (g3 ++ (g4 ++ (g5 ++ (g6 ++ (g7 ++ (g8 ++ []))))))) := by kernel_rfl
theorem run0 (w : World) (os : OsState) : topRun treeTable pp w 11 ann0 (12 + (1 + (196 + (214 + (214 + (214 + (214 + (393 + (393 + (269 + 2)))))))))) ⟨boot_heap w.params, Array.mk [], boot_drawn, boot_toks, os⟩ (topStub pp) = some (Sf w os) :=
  go_top (c_pre w os) (piece_block (c_blk w os) (by rw [all_g]; exact piece_app (segRun_of (c1 w os)) (piece_app (segRun_of (c2 w os)) (piece_app (segRun_of (c3 w os)) (piece_app (segRun_of (c4 w os)) (piece_app (segRun_of (c5 w os)) (piece_app (segRun_of (c6 w os)) (piece_app (segRun_of (c7 w os)) (piece_app (segRun_of (c8 w os)) (piece_nil (c_fin w os)))))))))))
theorem size0 (w : World) : ((boot_heap w.params).isNs mainGlobals && (Array.mk [] : Array GenState).size == 0, (boot_heap w.params).objs.size, (boot_heap w.params).nsMap mainGlobals "__annotations__") = (true, 11, ann0) := by kernel_rfl
theorem op0 : opening pp = plainProg pp.main.scope.names := by kernel_rfl
theorem fe0 (s : Shared) : fenceModules? pp s = some s := by kernel_rfl
theorem lk1 (w : World) (os : OsState) : (staticsOk (importedModules pp.main.body) (boot_heap w.params) (H1 w.params) && namesBound pp (H1 w.params) && gensDone (Sf w os) && laidKept (boot_heap w.params) (H1 w.params)) = true := by kernel_rfl
theorem lk2 (w : World) (os : OsState) : openSeen q lo (importedModules pp.main.body) Xt true (Sf w os) = openGood q lo := by kernel_rfl
theorem lk3 (w : World) (os : OsState) : Hook.obs look (Sf w os) = Hook.val look w := by kernel_rfl
theorem left : LeftO pp q lo Xt (Hook.obs look) (Hook.val look) 4324 := LeftO.of_pieces (H₀ := boot_heap) (H₁ := H1) (gs₀ := Array.mk []) (gs₁ := #[]) (d₀ := boot_drawn) (d₁ := d1) (k₀ := boot_toks) (k₁ := 528) (boot_open op0 (by decide) fe0) size0 run0 (by decide)
  fun w => funext fun os => looks_pair (lk1 w os) (looks_pair (lk2 w os) (lk3 w os))
end Mine.L04
open Mine in
set_option maxHeartbeats 8000000 in
theorem PySem.Challenge.cw_uf030029_04_holds : PySem.Challenge.rw_uf030029_04.Holds := by
  w_on
  o_law
  refine holds_open (q := Mine.L04.q) (loose := Mine.L04.lo) (Xt := Mine.L04.Xt) (XP := XL Mine.L04.q Mine.L04.lv) (YP := Hook.says Mine.L04.look) Mine.L04.left (Hook.of Mine.L04.look) (Hook.keeps Mine.L04.look) (fun s e => xl_of s (Bool.and_eq_true_iff.mp e).1) XL.keeps (by rfl) (by rfl) (by rfl) (fun s e => recFacts_of (Bool.and_eq_true_iff.mp e).2) (by rfl) (by assumption) (by decide +kernel) ⟨rfl, rfl, rfl, rfl, rfl, by decide +kernel⟩ ?hw ?hc
  (case hw => w_witness2)
  intro w s₀ s₁ mg mb G Y fa o pm cd doc dV kV ho hd hcd hD hmg hg args vals as hpre hlay hrd hwl hlo
  obtain ⟨K, e, KX⟩ := Y
  have T := G.T
  clear hd hcd hD ho G
  have hmg' : mg (Str.ofString "law") = some (.ref fa) := hmg
  clear hmg
  wrow_args hpre hlay hrd hwl hlo
  rename_i ns _ _ hlay0 _ _ _ _ l vs _ _ _ hW _ _ _ hlen _
  have E : Mine.L04.Env ⟨PySem.Challenge.pw_uf030029_04, w, s₁.heap, mg, mb⟩ := {
    co := cxOk_of T
    fn_is_whole := fnIs_hook e KX T.g 0 rfl (by decide)
    fn_is_box := fnIs_hook e KX T.g 1 rfl (by decide)
    fn_is_step := fnIs_hook e KX T.g 2 rfl (by decide)
    fn_need_web := fnIs_hook e KX T.g 3 rfl (by decide)
    fn_begun := fnIs_hook e KX T.g 4 rfl (by decide)
    fn_can := fnIs_hook e KX T.g 5 rfl (by decide)
    fn_changed := fnIs_hook e KX T.g 6 rfl (by decide)
    fn_seen := fnIs_hook e KX T.g 7 rfl (by decide)
    fn_moved := fnIs_hook e KX T.g 8 rfl (by decide)
    fn_is_over := fnIs_hook e KX T.g 9 rfl (by decide)
    fn_end_of := fnIs_hook e KX T.g 10 rfl (by decide)
    fn_woven := fnIs_hook e KX T.g 11 rfl (by decide)
    fn__law_cell_at := fnIs_hook e KX T.g 12 rfl (by decide)
    fn__law_number_by := fnIs_hook e KX T.g 13 rfl (by decide)
    fn__law_step_by := fnIs_hook e KX T.g 14 rfl (by decide)
    fn__law_web_by := fnIs_hook e KX T.g 15 rfl (by decide)
    fn__law_begun := fnIs_hook e KX T.g 16 rfl (by decide)
    fn__law_can := fnIs_hook e KX T.g 17 rfl (by decide)
    fn__law_do := fnIs_hook e KX T.g 18 rfl (by decide)
    fn__law_moves := fnIs_hook e KX T.g 19 rfl (by decide)
    fn__law_end := fnIs_hook e KX T.g 20 rfl (by decide)
    fn__law_word := fnIs_hook e KX T.g 21 rfl (by decide)
    fn__law_over_good := fnIs_hook e KX T.g 22 rfl (by decide)
    fn__law_spoilt_good := fnIs_hook e KX T.g 23 rfl (by decide)
    fn_law := fnIs_hook e KX T.g 24 rfl (by decide)
    g_BOXES := gint_hook e KX T.g 0 rfl
    g_MOST_ROWS := gint_hook e KX T.g 1 rfl
    g_MOST_DEEDS := gint_hook e KX T.g 2 rfl
    g_TOO_GREAT := gint_hook e KX T.g 3 rfl
    b_ValueError := builtin_hook e KX T 0 rfl (by kernel_rfl) (by decide +kernel)
    b_bool := builtin_hook e KX T 1 rfl (by kernel_rfl) (by decide +kernel)
    b_enumerate := builtin_hook e KX T 2 rfl (by kernel_rfl) (by decide +kernel)
    b_int := builtin_hook e KX T 3 rfl (by kernel_rfl) (by decide +kernel)
    b_isinstance := builtin_hook e KX T 4 rfl (by kernel_rfl) (by decide +kernel)
    b_len := builtin_hook e KX T 5 rfl (by kernel_rfl) (by decide +kernel)
    b_list := builtin_hook e KX T 6 rfl (by kernel_rfl) (by decide +kernel)
    b_range := builtin_hook e KX T 7 rfl (by kernel_rfl) (by decide +kernel)
    b_str := builtin_hook e KX T 8 rfl (by kernel_rfl) (by decide +kernel)
    b_tuple := builtin_hook e KX T 9 rfl (by kernel_rfl) (by decide +kernel)
    exc := exc_hook e KX T (by decide +kernel)
  }
  exact law_end (Mine.L04.ok_law E) (by decide) hmg' hW hg (Mine.L04.law_true ns (by omega) hlay0) (by intro cls; rfl) (by first | rfl | wrow_post)

