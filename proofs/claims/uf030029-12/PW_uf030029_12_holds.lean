import PyProof.Rows.All
import PyProof.Cells
import PyProof.Comp
import PyProof.TupleOps
import PyProof.P3In
import PyProof.NeData
import PyProof.RaisesMany
import PyProof.StationsW
import PyProof.Rules3
import PyProof.TupleIter
import PyProof.PureInt
import PyProof.Rows.RuleB_floordiv
import PyProof.Rows.RuleB_mod
import PyProof.Rows.RuleB_pow
import PyProof.Rows.StrRules
import PyProof.Rows.ListMul
import PyProof.Rows.StrTemp
import PyProof.Rows.TupMore
import PyProof.SliceMore
import PyProof.ListIndexNeg
import PyProof.CallRoads
import PyProof.IsRules
import PyProof.Raises
import PyProof.Rows.ListMulArg
import PyProof.StrBlock2
import PyProof.Dict
import PyProof.CollectWalk
import PyProof.CallType
import PyProof.ForRange
import PyProof.IsiPairs
import PyProof.IsiHeapPairs
import PyProof.IsiNone
import PyProof.ListCopy
import PyProof.TupleOfSeq
import PyProof.Conv_int_bool
import PyProof.ForAny
import PyProof.RangeIter
import PyProof.RangeFor
import PyProof.EnumFor
import PyProof.EnumStmt
import PyProof.CompFree
import PyProof.CompUse
import PyProof.Rows.Chain
import OpenK.KCall
import OpenK.AllK
import Wide.All
import KE.KTryMore
import PyProof.ExcBaseAll.ValueError
import PyProof.ExcArgsOwn
import PyProof.ExcAttrAll.ValueError
import PyProof.Claim2Try
import PyProof.RulesAs
import PyProof.NsDelKeeps
import PyProof.StrBlockH
import PyProof.StrWalks
import PyProof.CallStr
import KE.KIntText
import PyProof.StrLawsTight
import PyProof.Rows.StrSplitAre
import PyProof.Rows.CatFin
import PyProof.Rows.StrItems
import KE.IntBitsLaws
import Wide.FinOn
import PySem.Challenge.RW_uf030029_12
set_option Elab.async false

namespace Mine
open PySem

/-- plain values; lists by number, the script with its ints, exceptions by their class -/
inductive MV where
  | none
  | bool (b : Bool)
  | int (i : Int)
  | str (s : Str)
  | tup (xs : List MV)
  | lst (k : Nat)
  | exc (c : Str)
  | scr (ns : List Int)

abbrev MH := List (List MV)

/-- the class that a name of the module stands for -/
noncomputable def ClsAt (h₀ : Heap) (c : Str) (C : Addr) : Prop := ∃ m, h₀.Ns mainGlobals m ∧ m c = some (.ref C)

mutual
inductive Rel (h₀ : Heap) (ι : List Addr) (h : Heap) : MV → Value → Prop
  | none : Rel h₀ ι h .none .none
  | bool (b : Bool) : Rel h₀ ι h (.bool b) (.bool b)
  | int (i : Int) (t : Tok) : Rel h₀ ι h (.int i) (.int i t)
  | str (x : Str) (t : Tok) : Rel h₀ ι h (.str x) (.str x t)
  | tup {a : Addr} {vs : List Value} {n : Nat} {xs : List MV} : IsT h a vs.toArray n → RelAll h₀ ι h xs vs → Rel h₀ ι h (.tup xs) (.ref a)
  | lst {k : Nat} {a : Addr} : ι[k]? = some a → Rel h₀ ι h (.lst k) (.ref a)
  | exc {a C : Addr} {o : Obj} {vs : Array Value} {c : Str} : ClsAt h₀ c C → h₀.get? a = none → h.get? a = some o → o.cls = .ref C → o.dict = none → o.data = .fields vs → Rel h₀ ι h (.exc c) (.ref a)
  | scr {a : Addr} {vs : List Value} {n : Nat} {ns : List Int} : IsL h₀ a vs.toArray n → vs.length = ns.length → (∀ (i : Nat) (k : Int), ns[i]? = some k → ∃ t, vs[i]? = some (.int k t)) → Rel h₀ ι h (.scr ns) (.ref a)
inductive RelAll (h₀ : Heap) (ι : List Addr) (h : Heap) : List MV → List Value → Prop
  | nil : RelAll h₀ ι h [] []
  | cons {x : MV} {v : Value} {xs : List MV} {vs : List Value} : Rel h₀ ι h x v → RelAll h₀ ι h xs vs → RelAll h₀ ι h (x :: xs) (v :: vs)
end

/-- objects that a run of ours never changes once they stand -/
noncomputable def Frozen (o : Obj) : Prop := (o.cls = .type "tuple" ∧ ∃ vs n, o.data = .seq vs n) ∨ ∃ n : String, o.cls = .type n ∧ n ≠ "traceback" ∧ ∃ vs, o.data = .fields vs
theorem frozen_tuple (d : Option Addr) (vs : Array Value) (n : Nat) (sl : Array (Option Value)) : Frozen ⟨.type "tuple", d, .seq vs n, sl⟩ := .inl ⟨rfl, _, _, rfl⟩
/-- an own exception's object -/
noncomputable def ExcLike (o : Obj) : Prop := (∃ C, o.cls = .ref C) ∧ ∃ vs, o.data = .fields vs
structure Keep (h h' : Heap) : Prop where
  fro : ∀ a o, h.get? a = some o → Frozen o → h'.get? a = some o
  exc : ∀ a o, h.get? a = some o → ExcLike o → ∃ o', h'.get? a = some o' ∧ o'.cls = o.cls ∧ o'.dict = o.dict ∧ ∃ vs, o'.data = .fields vs
theorem Keep.refl (h : Heap) : Keep h h := ⟨fun _ _ e _ => e, fun _ o e x => ⟨o, e, rfl, rfl, x.2⟩⟩
theorem Keep.trans {h₁ h₂ h₃ : Heap} (x : Keep h₁ h₂) (y : Keep h₂ h₃) : Keep h₁ h₃ :=
  ⟨fun a o e f => y.fro a o (x.fro a o e f) f, fun a o e f => by
    obtain ⟨o', e', c', q', d'⟩ := x.exc a o e f
    obtain ⟨o₂, e₂, c₂, q₂, d₂⟩ := y.exc a o' e' ⟨by rw [c']; exact f.1, d'⟩
    exact ⟨o₂, e₂, c₂.trans c', q₂.trans q', d₂⟩⟩
theorem Keep.of_ext {h h' : Heap} (x : ∀ a o, h.get? a = some o → h'.get? a = some o) : Keep h h' :=
  ⟨fun a o e _ => x a o e, fun a o e f => ⟨o, x a o e, rfl, rfl, f.2⟩⟩
theorem Keep.push (h : Heap) (o : Obj) : Keep h (h.push o) := .of_ext fun _ _ e => Heap.get?_push_of_some o e
theorem Keep.but {h h' : Heap} {a : Addr} (hs : Heap.SameBut a h h') (hn : ∀ o, h.get? a = some o → ¬ Frozen o ∧ ¬ ExcLike o) : Keep h h' :=
  ⟨fun b o e f => by
    by_cases q : b = a
    · subst q; exact absurd f (hn o e).1
    · exact (hs.2 b q).trans e,
   fun b o e f => by
    by_cases q : b = a
    · subst q; exact absurd f (hn o e).2
    · exact ⟨o, (hs.2 b q).trans e, rfl, rfl, f.2⟩⟩
section
variable {h₀ h h' : Heap} {ι ι' : List Addr}
theorem Rel.gmono (L : ∀ (k : Nat) (a : Addr), ι[k]? = some a → ι'[k]? = some a) (T : ∀ a vs n, IsT h a vs n → IsT h' a vs n)
    (X : ∀ (a : Addr) (o : Obj) (C : Addr) (vs : Array Value), h.get? a = some o → o.cls = .ref C → o.dict = Option.none → o.data = .fields vs → ∃ o' vs', h'.get? a = some o' ∧ o'.cls = .ref C ∧ o'.dict = Option.none ∧ o'.data = .fields vs') {v : MV} {x : Value} (r : Rel h₀ ι h v x) : Rel h₀ ι' h' v x :=
  Rel.rec (motive_1 := fun v x _ => Rel h₀ ι' h' v x) (motive_2 := fun xs vs _ => RelAll h₀ ι' h' xs vs) .none (fun b => .bool b) (fun i t => .int i t) (fun x t => .str x t) (fun ht _ ih => .tup (T _ _ _ ht) ih) (fun hk => .lst (L _ _ hk))
    (fun k n e c q d => Exists.elim (X _ _ _ _ e c q d) fun _ h1 => Exists.elim h1 fun _ h2 => .exc k n h2.1 h2.2.1 h2.2.2.1 h2.2.2.2) (fun hl hn hi => .scr hl hn hi) .nil (fun _ _ a b => .cons a b) r
theorem RelAll.gmono (L : ∀ (k : Nat) (a : Addr), ι[k]? = some a → ι'[k]? = some a) (T : ∀ a vs n, IsT h a vs n → IsT h' a vs n)
    (X : ∀ (a : Addr) (o : Obj) (C : Addr) (vs : Array Value), h.get? a = some o → o.cls = .ref C → o.dict = Option.none → o.data = .fields vs → ∃ o' vs', h'.get? a = some o' ∧ o'.cls = .ref C ∧ o'.dict = Option.none ∧ o'.data = .fields vs') {xs : List MV} : ∀ {vs : List Value}, RelAll h₀ ι h xs vs → RelAll h₀ ι' h' xs vs := by
  induction xs with
  | nil => intro vs r; cases r; exact .nil
  | cons x xs ih =>
    intro vs r
    cases r with | cons a b => exact .cons (a.gmono L T X) (ih b)
theorem pre_get (P : ι <+: ι') (k : Nat) (a : Addr) (hk : ι[k]? = some a) : ι'[k]? = some a := by obtain ⟨t, rfl⟩ := P; rw [List.getElem?_append_left (List.getElem?_eq_some_iff.mp hk).1]; exact hk
theorem Keep.exc' (K : Keep h h') (a : Addr) (o : Obj) (C : Addr) (vs : Array Value) (e : h.get? a = some o) (c : o.cls = .ref C) (q : o.dict = Option.none) (d : o.data = .fields vs) : ∃ o' vs', h'.get? a = some o' ∧ o'.cls = .ref C ∧ o'.dict = Option.none ∧ o'.data = .fields vs' := by
  obtain ⟨_, e', c', q', _, d'⟩ := K.exc _ _ e ⟨⟨_, c⟩, _, d⟩
  exact ⟨_, _, e', c'.trans c, q'.trans q, d'⟩
theorem Rel.mono (P : ι <+: ι') (K : Keep h h') {v : MV} {x : Value} (r : Rel h₀ ι h v x) : Rel h₀ ι' h' v x := r.gmono (pre_get P) (fun _ _ _ ht => K.fro _ _ ht (frozen_tuple ..)) K.exc'
theorem RelAll.mono (P : ι <+: ι') (K : Keep h h') {xs : List MV} {vs : List Value} (r : RelAll h₀ ι h xs vs) : RelAll h₀ ι' h' xs vs := r.gmono (pre_get P) (fun _ _ _ ht => K.fro _ _ ht (frozen_tuple ..)) K.exc'
/-! what a value of ours stands for, read backwards -/
theorem Rel.none_inv {x : Value} (r : Rel h₀ ι h .none x) : x = .none := by cases r; rfl
theorem Rel.bool_inv {b : Bool} {x : Value} (r : Rel h₀ ι h (.bool b) x) : x = .bool b := by cases r; rfl
inductive IntAt (i : Int) : Value → Prop
  | mk (t : Tok) : IntAt i (.int i t)
inductive StrAt (i : Str) : Value → Prop
  | mk (t : Tok) : StrAt i (.str i t)
inductive TupAt (h₀ : Heap) (ι : List Addr) (h : Heap) (xs : List MV) : Value → Prop
  | mk (a : Addr) (vs : List Value) (n : Nat) (ht : IsT h a vs.toArray n) (r : RelAll h₀ ι h xs vs) : TupAt h₀ ι h xs (.ref a)
inductive RefAt (ι : List Addr) (k : Nat) : Value → Prop
  | mk (a : Addr) (hk : ι[k]? = some a) : RefAt ι k (.ref a)
inductive ScrAt (h₀ : Heap) (ns : List Int) : Value → Prop
  | mk (a : Addr) (vs : List Value) (n : Nat) (hl : IsL h₀ a vs.toArray n) (hn : vs.length = ns.length) (hi : ∀ (i : Nat) (k : Int), ns[i]? = some k → ∃ t, vs[i]? = some (.int k t)) : ScrAt h₀ ns (.ref a)
theorem Rel.int_inv {i : Int} {x : Value} (r : Rel h₀ ι h (.int i) x) : IntAt i x := by cases r; exact ⟨_⟩
theorem Rel.str_inv {i : Str} {x : Value} (r : Rel h₀ ι h (.str i) x) : StrAt i x := by cases r; exact ⟨_⟩
theorem Rel.tup_inv {xs : List MV} {x : Value} (r : Rel h₀ ι h (.tup xs) x) : TupAt h₀ ι h xs x := by
  cases r with | tup ht rt => exact ⟨_, _, _, ht, rt⟩
theorem Rel.lst_inv {k : Nat} {x : Value} (r : Rel h₀ ι h (.lst k) x) : RefAt ι k x := by
  cases r with | lst hk => exact ⟨_, hk⟩
theorem Rel.scr_inv {ns : List Int} {x : Value} (r : Rel h₀ ι h (.scr ns) x) : ScrAt h₀ ns x := by
  cases r with | scr h1 h2 h3 => exact ⟨_, _, _, h1, h2, h3⟩
theorem RelAll.one_inv {a : MV} {xs : List Value} (r : RelAll h₀ ι h [a] xs) : ∃ x, xs = [x] ∧ Rel h₀ ι h a x := by
  cases r with | cons r rs => cases rs; exact ⟨_, rfl, r⟩
theorem Rel.keep (K : Keep h h') {v : MV} {x : Value} (r : Rel h₀ ι h v x) : Rel h₀ ι h' v x := Rel.mono (List.prefix_refl _) K r
theorem RelAll.keep (K : Keep h h') {v : List MV} {x : List Value} (r : RelAll h₀ ι h v x) : RelAll h₀ ι h' v x := RelAll.mono (List.prefix_refl _) K r
theorem RelAll.nil_inv {vs : List Value} (r : RelAll h₀ ι h [] vs) : vs = [] := by cases r; rfl
theorem RelAll.cons_inv {x : MV} {xs : List MV} {vs : List Value} (r : RelAll h₀ ι h (x :: xs) vs) : ∃ v us, vs = v :: us ∧ Rel h₀ ι h x v ∧ RelAll h₀ ι h xs us := by
  cases r with | cons r rs => exact ⟨_, _, rfl, r, rs⟩
theorem RelAll.length {xs : List MV} : ∀ {vs : List Value}, RelAll h₀ ι h xs vs → vs.length = xs.length := by
  induction xs with
  | nil => intro vs r; rw [r.nil_inv]; rfl
  | cons x xs ih =>
    intro vs r
    obtain ⟨v, us, rfl, _, rs⟩ := r.cons_inv
    rw [List.length_cons, List.length_cons, ih rs]
theorem RelAll.append {xs ys : List MV} {vs ws : List Value} (r : RelAll h₀ ι h xs vs) (k : RelAll h₀ ι h ys ws) : RelAll h₀ ι h (xs ++ ys) (vs ++ ws) := by
  induction xs generalizing vs with
  | nil => rw [r.nil_inv]; exact k
  | cons x xs ih =>
    obtain ⟨v, us, rfl, r1, rs⟩ := r.cons_inv
    exact .cons r1 (ih rs)
theorem RelAll.one {x : MV} {v : Value} (r : Rel h₀ ι h x v) : RelAll h₀ ι h [x] [v] := .cons r .nil
theorem RelAll.get {xs : List MV} : ∀ {vs : List Value} (_ : RelAll h₀ ι h xs vs) {i : Nat} {x : MV}, xs[i]? = some x → ∃ v, vs[i]? = some v ∧ Rel h₀ ι h x v := by
  induction xs with
  | nil => intro vs r i x e; cases e
  | cons y xs ih =>
    intro vs r i x e
    obtain ⟨v, us, rfl, r1, rs⟩ := r.cons_inv
    cases i with
    | zero => cases e; exact ⟨v, rfl, r1⟩
    | succ i => exact ih rs (i := i) e
theorem RelAll.drop {xs : List MV} : ∀ {vs : List Value} (_ : RelAll h₀ ι h xs vs) (i : Nat), RelAll h₀ ι h (xs.drop i) (vs.drop i) := by
  induction xs with
  | nil => intro vs r i; rw [r.nil_inv, List.drop_nil, List.drop_nil]; exact .nil
  | cons y xs ih =>
    intro vs r i
    cases i with
    | zero => exact r
    | succ i =>
      obtain ⟨v, us, rfl, r1, rs⟩ := r.cons_inv
      exact ih rs i
end

abbrev Rho := Nat → Option MV
noncomputable def Rho.set (ρ : Rho) (i : Nat) (v : MV) : Rho := fun j => if j = i then some v else ρ j

/-- a scope at work: a def's frame, or a comprehension's block -/
structure Sc where
  env : Env
  vars : List (Str × Nat)
  ρ : Rho
  fr : Bool

structure ScOk (h₀ : Heap) (f : Sc) (ι : List Addr) (h : Heap) : Prop where
  loc : ∃ m, h.Ns f.env.locals m ∧ ∀ x i v, (x, i) ∈ f.vars → f.env.kindOf x = some .local → f.ρ i = some v → ∃ cv, m x = some cv ∧ Rel h₀ ι h v cv
  cel : ∀ x i, (x, i) ∈ f.vars → f.env.kindOf x = some .cell → ∃ c ov, f.env.cells.lookup x = some c ∧ h.IsCell c ov ∧ ∀ v, f.ρ i = some v → ∃ cv, ov = some cv ∧ Rel h₀ ι h v cv
  all : ∀ c ∈ f.env.cells.map (·.2), ∃ ov, h.IsCell c ov

/-- where a list of ours lies -/
inductive LstAt (h₀ : Heap) (ι : List Addr) (h : Heap) (k : Nat) (xs : List MV) : Prop
  | mk (a : Addr) (vs : List Value) (n : Nat) (hk : ι[k]? = some a) (hl : IsL h a vs.toArray n) (r : RelAll h₀ ι h xs vs) : LstAt h₀ ι h k xs
structure HpOk (h₀ : Heap) (ι : List Addr) (μ : MH) (h : Heap) : Prop where
  base : h₀.StaysIn h
  len : ι.length = μ.length
  nd : ι.Nodup
  new : ∀ a ∈ ι, h₀.get? a = none
  at_ : ∀ (k : Nat) (xs : List MV), μ[k]? = some xs → LstAt h₀ ι h k xs

noncomputable def ApartSc (f g : Sc) : Prop := f.env.locals ≠ g.env.locals ∧ (f.fr = true → ∀ c ∈ f.env.cells.map (·.2), c ∉ g.env.cells.map (·.2))

structure Inv (h₀ : Heap) (fs : List Sc) (ι : List Addr) (μ : MH) (h : Heap) : Prop where
  hp : HpOk h₀ ι μ h
  sc : ∀ f ∈ fs, ScOk h₀ f ι h
  ap : fs.Pairwise ApartSc
  nw : ∀ f ∈ fs, h₀.get? f.env.locals = none ∧ ∀ c ∈ f.env.cells.map (·.2), h₀.get? c = none

section
variable {h₀ h h' : Heap} {ι ι' : List Addr} {μ : MH} {fs : List Sc} {f : Sc}

theorem ScOk.mono (P : ι <+: ι') (K : Keep h h') (hn : ∀ m, h.Ns f.env.locals m → h'.Ns f.env.locals m) (hc : ∀ c ov, c ∈ f.env.cells.map (·.2) → h.IsCell c ov → h'.IsCell c ov) (S : ScOk h₀ f ι h) : ScOk h₀ f ι' h' := by
  obtain ⟨m, h1, h2⟩ := S.loc
  refine ⟨⟨m, hn m h1, fun x i v hx hk hv => ?_⟩, fun x i hx hk => ?_, fun c hm => let ⟨ov, h⟩ := S.all c hm; ⟨ov, hc c ov hm h⟩⟩
  · obtain ⟨cv, e, r⟩ := h2 x i v hx hk hv
    exact ⟨cv, e, r.mono P K⟩
  · obtain ⟨c, ov, e, hcell, r⟩ := S.cel x i hx hk
    refine ⟨c, ov, e, hc c ov (List.mem_map.mpr ⟨_, mem_of_lookup e, rfl⟩) hcell, fun v hv => ?_⟩
    obtain ⟨cv, e', r'⟩ := r v hv
    exact ⟨cv, e', r'.mono P K⟩

/-- all that stood stands: the state is kept -/
theorem Inv.ext (I : Inv h₀ fs ι μ h) (x : ∀ a o, h.get? a = some o → h'.get? a = some o) : Inv h₀ fs ι μ h' := by
  have K := Keep.of_ext x
  refine ⟨⟨fun a o e => x a o (I.hp.base a o e), I.hp.len, I.hp.nd, I.hp.new, fun k xs hk => ?_⟩, fun g hg => ?_, I.ap, I.nw⟩
  · obtain ⟨a, vs, n, e1, e2, e3⟩ := I.hp.at_ k xs hk
    exact ⟨a, vs, n, e1, x _ _ e2, e3.keep K⟩
  · exact (I.sc g hg).mono (List.prefix_refl _) K (fun m hn => hn.keeps x) (fun c ov _ hc => hc.keeps x)
theorem Inv.push (I : Inv h₀ fs ι μ h) (o : Obj) : Inv h₀ fs ι μ (h.push o) := I.ext fun _ _ e => Heap.get?_push_of_some o e

theorem ns_ne_list {a b : Addr} {m : Str → Option Value} {vs : Array Value} {n : Nat} (hn : h.Ns a m) (hl : IsL h b vs n) : a ≠ b := by
  rintro rfl
  obtain ⟨o, es, ep, ho, hd, _⟩ := hn
  rw [hl] at ho; cases ho; cases hd
theorem cell_ne_list {a b : Addr} {v : Option Value} {vs : Array Value} {n : Nat} (hn : h.IsCell a v) (hl : IsL h b vs n) : a ≠ b := by
  rintro rfl
  obtain ⟨o, ho, hd⟩ := hn
  rw [hl] at ho; cases ho; cases hd
theorem cell_ne_ns {a b : Addr} {v : Option Value} {m : Str → Option Value} (hc : h.IsCell a v) (hn : h.Ns b m) : a ≠ b := by
  rintro rfl
  obtain ⟨o, es, ep, ho, hd, _⟩ := hn
  obtain ⟨o', ho', hd'⟩ := hc
  rw [ho] at ho'; cases ho'; rw [hd] at hd'; cases hd'
theorem not_frozen_list {vs : Array Value} {n : Nat} : ¬ Frozen { cls := .type "list", dict := none, data := .seq vs n, slots := #[] } ∧ ¬ ExcLike { cls := .type "list", dict := none, data := .seq vs n, slots := #[] } := by
  refine ⟨?_, ?_⟩
  · rintro (⟨e, _⟩ | ⟨n, e, _, vs, e'⟩)
    · injection e with e; exact absurd e (by decide)
    · cases e'
  · rintro ⟨⟨C, e⟩, _⟩; cases e

/-- a new list -/
theorem Inv.newList (I : Inv h₀ fs ι μ h) {xs : List MV} {vs : List Value} (r : RelAll h₀ ι h xs vs) :
    Inv h₀ fs (ι ++ [h.objs.size]) (μ ++ [xs]) (h.push { cls := .type "list", data := .seq vs.toArray }) := by
  have K := Keep.push h { cls := .type "list", data := .seq vs.toArray }
  have hfresh : h.objs.size ∉ ι := fun hm => by
    obtain ⟨k, hk, e⟩ := List.mem_iff_getElem.mp hm
    have hk' : k < μ.length := by rw [← I.hp.len]; exact hk
    obtain ⟨a, us, n, e1, e2, _⟩ := I.hp.at_ k (μ[k]'hk') (List.getElem?_eq_getElem hk')
    rw [List.getElem?_eq_getElem hk, e] at e1
    cases e1
    exact absurd (Heap.lt_size e2) (Nat.lt_irrefl _)
  refine ⟨⟨fun a o e => Heap.get?_push_of_some _ (I.hp.base a o e), by simp [I.hp.len], ?_, ?_, fun k ys hk => ?_⟩, fun g hg => ?_, I.ap, I.nw⟩
  · refine List.nodup_append.mpr ⟨I.hp.nd, List.nodup_cons.mpr ⟨by simp, List.nodup_nil⟩, fun a ha b hb => ?_⟩
    rw [List.mem_singleton.mp hb]; rintro rfl; exact hfresh ha
  · intro a ha
    rcases List.mem_append.mp ha with ha | ha
    · exact I.hp.new a ha
    · rw [List.mem_singleton.mp ha]; exact I.hp.base.fresh
  · by_cases hlt : k < μ.length
    · rw [List.getElem?_append_left hlt] at hk
      obtain ⟨a, us, n, e1, e2, e3⟩ := I.hp.at_ k ys hk
      refine ⟨a, us, n, ?_, e2.push _, e3.mono (List.prefix_append ..) K⟩
      rw [List.getElem?_append_left (by rw [I.hp.len]; exact hlt)]; exact e1
    · have hlt' : k = μ.length := by
        have := (List.getElem?_eq_some_iff.mp hk).1
        simp at this; omega
      subst hlt'
      simp at hk; subst hk
      refine ⟨h.objs.size, vs, 0, ?_, IsL.new h vs.toArray, r.mono (List.prefix_append ..) K⟩
      rw [← I.hp.len]; simp
  · exact (I.sc g hg).mono (List.prefix_append ..) K (fun m hn => hn.push _) fun c ov _ hc => hc.keeps fun _ _ e => Heap.get?_push_of_some _ e

/-- a list is changed -/
theorem Inv.setList (I : Inv h₀ fs ι μ h) {k : Nat} {a : Addr} {ys : List MV} {us us' : List Value} {n n' : Nat} (hk : ι[k]? = some a) (hl : IsL h a us.toArray n)
    (hl' : IsL h' a us'.toArray n') (hs : Heap.SameBut a h h') (r : RelAll h₀ ι h ys us') : Inv h₀ fs ι (μ.set k ys) h' ∧ Keep h h' := by
  have K : Keep h h' := Keep.but hs fun o e => by rw [hl] at e; cases e; exact not_frozen_list
  refine ⟨⟨⟨fun b o e => ?_, by simp [I.hp.len], I.hp.nd, I.hp.new, fun j xs hj => ?_⟩, fun g hg => ?_, I.ap, I.nw⟩, K⟩
  · have hne : b ≠ a := by
      rintro rfl
      rw [I.hp.new b (List.mem_of_getElem? hk)] at e; cases e
    exact (hs.2 b hne).trans (I.hp.base b o e)
  · by_cases hjk : j = k
    · subst hjk
      have hlt : j < μ.length := by
        have := (List.getElem?_eq_some_iff.mp hj).1
        simpa using this
      rw [List.getElem?_set_self hlt] at hj; cases hj
      exact ⟨a, us', n', hk, hl', r.keep K⟩
    · rw [List.getElem?_set_ne (Ne.symm hjk)] at hj
      obtain ⟨b, ws, m, e1, e2, e3⟩ := I.hp.at_ j xs hj
      refine ⟨b, ws, m, e1, ?_, e3.keep K⟩
      have hne : b ≠ a := by
        rintro rfl
        exact hjk ((List.getElem?_inj (List.getElem?_eq_some_iff.mp e1).1 I.hp.nd).mp (e1.trans hk.symm))
      exact (hs.2 b hne).trans e2
  · exact (I.sc g hg).mono (List.prefix_refl _) K (fun m hn => hn.sameBut hs (ns_ne_list hn hl)) fun c ov _ hc => hc.sameBut hs (cell_ne_list hc hl)

theorem not_frozen_dict {o : Obj} {es : Array DictEntry} {n : Nat} (hd : o.data = .dict es n) : ¬ Frozen o ∧ ¬ ExcLike o := by
  refine ⟨?_, ?_⟩
  · rintro (⟨_, vs, n, e⟩ | ⟨n, _, _, vs, e⟩) <;> (rw [hd] at e; cases e)
  · rintro ⟨_, vs, e⟩; rw [hd] at e; cases e
theorem not_frozen_cell {o : Obj} {v : Option Value} (hd : o.data = .cell v) : ¬ Frozen o ∧ ¬ ExcLike o := by
  refine ⟨?_, ?_⟩
  · rintro (⟨_, vs, n, e⟩ | ⟨n, _, _, vs, e⟩) <;> (rw [hd] at e; cases e)
  · rintro ⟨_, vs, e⟩; rw [hd] at e; cases e
theorem Heap.Ns.notFrozen {a : Addr} {m : Str → Option Value} (hn : h.Ns a m) : ∀ o, h.get? a = some o → ¬ Frozen o ∧ ¬ ExcLike o := fun o ho => by
  obtain ⟨o', es, ep, ho', hd, _⟩ := hn
  rw [ho'] at ho; cases ho
  exact not_frozen_dict hd
theorem Heap.IsCell.notFrozen {a : Addr} {v : Option Value} (hn : h.IsCell a v) : ∀ o, h.get? a = some o → ¬ Frozen o ∧ ¬ ExcLike o := fun o ho => by
  obtain ⟨o', ho', hd⟩ := hn
  rw [ho'] at ho; cases ho
  exact not_frozen_cell hd

/-- each name has a place of its own -/
noncomputable def VarsOk (vars : List (Str × Nat)) : Prop := ∀ x i y j, (x, i) ∈ vars → (y, j) ∈ vars → (x = y ↔ i = j)
noncomputable def Sc.put (f : Sc) (i : Nat) (v : MV) : Sc := { f with ρ := f.ρ.set i v }

/-- a local name is bound -/
theorem Inv.setLocal {rest : List Sc} {x : Str} {i : Nat} {v : MV} {cv : Value} {m : Str → Option Value} (I : Inv h₀ (f :: rest) ι μ h) (V : VarsOk f.vars) (hx : (x, i) ∈ f.vars) (hk : f.env.kindOf x = some .local)
    (hm : h.Ns f.env.locals m) (hm' : h'.Ns f.env.locals (fun y => if y = x then some cv else m y)) (hs : Heap.SameBut f.env.locals h h') (r : Rel h₀ ι h v cv) :
    Inv h₀ (f.put i v :: rest) ι μ h' ∧ Keep h h' := by
  have K : Keep h h' := Keep.but hs (Heap.Ns.notFrozen hm)
  have mu : ∀ m', h.Ns f.env.locals m' → m' = m := fun m' hn => by
    obtain ⟨o, es, ep, ho, hd, _, hf⟩ := hm
    obtain ⟨o', es', ep', ho', hd', _, hf'⟩ := hn
    rw [ho] at ho'; cases ho'; rw [hd] at hd'; cases hd'
    funext z; rw [← hf z, ← hf' z]
  refine ⟨⟨⟨fun b o e => ?_, I.hp.len, I.hp.nd, I.hp.new, fun k xs hk => ?_⟩, fun g hg => ?_, ?_, ?_⟩, K⟩
  · have hne : b ≠ f.env.locals := by
      rintro rfl
      rw [(I.nw f List.mem_cons_self).1] at e; cases e
    exact (hs.2 b hne).trans (I.hp.base b o e)
  · obtain ⟨a, vs, n, e1, e2, e3⟩ := I.hp.at_ k xs hk
    exact ⟨a, vs, n, e1, (hs.2 a (Ne.symm (ns_ne_list hm e2))).trans e2, e3.keep K⟩
  · rcases List.mem_cons.mp hg with rfl | hg
    · have S := I.sc f List.mem_cons_self
      refine ⟨⟨_, hm', fun y j u hy hky hu => ?_⟩, fun y j hy hky => ?_, fun c hcm => let ⟨ov, hc⟩ := S.all c hcm; ⟨ov, hc.sameBut hs (cell_ne_ns hc hm)⟩⟩
      · by_cases q : j = i
        · subst q
          have : y = x := (V y j x j hy hx).mpr rfl
          subst this
          simp only [Sc.put, Rho.set, if_true] at hu
          cases hu
          exact ⟨cv, by simp, r.keep K⟩
        · have hyx : y ≠ x := fun e => q ((V y j x i hy hx).mp e)
          simp only [Sc.put, Rho.set, q, if_false] at hu
          obtain ⟨m', hn, hl⟩ := S.loc
          obtain rfl := mu m' hn
          obtain ⟨cw, e, r'⟩ := hl y j u hy hky hu
          exact ⟨cw, by simp [hyx, e], r'.keep K⟩
      · obtain ⟨c, ov, e, hc, hr⟩ := S.cel y j hy hky
        refine ⟨c, ov, e, hc.sameBut hs (cell_ne_ns hc hm), fun u hu => ?_⟩
        have q : j ≠ i := fun q => by
          subst q
          have : y = x := (V y j x j hy hx).mpr rfl
          subst this
          have hky' : f.env.kindOf y = some .cell := hky
          rw [hk] at hky'; cases hky'
        simp only [Sc.put, Rho.set, q, if_false] at hu
        obtain ⟨cw, e', r'⟩ := hr u hu
        exact ⟨cw, e', r'.keep K⟩
    · refine (I.sc g (List.mem_cons_of_mem _ hg)).mono (List.prefix_refl _) K (fun m' hn => hn.sameBut hs ?_) fun c ov _ hc => hc.sameBut hs (cell_ne_ns hc hm)
      exact Ne.symm ((List.pairwise_cons.mp I.ap).1 g hg).1
  · exact List.pairwise_cons.mpr ⟨(List.pairwise_cons.mp I.ap).1, (List.pairwise_cons.mp I.ap).2⟩
  · intro g hg
    rcases List.mem_cons.mp hg with rfl | hg
    · exact I.nw f List.mem_cons_self
    · exact I.nw g (List.mem_cons_of_mem _ hg)

/-- a captured name is bound -/
theorem Inv.setCell {rest : List Sc} {x : Str} {i : Nat} {v : MV} {cv : Value} {c : Addr} {ov : Option Value} (I : Inv h₀ (f :: rest) ι μ h) (V : VarsOk f.vars) (hfr : f.fr = true) (hap : f.env.cells.Pairwise fun x y => x.2 ≠ y.2) (hx : (x, i) ∈ f.vars) (hk : f.env.kindOf x = some .cell)
    (hlk : f.env.cells.lookup x = some c) (hm : h.IsCell c ov) (hm' : h'.IsCell c (some cv)) (hs : Heap.SameBut c h h') (r : Rel h₀ ι h v cv) :
    Inv h₀ (f.put i v :: rest) ι μ h' ∧ Keep h h' := by
  have K : Keep h h' := Keep.but hs (Heap.IsCell.notFrozen hm)
  have hcm : c ∈ f.env.cells.map (·.2) := List.mem_map.mpr ⟨_, mem_of_lookup hlk, rfl⟩
  refine ⟨⟨⟨fun b o e => ?_, I.hp.len, I.hp.nd, I.hp.new, fun k xs hk => ?_⟩, fun g hg => ?_, ?_, ?_⟩, K⟩
  · have hne : b ≠ c := by
      rintro rfl
      rw [(I.nw f List.mem_cons_self).2 b hcm] at e; cases e
    exact (hs.2 b hne).trans (I.hp.base b o e)
  · obtain ⟨a, vs, n, e1, e2, e3⟩ := I.hp.at_ k xs hk
    exact ⟨a, vs, n, e1, (hs.2 a (Ne.symm (cell_ne_list hm e2))).trans e2, e3.keep K⟩
  · rcases List.mem_cons.mp hg with rfl | hg
    · have S := I.sc f List.mem_cons_self
      obtain ⟨m, hn, hl⟩ := S.loc
      refine ⟨⟨m, hn.sameBut hs (Ne.symm (cell_ne_ns hm hn)), fun y j u hy hky hu => ?_⟩, fun y j hy hky => ?_, fun c' hcm' => ?_⟩
      · have q : j ≠ i := fun q => by
          subst q
          have : y = x := (V y j x j hy hx).mpr rfl
          subst this
          have hky' : f.env.kindOf y = some .local := hky
          rw [hk] at hky'; cases hky'
        simp only [Sc.put, Rho.set, q, if_false] at hu
        obtain ⟨cw, e, r'⟩ := hl y j u hy hky hu
        exact ⟨cw, e, r'.keep K⟩
      · by_cases q : j = i
        · subst q
          have : y = x := (V y j x j hy hx).mpr rfl
          subst this
          refine ⟨c, some cv, hlk, hm', fun u hu => ?_⟩
          simp only [Sc.put, Rho.set, if_true] at hu
          cases hu
          exact ⟨cv, rfl, r.keep K⟩
        · obtain ⟨c', ov', e, hc, hr⟩ := S.cel y j hy hky
          have hyx : y ≠ x := fun e => q ((V y j x i hy hx).mp e)
          have hcc : c' ≠ c := fun e' => hyx (name_of_addr hap (mem_of_lookup e) (e' ▸ mem_of_lookup hlk))
          refine ⟨c', ov', e, hc.sameBut hs hcc, fun u hu => ?_⟩
          simp only [Sc.put, Rho.set, q, if_false] at hu
          obtain ⟨cw, e', r'⟩ := hr u hu
          exact ⟨cw, e', r'.keep K⟩
      · by_cases q : c' = c
        · exact ⟨_, q ▸ hm'⟩
        · obtain ⟨ov', hc'⟩ := S.all c' hcm'
          exact ⟨ov', hc'.sameBut hs q⟩
    · refine (I.sc g (List.mem_cons_of_mem _ hg)).mono (List.prefix_refl _) K (fun m' hn => hn.sameBut hs (Ne.symm (cell_ne_ns hm hn))) fun c' ov' hc' hc => hc.sameBut hs fun q => ?_
      subst q
      exact ((List.pairwise_cons.mp I.ap).1 g hg).2 hfr _ hcm hc'
  · exact List.pairwise_cons.mpr ⟨(List.pairwise_cons.mp I.ap).1, (List.pairwise_cons.mp I.ap).2⟩
  · intro g hg
    rcases List.mem_cons.mp hg with rfl | hg
    · exact I.nw f List.mem_cons_self
    · exact I.nw g (List.mem_cons_of_mem _ hg)
end
end Mine

set_option linter.unusedVariables false
namespace Mine
open PySem

inductive Out (α : Type) where
  | ok (a : α) (μ : MH)
  | exc (c : Str) (μ : MH)
  | stuck

noncomputable def Out.bind {α β : Type} : Out α → (α → MH → Out β) → Out β
  | .ok a μ, f => f a μ
  | .exc c μ, _ => .exc c μ
  | .stuck, _ => .stuck

@[simp] theorem Out.bind_ok {α β : Type} (a : α) (μ : MH) (f : α → MH → Out β) : (Out.ok a μ).bind f = f a μ := (rfl)
@[simp] theorem Out.bind_exc {α β : Type} (c : Str) (μ : MH) (f : α → MH → Out β) : (Out.exc c μ : Out α).bind f = .exc c μ := (rfl)
@[simp] theorem Out.bind_stuck {α β : Type} (f : α → MH → Out β) : (Out.stuck : Out α).bind f = .stuck := (rfl)

/-- the meaning of an expression -/
abbrev D := Rho → MH → Out MV
inductive Fl where
  | next
  | brk
  | ret (v : MV)
/-- the meaning of a block -/
abbrev DS := Rho → MH → Out (Fl × Rho)

structure Cx where
  prog : Program
  w : World
  h₀ : Heap
  mg : Str → Option Value
  mb : Str → Option Value

structure CxOk (C : Cx) : Prop where
  g : C.h₀.Ns mainGlobals C.mg
  b : C.h₀.Ns builtinsNs C.mb
  lim : C.h₀.NoLimit
  dig : ∃ mc, C.h₀.Ns cStatics mc ∧ mc "sys.int_max_str_digits" = none

structure Sg where
  names : List (Str × NameKind)
  vars : List (Str × Nat)
  fr : Bool

structure SgOk (sg : Sg) (f : Sc) : Prop where
  names : f.env.scope.names = sg.names
  kind : f.env.scope.kind = .function
  vars : f.vars = sg.vars
  fr : f.fr = sg.fr
  gl : f.env.globals = mainGlobals
  bl : f.env.builtins = builtinsNs
  cap : f.fr = true → f.env.cells.Pairwise fun x y => x.2 ≠ y.2

theorem SgOk.kindOf {sg : Sg} {f : Sc} (x : SgOk sg f) (n : Str) : f.env.kindOf n = sg.names.lookup n := by
  unfold Env.kindOf; rw [x.names]

noncomputable def topL : List Sc → Option Addr
  | [] => none
  | f :: r => if f.fr then some f.env.locals else topL r
noncomputable def StkOk : List Sc → Prop
  | [] => True
  | f :: r => f.env.frame = topL (f :: r) ∧ f.env.scope.kind = .function ∧ StkOk r

structure AOk (q : Bool) (n : Nat) (fs : List Sc) (A : Around) : Prop where
  frames : A.frames = some ((fs.filter (·.fr)).map (·.env))
  depth : A.depth + n < recursionLimit
  units : A.units + 20 * n + 60 < cLine
  hand : q = true → A.handled = none
  guards : A.guards = some []
  stk : StkOk fs
  top : fs = [] ∨ (topL fs).isSome = true

theorem AOk.mono {q q' : Bool} {n n' : Nat} {fs : List Sc} {A : Around} (x : AOk q n fs A) (hn : n' ≤ n) (hq : q' = true → q = true) : AOk q' n' fs A :=
  ⟨x.frames, by have := x.depth; omega, by have := x.units; omega, fun e => x.hand (hq e), x.guards, x.stk, x.top⟩

/-- the state went on -/
structure Go (C : Cx) (ι : List Addr) (s : Shared) (fs : List Sc) (ι₁ : List Addr) (μ₁ : MH) (s₁ : Shared) : Prop where
  sh : ∃ h tk, s₁ = { s with heap := h, toks := tk }
  pre : ι <+: ι₁
  inv : Inv C.h₀ fs ι₁ μ₁ s₁.heap
  keep : Keep s.heap s₁.heap

theorem Go.refl {C : Cx} {ι : List Addr} {s : Shared} {fs : List Sc} {μ : MH} (I : Inv C.h₀ fs ι μ s.heap) : Go C ι s fs ι μ s := ⟨⟨_, _, rfl⟩, List.prefix_refl _, I, .refl _⟩
theorem Go.trans {C : Cx} {ι ι₁ ι₂ : List Addr} {s s₁ s₂ : Shared} {fs fs' : List Sc} {μ₁ μ₂ : MH} (x : Go C ι s fs ι₁ μ₁ s₁) (y : Go C ι₁ s₁ fs' ι₂ μ₂ s₂) : Go C ι s fs' ι₂ μ₂ s₂ := by
  obtain ⟨h, tk, e⟩ := x.sh
  obtain ⟨h', tk', e'⟩ := y.sh
  exact ⟨⟨h', tk', by rw [e', e]⟩, x.pre.trans y.pre, y.inv, x.keep.trans y.keep⟩
theorem Go.toks {C : Cx} {ι ι₁ : List Addr} {s s₁ : Shared} {fs : List Sc} {μ₁ : MH} (x : Go C ι s fs ι₁ μ₁ s₁) (tk : Nat) : Go C ι s fs ι₁ μ₁ { s₁ with toks := tk } := by
  obtain ⟨h, tk', e⟩ := x.sh
  exact ⟨⟨h, tk, by rw [e]⟩, x.pre, x.inv, x.keep⟩

/-- the classes whose exceptions are never raised while another one is handled -/
noncomputable def plainC (c : Str) : Bool := !(c == Str.ofString "NoText")
/-- the fields of an exception's object -/
structure VsOk (c : Str) (vs : Array Value) : Prop where
  sz : 4 < vs.size
  cx : plainC c = true → vs[2]? = some .none
/-- an own exception on its way -/
structure Fly (C : Cx) (c : Str) (e : Value) (h : Heap) : Prop where
  it : ∃ a oe vs, e = .ref a ∧ C.h₀.get? a = none ∧ h.get? a = some oe ∧ (∃ k, ClsAt C.h₀ c k ∧ oe.cls = .ref k) ∧ oe.dict = none ∧ oe.data = .fields vs ∧ VsOk c vs ∧
    (vs[1]? = some .none ∨ ∃ T oT ts, vs[1]? = some (.ref T) ∧ C.h₀.get? T = none ∧ T ≠ a ∧ h.get? T = some oT ∧ oT.cls = .type "traceback" ∧ oT.data = .fields ts ∧ 3 < ts.size)

section
variable (C : Cx) (ι : List Addr) (s : Shared) (fs : List Sc)
inductive EPost (o : Out MV) (x : Value) (s₁ : Shared) : Prop
  | mk (v : MV) (μ₁ : MH) (ι₁ : List Addr) (e : o = .ok v μ₁) (g : Go C ι s fs ι₁ μ₁ s₁) (r : Rel C.h₀ ι₁ s₁.heap v x) : EPost o x s₁
inductive XPost {α : Type} (o : Out α) (e : Value) (s₁ : Shared) : Prop
  | mk (c : Str) (μ₁ : MH) (ι₁ : List Addr) (e1 : o = .exc c μ₁) (g : Go C ι s fs ι₁ μ₁ s₁) (f : Fly C c e s₁.heap) : XPost o e s₁
inductive TPost (o : Out MV) (b : Bool) (s₁ : Shared) : Prop
  | mk (μ₁ : MH) (ι₁ : List Addr) (e : o = .ok (.bool b) μ₁) (g : Go C ι s fs ι₁ μ₁ s₁) : TPost o b s₁
end

/-- the model's run of a tree does what the meaning says -/
noncomputable def ESound (C : Cx) (q : Bool) (n : Nat) (sg : Sg) (e : Expr) (f : D) : Prop :=
  ∀ (A : Around) (s : Shared) (sc : Sc) (rest : List Sc) (ι : List Addr) (μ : MH), SgOk sg sc → AOk q n (sc :: rest) A → Inv C.h₀ (sc :: rest) ι μ s.heap → f sc.ρ μ ≠ .stuck →
    wpAny (model C.prog C.w) A (eval e sc.env) (EPost C ι s (sc :: rest) (f sc.ρ μ)) (XPost C ι s (sc :: rest) (f sc.ρ μ)) s
/-- .. as a test (its value is a bool) -/
noncomputable def TSound (C : Cx) (q : Bool) (n : Nat) (sg : Sg) (e : Expr) (f : D) : Prop :=
  ∀ (A : Around) (s : Shared) (sc : Sc) (rest : List Sc) (ι : List Addr) (μ : MH), SgOk sg sc → AOk q n (sc :: rest) A → Inv C.h₀ (sc :: rest) ι μ s.heap → f sc.ρ μ ≠ .stuck → (∀ v μ', f sc.ρ μ = .ok v μ' → ∃ b, v = .bool b) →
    wpAny (model C.prog C.w) A (isTrue e sc.env (eval e sc.env)) (TPost C ι s (sc :: rest) (f sc.ρ μ)) (XPost C ι s (sc :: rest) (f sc.ρ μ)) s
/-- .. of several expressions in a row -/
abbrev DL := Rho → MH → Out (List MV)
inductive LPost (C : Cx) (ι : List Addr) (s : Shared) (fs : List Sc) (o : Out (List MV)) (xs : List Value) (s₁ : Shared) : Prop
  | mk (vs : List MV) (μ₁ : MH) (ι₁ : List Addr) (e : o = .ok vs μ₁) (g : Go C ι s fs ι₁ μ₁ s₁) (r : RelAll C.h₀ ι₁ s₁.heap vs xs) : LPost C ι s fs o xs s₁

section
variable {C : Cx} {ι ι₁ : List Addr} {s s₁ : Shared} {fs : List Sc} {μ₁ : MH}
theorem EPost.after {o : Out MV} {x : Value} {s₂ : Shared} (g : Go C ι s fs ι₁ μ₁ s₁) (p : EPost C ι₁ s₁ fs o x s₂) : EPost C ι s fs o x s₂ := by
  obtain ⟨v, μ₂, ι₂, e, g', r⟩ := p
  exact ⟨v, μ₂, ι₂, e, g.trans g', r⟩
theorem XPost.after {α : Type} {o : Out α} {x : Value} {s₂ : Shared} (g : Go C ι s fs ι₁ μ₁ s₁) (p : XPost C ι₁ s₁ fs o x s₂) : XPost C ι s fs o x s₂ := by
  obtain ⟨v, μ₂, ι₂, e, g', r⟩ := p
  exact ⟨v, μ₂, ι₂, e, g.trans g', r⟩
theorem TPost.after {o : Out MV} {x : Bool} {s₂ : Shared} (g : Go C ι s fs ι₁ μ₁ s₁) (p : TPost C ι₁ s₁ fs o x s₂) : TPost C ι s fs o x s₂ := by
  obtain ⟨μ₂, ι₂, e, g'⟩ := p
  exact ⟨μ₂, ι₂, e, g.trans g'⟩
theorem XPost.bind {α β : Type} {o : Out α} {f : α → MH → Out β} {x : Value} (p : XPost C ι s fs o x s₁) : XPost C ι s fs (o.bind f) x s₁ := by
  obtain ⟨c, μ₂, ι₂, e, g', r⟩ := p
  exact ⟨c, μ₂, ι₂, by rw [e]; rfl, g', r⟩
end

/-- an operation on two values at hand -/
noncomputable def Op2 (C : Cx) (q : Bool) (n : Nat) (t : Value → Value → Sem Value) (f : MV → MV → MH → Out MV) : Prop :=
  ∀ (A : Around) (s : Shared) (fs : List Sc) (ι : List Addr) (μ : MH) (a b : MV) (x y : Value), AOk q n fs A → Inv C.h₀ fs ι μ s.heap → Rel C.h₀ ι s.heap a x → Rel C.h₀ ι s.heap b y → f a b μ ≠ .stuck →
    wpAny (model C.prog C.w) A (t x y) (EPost C ι s fs (f a b μ)) (XPost C ι s fs (f a b μ)) s
noncomputable def Op1 (C : Cx) (q : Bool) (n : Nat) (t : Value → Sem Value) (f : MV → MH → Out MV) : Prop :=
  ∀ (A : Around) (s : Shared) (fs : List Sc) (ι : List Addr) (μ : MH) (a : MV) (x : Value), AOk q n fs A → Inv C.h₀ fs ι μ s.heap → Rel C.h₀ ι s.heap a x → f a μ ≠ .stuck →
    wpAny (model C.prog C.w) A (t x) (EPost C ι s fs (f a μ)) (XPost C ι s fs (f a μ)) s
noncomputable def OpL (C : Cx) (q : Bool) (n : Nat) (t : List Value → Sem Value) (f : List MV → MH → Out MV) : Prop :=
  ∀ (A : Around) (s : Shared) (fs : List Sc) (ι : List Addr) (μ : MH) (a : List MV) (x : List Value), AOk q n fs A → Inv C.h₀ fs ι μ s.heap → RelAll C.h₀ ι s.heap a x → f a μ ≠ .stuck →
    wpAny (model C.prog C.w) A (t x) (EPost C ι s fs (f a μ)) (XPost C ι s fs (f a μ)) s

section
variable {C : Cx} {q : Bool} {n : Nat} {sg : Sg}

theorem bind_ne {α β : Type} {o : Out α} {f : α → MH → Out β} (h : o.bind f ≠ .stuck) : o ≠ .stuck := by rintro rfl; exact h rfl

/-- first one tree, then with its value another -/
theorem then_ {β : Type} {A : Around} {s : Shared} {sc : Sc} {rest : List Sc} {ι : List Addr} {μ : MH} {e : Expr} {f : D} {g : MV → MH → Out β} {Q : Value → Shared → Prop}
    (he : ESound C q n sg e f) (hs : SgOk sg sc) (hA : AOk q n (sc :: rest) A) (hI : Inv C.h₀ (sc :: rest) ι μ s.heap) (hne : (f sc.ρ μ).bind g ≠ .stuck)
    (k : ∀ v μ₁ ι₁ x s₁, f sc.ρ μ = .ok v μ₁ → Go C ι s (sc :: rest) ι₁ μ₁ s₁ → Rel C.h₀ ι₁ s₁.heap v x → g v μ₁ ≠ .stuck → Q x s₁) :
    wpAny (model C.prog C.w) A (eval e sc.env) Q (XPost C ι s (sc :: rest) ((f sc.ρ μ).bind g)) s := by
  refine wpAny_mono (he A s sc rest ι μ hs hA hI (bind_ne hne)) (fun x s₁ p => ?_) fun x s₁ p => p.bind
  obtain ⟨v, μ₁, ι₁, e1, g1, r1⟩ := p
  refine k v μ₁ ι₁ x s₁ e1 g1 r1 fun e2 => hne ?_
  rw [e1]; exact e2

noncomputable def dConst (v : MV) : D := fun _ μ => .ok v μ
theorem snd_int (i : Int) (k : Nat) (pos : Pos) : ESound C q n sg (.Constant (.int i) k pos) (dConst (.int i)) := fun A s sc rest ι μ _ _ hI _ =>
  wpAny_Constant_int ⟨.int i, μ, ι, rfl, (Go.refl hI).toks _, .int i _⟩
end
end Mine

set_option linter.unusedVariables false
namespace Mine
open PySem

section
variable {C : Cx} {q : Bool} {n : Nat} {sg : Sg}

theorem snd_str (x : Str) (k : Nat) (pos : Pos) : ESound C q n sg (.Constant (.str x) k pos) (dConst (.str x)) := fun A s sc rest ι μ _ _ hI _ =>
  wpAny_Constant_str ⟨.str x, μ, ι, rfl, (Go.refl hI).toks _, .str x _⟩
theorem snd_bool (b : Bool) (k : Nat) (pos : Pos) : ESound C q n sg (.Constant (.bool b) k pos) (dConst (.bool b)) := fun A s sc rest ι μ _ _ hI _ =>
  wpAny_Constant_bool ⟨.bool b, μ, ι, rfl, Go.refl hI, .bool b⟩
theorem snd_none (k : Nat) (pos : Pos) : ESound C q n sg (.Constant .none k pos) (dConst .none) := fun A s sc rest ι μ _ _ hI _ =>
  wpAny_Constant_none ⟨.none, μ, ι, rfl, Go.refl hI, .none⟩

noncomputable def dVar (i : Nat) : D := fun ρ μ => match ρ i with | some v => .ok v μ | none => .stuck
theorem snd_var {x : Str} {i : Nat} {pos : Pos} (hx : (x, i) ∈ sg.vars) (hk : sg.names.lookup x = some .local ∨ sg.names.lookup x = some .cell) (hd : (x == ("__debug__" : Str)) = false) :
    ESound C q n sg (.Name x pos) (dVar i) := fun A s sc rest ι μ hs hA hI hne => by
  cases hv : sc.ρ i with
  | none => exact absurd (by unfold dVar; first | (rw [hv]; done) | (rw [hv]; rfl)) hne
  | some v =>
    have S := hI.sc sc List.mem_cons_self
    have hx' : (x, i) ∈ sc.vars := by rw [hs.vars]; exact hx
    refine wpAny_Name ?_ hd
    rcases hk with hk | hk
    · obtain ⟨m, hm, hl⟩ := S.loc
      obtain ⟨cv, e, r⟩ := hl x i v hx' ((hs.kindOf x).trans hk) hv
      exact wpAny_loadName_local hs.kind ((hs.kindOf x).trans hk) hm e ⟨v, μ, ι, by unfold dVar; first | (rw [hv]; done) | (rw [hv]; rfl), Go.refl hI, r⟩
    · obtain ⟨c, ov, e, hc, hr⟩ := S.cel x i hx' ((hs.kindOf x).trans hk)
      obtain ⟨cv, rfl, r⟩ := hr v hv
      exact wpAny_loadName_cell hs.kind ((hs.kindOf x).trans hk) e hc ⟨v, μ, ι, by unfold dVar; first | (rw [hv]; done) | (rw [hv]; rfl), Go.refl hI, r⟩

/-- a name of the module or of the builtins -/
theorem name_glob (CO : CxOk C) {x : Str} {pos : Pos} {cv : Value} {A : Around} {s : Shared} {sc : Sc} {rest : List Sc} {ι : List Addr} {μ : MH} {E : Value → Shared → Prop} {Q : Value → Shared → Prop}
    (hs : SgOk sg sc) (hI : Inv C.h₀ (sc :: rest) ι μ s.heap) (hk : sg.names.lookup x = some .globalImplicit) (hv : C.mg x = some cv ∨ (C.mg x = none ∧ C.mb x = some cv)) (hd : (x == ("__debug__" : Str)) = false) (h : Q cv s) :
    wpAny (model C.prog C.w) A (eval (.Name x pos) sc.env) Q E s := by
  refine Calls.Name_function_global hs.kind ((hs.kindOf x).trans hk) ?_ hd
  rcases hv with hv | ⟨h1, h2⟩
  · exact Calls.loadGlobal_global (by rw [hs.gl]; exact CO.g.keeps hI.hp.base) hv h
  · exact Calls.loadGlobal_builtin (by rw [hs.gl]; exact CO.g.keeps hI.hp.base) h1 (by rw [hs.bl]; exact CO.b.keeps hI.hp.base) h2 h

theorem snd_gint (CO : CxOk C) {x : Str} {pos : Pos} {i : Int} (hk : sg.names.lookup x = some .globalImplicit) (hv : ∃ t, C.mg x = some (.int i t)) (hd : (x == ("__debug__" : Str)) = false) :
    ESound C q n sg (.Name x pos) (dConst (.int i)) := fun A s sc rest ι μ hs hA hI hne => by
  obtain ⟨t, e⟩ := hv
  exact name_glob CO hs hI hk (.inl e) hd ⟨.int i, μ, ι, rfl, Go.refl hI, .int i t⟩
theorem snd_gstr (CO : CxOk C) {x : Str} {pos : Pos} {y : Str} (hk : sg.names.lookup x = some .globalImplicit) (hv : ∃ t, C.mg x = some (.str y t)) (hd : (x == ("__debug__" : Str)) = false) :
    ESound C q n sg (.Name x pos) (dConst (.str y)) := fun A s sc rest ι μ hs hA hI hne => by
  obtain ⟨t, e⟩ := hv
  exact name_glob CO hs hI hk (.inl e) hd ⟨.str y, μ, ι, rfl, Go.refl hI, .str y t⟩

/-! two parts and an operation -/
noncomputable def dBin (g : MV → MV → MH → Out MV) (fl fr : D) : D := fun ρ μ => (fl ρ μ).bind fun a μ => (fr ρ μ).bind fun b μ => g a b μ

theorem two_ {l r : Expr} {fl fr : D} {g : MV → MV → MH → Out MV} {t : Value → Value → Sem Value} (hl : ESound C q n sg l fl) (hr : ESound C q n sg r fr) (ho : Op2 C q n t g)
    {A : Around} {s : Shared} {sc : Sc} {rest : List Sc} {ι : List Addr} {μ : MH} (hs : SgOk sg sc) (hA : AOk q n (sc :: rest) A) (hI : Inv C.h₀ (sc :: rest) ι μ s.heap) (hne : dBin g fl fr sc.ρ μ ≠ .stuck) :
    wpAny (model C.prog C.w) A (eval l sc.env) (fun a s₁ => wpAny (model C.prog C.w) A (eval r sc.env) (fun b s₂ => wpAny (model C.prog C.w) A (t a b) (EPost C ι s (sc :: rest) (dBin g fl fr sc.ρ μ)) (XPost C ι s (sc :: rest) (dBin g fl fr sc.ρ μ)) s₂)
      (XPost C ι s (sc :: rest) (dBin g fl fr sc.ρ μ)) s₁) (XPost C ι s (sc :: rest) (dBin g fl fr sc.ρ μ)) s := by
  refine then_ hl hs hA hI hne fun a μ₁ ι₁ x s₁ e1 g1 r1 hne1 => ?_
  have E1 : dBin g fl fr sc.ρ μ = (fr sc.ρ μ₁).bind fun b μ => g a b μ := by unfold dBin; first | (rw [e1]; done) | (rw [e1]; rfl)
  rw [E1]
  refine wpAny_mono (then_ hr hs hA g1.inv hne1 (Q := fun b s₂ => wpAny (model C.prog C.w) A (t x b) (EPost C ι s (sc :: rest) ((fr sc.ρ μ₁).bind fun b μ => g a b μ)) (XPost C ι s (sc :: rest) ((fr sc.ρ μ₁).bind fun b μ => g a b μ)) s₂) fun b μ₂ ι₂ y s₂ e2 g2 r2 hne2 => ?_) (fun _ _ p => p) fun e s₂ p => p.after g1
  have E2 : ((fr sc.ρ μ₁).bind fun b μ => g a b μ) = g a b μ₂ := by simp only [e2, Out.bind_ok]
  rw [E2]
  exact wpAny_mono (ho A s₂ (sc :: rest) ι₂ μ₂ a b x y hA g2.inv (r1.mono g2.pre g2.keep) r2 hne2) (fun z s₃ p => p.after (g1.trans g2)) fun z s₃ p => p.after (g1.trans g2)

theorem snd_bin {l r : Expr} {op : Operator} {pos : Pos} {fl fr : D} {g : MV → MV → MH → Out MV} (hl : ESound C q n sg l fl) (hr : ESound C q n sg r fr) (ho : Op2 C q n (binaryOp op) g) :
    ESound C q n sg (.BinOp l op r pos) (dBin g fl fr) := fun A s sc rest ι μ hs hA hI hne =>
  wpAny_BinOp (two_ hl hr ho hs hA hI hne)

theorem snd_cmp {l r : Expr} {op : CmpOp} {pos : Pos} {fl fr : D} {g : MV → MV → MH → Out MV} (hl : ESound C q n sg l fl) (hr : ESound C q n sg r fr) (ho : Op2 C q n (compareOp op) g) (hm : behindInMarks op r = false) :
    ESound C q n sg (.Compare l [op] [r] pos) (dBin g fl fr) := fun A s sc rest ι μ hs hA hI hne =>
  wpAny_Compare1 (two_ hl hr ho hs hA hI hne) hm

theorem truthy_post {C : Cx} {ι : List Addr} {s : Shared} {fs : List Sc} {o : Out MV} {A : Around} {E : Value → Shared → Prop} {x : Value} {s₁ : Shared} (p : EPost C ι s fs o x s₁) (hb : ∀ v μ', o = .ok v μ' → ∃ b, v = .bool b) :
    wpAny (model C.prog C.w) A (truthy x) (TPost C ι s fs o) E s₁ := by
  obtain ⟨v, μ₁, ι₁, e, g, r⟩ := p
  obtain ⟨b, rfl⟩ := hb v μ₁ e
  obtain rfl := r.bool_inv
  exact wpAny_truthy_bool ⟨μ₁, ι₁, e, g⟩

theorem tst_cmp {l r : Expr} {op : CmpOp} {pos : Pos} {fl fr : D} {g : MV → MV → MH → Out MV} (hl : ESound C q n sg l fl) (hr : ESound C q n sg r fr) (ho : Op2 C q n (compareOp op) g) (hm : behindInMarks op r = false) :
    TSound C q n sg (.Compare l [op] [r] pos) (dBin g fl fr) := fun A s sc rest ι μ hs hA hI hne hb => by
  refine wpAny_isTrue_Compare1 (wpAny_mono (two_ hl hr ho hs hA hI hne) (fun a s₁ h₁ => wpAny_mono h₁ (fun b s₂ h₂ => wpAny_mono h₂ (fun c s₃ p => ?_) fun _ _ p => p) fun _ _ p => p) fun _ _ p => p) hm
  exact truthy_post p hb

theorem tst_val {e : Expr} {f : D} (he : ESound C q n sg e f) (hi : ∀ env, isTrue e env (eval e env) = (do let v ← eval e env; standAt e.pos; holding [v] (truthy v))) : TSound C q n sg e f := fun A s sc rest ι μ hs hA hI hne hb => by
  refine wpAny_isTrue_value (wpAny_mono (he A s sc rest ι μ hs hA hI hne) (fun x s₁ p => truthy_post p hb) fun _ _ p => p) (hi _)

/-! not -/
noncomputable def dNot (f : D) : D := fun ρ μ => (f ρ μ).bind fun v μ => match v with | .bool b => .ok (.bool (!b)) μ | _ => .stuck
theorem snd_not {e : Expr} {pos : Pos} {f : D} (he : ESound C q n sg e f) : ESound C q n sg (.UnaryOp .Not e pos) (dNot f) := fun A s sc rest ι μ hs hA hI hne => by
  refine wpAny_UnaryOp (then_ he hs hA hI hne fun v μ₁ ι₁ x s₁ e1 g1 r1 hne1 => ?_)
  cases v with
  | bool b =>
    obtain rfl := r1.bool_inv
    exact not_value (wpAny_truthy_bool ⟨.bool (!b), μ₁, ι₁, by unfold dNot; first | (rw [e1]; done) | (rw [e1]; rfl), g1, .bool _⟩)
  | _ => exact absurd rfl hne1
theorem tst_not {e : Expr} {pos : Pos} {f : D} (he : TSound C q n sg e f) : TSound C q n sg (.UnaryOp .Not e pos) (dNot f) := fun A s sc rest ι μ hs hA hI hne hb => by
  have hne1 : f sc.ρ μ ≠ .stuck := bind_ne hne
  refine wpAny_isTrue_Not (wpAny_mono (he A s sc rest ι μ hs hA hI hne1 fun v μ' e => ?_) (fun b s₁ p => ?_) fun x s₁ p => p.bind)
  · cases v with
    | bool b => exact ⟨b, rfl⟩
    | _ => exact absurd (by unfold dNot; first | (rw [e]; done) | (rw [e]; rfl)) hne
  · obtain ⟨μ₁, ι₁, e1, g⟩ := p
    exact ⟨μ₁, ι₁, by unfold dNot; first | (rw [e1]; done) | (rw [e1]; rfl), g⟩

/-! and, or -/
noncomputable def dAnd (f g : D) : D := fun ρ μ => (f ρ μ).bind fun v μ => match v with | .bool true => g ρ μ | .bool false => .ok (.bool false) μ | _ => .stuck
noncomputable def dOr (f g : D) : D := fun ρ μ => (f ρ μ).bind fun v μ => match v with | .bool false => g ρ μ | .bool true => .ok (.bool true) μ | _ => .stuck
noncomputable def BSound (C : Cx) (q : Bool) (n : Nat) (sg : Sg) (op : BoolOp) (es : List Expr) (f : D) : Prop :=
  ∀ (A : Around) (s : Shared) (sc : Sc) (rest : List Sc) (ι : List Addr) (μ : MH) (pos : Pos), SgOk sg sc → AOk q n (sc :: rest) A → Inv C.h₀ (sc :: rest) ι μ s.heap → f sc.ρ μ ≠ .stuck →
    wpAny (model C.prog C.w) A (boolOp pos op (evalEach es sc.env)) (EPost C ι s (sc :: rest) (f sc.ρ μ)) (XPost C ι s (sc :: rest) (f sc.ρ μ)) s
noncomputable def BTSound (C : Cx) (q : Bool) (n : Nat) (sg : Sg) (op : BoolOp) (es : List Expr) (f : D) : Prop :=
  ∀ (A : Around) (s : Shared) (sc : Sc) (rest : List Sc) (ι : List Addr) (μ : MH), SgOk sg sc → AOk q n (sc :: rest) A → Inv C.h₀ (sc :: rest) ι μ s.heap → f sc.ρ μ ≠ .stuck → (∀ v μ', f sc.ρ μ = .ok v μ' → ∃ b, v = .bool b) →
    wpAny (model C.prog C.w) A (allTrue op es sc.env) (TPost C ι s (sc :: rest) (f sc.ρ μ)) (XPost C ι s (sc :: rest) (f sc.ρ μ)) s
theorem bs_one {op : BoolOp} {e : Expr} {f : D} (he : ESound C q n sg e f) : BSound C q n sg op [e] f := fun A s sc rest ι μ pos hs hA hI hne => he A s sc rest ι μ hs hA hI hne
theorem bs_and {e e' : Expr} {es : List Expr} {f g : D} (he : ESound C q n sg e f) (hg : BSound C q n sg .And (e' :: es) g) : BSound C q n sg .And (e :: e' :: es) (dAnd f g) := fun A s sc rest ι μ pos hs hA hI hne => by
  show wpAny _ A (eval e sc.env >>= fun v => standAt pos >>= fun _ => holding [v] (truthy v) >>= fun t => match BoolOp.And, t with | .And, false | .Or, true => pure v | _, _ => boolOp pos .And (evalEach (e' :: es) sc.env)) _ _ s
  refine wpAny_bind (then_ he hs hA hI hne fun v μ₁ ι₁ x s₁ e1 g1 r1 hne1 => wpAny_bind (wpAny_standAt (wpAny_bind (wpAny_holding ?_))))
  cases v with
  | bool b =>
    obtain rfl := r1.bool_inv
    refine wpAny_truthy_bool ?_
    cases b with
    | false => exact wpAny_pure ⟨.bool false, μ₁, ι₁, by unfold dAnd; first | (rw [e1]; done) | (rw [e1]; rfl), g1, .bool _⟩
    | true =>
      have E : dAnd f g sc.ρ μ = g sc.ρ μ₁ := by unfold dAnd; first | (rw [e1]; done) | (rw [e1]; rfl)
      show wpAny _ A (boolOp pos .And (evalEach (e' :: es) sc.env)) _ _ s₁
      rw [E]
      exact wpAny_mono (hg A s₁ sc rest ι₁ μ₁ pos hs hA g1.inv hne1) (fun _ _ p => p.after g1) fun _ _ p => p.after g1
  | _ => exact absurd rfl hne1
theorem bs_or {e e' : Expr} {es : List Expr} {f g : D} (he : ESound C q n sg e f) (hg : BSound C q n sg .Or (e' :: es) g) : BSound C q n sg .Or (e :: e' :: es) (dOr f g) := fun A s sc rest ι μ pos hs hA hI hne => by
  show wpAny _ A (eval e sc.env >>= fun v => standAt pos >>= fun _ => holding [v] (truthy v) >>= fun t => match BoolOp.Or, t with | .And, false | .Or, true => pure v | _, _ => boolOp pos .Or (evalEach (e' :: es) sc.env)) _ _ s
  refine wpAny_bind (then_ he hs hA hI hne fun v μ₁ ι₁ x s₁ e1 g1 r1 hne1 => wpAny_bind (wpAny_standAt (wpAny_bind (wpAny_holding ?_))))
  cases v with
  | bool b =>
    obtain rfl := r1.bool_inv
    refine wpAny_truthy_bool ?_
    cases b with
    | true => exact wpAny_pure ⟨.bool true, μ₁, ι₁, by unfold dOr; first | (rw [e1]; done) | (rw [e1]; rfl), g1, .bool _⟩
    | false =>
      have E : dOr f g sc.ρ μ = g sc.ρ μ₁ := by unfold dOr; first | (rw [e1]; done) | (rw [e1]; rfl)
      show wpAny _ A (boolOp pos .Or (evalEach (e' :: es) sc.env)) _ _ s₁
      rw [E]
      exact wpAny_mono (hg A s₁ sc rest ι₁ μ₁ pos hs hA g1.inv hne1) (fun _ _ p => p.after g1) fun _ _ p => p.after g1
  | _ => exact absurd rfl hne1
theorem snd_boolop {op : BoolOp} {es : List Expr} {pos : Pos} {f : D} (h : BSound C q n sg op es f) : ESound C q n sg (.BoolOp op es pos) f := fun A s sc rest ι μ hs hA hI hne => h A s sc rest ι μ pos hs hA hI hne

theorem bt_one {op : BoolOp} {e : Expr} {f : D} (he : TSound C q n sg e f) : BTSound C q n sg op [e] f := fun A s sc rest ι μ hs hA hI hne hb => by
  cases op with
  | And =>
    refine wpAny_allTrue_And_cons (wpAny_mono (he A s sc rest ι μ hs hA hI hne hb) (fun b s₁ p => ?_) fun _ _ p => p)
    cases b
    · exact p
    · exact wpAny_allTrue_And_nil p
  | Or =>
    refine wpAny_allTrue_Or_cons (wpAny_mono (he A s sc rest ι μ hs hA hI hne hb) (fun b s₁ p => ?_) fun _ _ p => p)
    cases b
    · exact wpAny_allTrue_Or_nil p
    · exact p
theorem bt_and {e e' : Expr} {es : List Expr} {f g : D} (he : TSound C q n sg e f) (hg : BTSound C q n sg .And (e' :: es) g) : BTSound C q n sg .And (e :: e' :: es) (dAnd f g) := fun A s sc rest ι μ hs hA hI hne hb => by
  have hne1 : f sc.ρ μ ≠ .stuck := bind_ne hne
  refine wpAny_allTrue_And_cons (wpAny_mono (he A s sc rest ι μ hs hA hI hne1 fun v μ' e => ?_) (fun b s₁ p => ?_) fun x s₁ p => p.bind)
  · cases v with
    | bool b => exact ⟨b, rfl⟩
    | _ => exact absurd (by unfold dAnd; first | (rw [e]; done) | (rw [e]; rfl)) hne
  · obtain ⟨μ₁, ι₁, e1, g1⟩ := p
    cases b with
    | false => exact ⟨μ₁, ι₁, by unfold dAnd; first | (rw [e1]; done) | (rw [e1]; rfl), g1⟩
    | true =>
      have E : dAnd f g sc.ρ μ = g sc.ρ μ₁ := by unfold dAnd; first | (rw [e1]; done) | (rw [e1]; rfl)
      rw [E] at hne hb ⊢
      exact wpAny_mono (hg A s₁ sc rest ι₁ μ₁ hs hA g1.inv hne hb) (fun _ _ p => p.after g1) fun _ _ p => p.after g1
theorem bt_or {e e' : Expr} {es : List Expr} {f g : D} (he : TSound C q n sg e f) (hg : BTSound C q n sg .Or (e' :: es) g) : BTSound C q n sg .Or (e :: e' :: es) (dOr f g) := fun A s sc rest ι μ hs hA hI hne hb => by
  have hne1 : f sc.ρ μ ≠ .stuck := bind_ne hne
  refine wpAny_allTrue_Or_cons (wpAny_mono (he A s sc rest ι μ hs hA hI hne1 fun v μ' e => ?_) (fun b s₁ p => ?_) fun x s₁ p => p.bind)
  · cases v with
    | bool b => exact ⟨b, rfl⟩
    | _ => exact absurd (by unfold dOr; first | (rw [e]; done) | (rw [e]; rfl)) hne
  · obtain ⟨μ₁, ι₁, e1, g1⟩ := p
    cases b with
    | true => exact ⟨μ₁, ι₁, by unfold dOr; first | (rw [e1]; done) | (rw [e1]; rfl), g1⟩
    | false =>
      have E : dOr f g sc.ρ μ = g sc.ρ μ₁ := by unfold dOr; first | (rw [e1]; done) | (rw [e1]; rfl)
      rw [E] at hne hb ⊢
      exact wpAny_mono (hg A s₁ sc rest ι₁ μ₁ hs hA g1.inv hne hb) (fun _ _ p => p.after g1) fun _ _ p => p.after g1
theorem tst_boolop {op : BoolOp} {es : List Expr} {pos : Pos} {f : D} (h : BTSound C q n sg op es f) : TSound C q n sg (.BoolOp op es pos) f := fun A s sc rest ι μ hs hA hI hne hb => wpAny_isTrue_BoolOp (h A s sc rest ι μ hs hA hI hne hb)

/-! a if t else b -/
noncomputable def dIf (t a b : D) : D := fun ρ μ => (t ρ μ).bind fun v μ => match v with | .bool true => a ρ μ | .bool false => b ρ μ | _ => .stuck
theorem snd_ifexp {t a b : Expr} {pos : Pos} {ft fa fb : D} (ht : TSound C q n sg t ft) (ha : ESound C q n sg a fa) (hb : ESound C q n sg b fb) : ESound C q n sg (.IfExp t a b pos) (dIf ft fa fb) := fun A s sc rest ι μ hs hA hI hne => by
  have hne1 : ft sc.ρ μ ≠ .stuck := bind_ne hne
  refine wpAny_IfExp (wpAny_mono (ht A s sc rest ι μ hs hA hI hne1 fun v μ' e => ?_) (fun c s₁ p => ?_) fun x s₁ p => p.bind)
  · cases v with
    | bool b => exact ⟨b, rfl⟩
    | _ => exact absurd (by unfold dIf; first | (rw [e]; done) | (rw [e]; rfl)) hne
  · obtain ⟨μ₁, ι₁, e1, g1⟩ := p
    cases c with
    | true =>
      have E : dIf ft fa fb sc.ρ μ = fa sc.ρ μ₁ := by unfold dIf; first | (rw [e1]; done) | (rw [e1]; rfl)
      rw [E] at hne ⊢
      exact wpAny_mono (ha A s₁ sc rest ι₁ μ₁ hs hA g1.inv hne) (fun _ _ p => p.after g1) fun _ _ p => p.after g1
    | false =>
      have E : dIf ft fa fb sc.ρ μ = fb sc.ρ μ₁ := by unfold dIf; first | (rw [e1]; done) | (rw [e1]; rfl)
      rw [E] at hne ⊢
      exact wpAny_mono (hb A s₁ sc rest ι₁ μ₁ hs hA g1.inv hne) (fun _ _ p => p.after g1) fun _ _ p => p.after g1

/-! several in a row -/
noncomputable def LSound (C : Cx) (q : Bool) (n : Nat) (sg : Sg) (es : List Expr) (f : DL) : Prop :=
  ∀ (A : Around) (s : Shared) (sc : Sc) (rest : List Sc) (ι : List Addr) (μ : MH), SgOk sg sc → AOk q n (sc :: rest) A → Inv C.h₀ (sc :: rest) ι μ s.heap → f sc.ρ μ ≠ .stuck →
    wpAny (model C.prog C.w) A (spliced (es.map fun e => (false, eval e sc.env))) (fun xs s₁ => xs.length = es.length ∧ LPost C ι s (sc :: rest) (f sc.ρ μ) xs s₁) (XPost C ι s (sc :: rest) (f sc.ρ μ)) s
noncomputable def dNil : DL := fun _ μ => .ok [] μ
noncomputable def dCons (f : D) (g : DL) : DL := fun ρ μ => (f ρ μ).bind fun v μ => (g ρ μ).bind fun vs μ => .ok (v :: vs) μ
theorem snds_nil : LSound C q n sg [] dNil := fun A s sc rest ι μ hs hA hI hne => Calls.spliced_nil ⟨rfl, [], μ, ι, rfl, Go.refl hI, .nil⟩
theorem snds_cons {e : Expr} {es : List Expr} {f : D} {g : DL} (he : ESound C q n sg e f) (hg : LSound C q n sg es g) : LSound C q n sg (e :: es) (dCons f g) := fun A s sc rest ι μ hs hA hI hne => by
  refine Calls.spliced_cons (then_ he hs hA hI hne fun v μ₁ ι₁ x s₁ e1 g1 r1 hne1 => ?_)
  have E1 : (f sc.ρ μ).bind (fun v μ => (g sc.ρ μ).bind fun vs μ => .ok (v :: vs) μ) = (g sc.ρ μ₁).bind fun vs μ => .ok (v :: vs) μ := by rw [e1]; rfl
  have E2 : dCons f g sc.ρ μ = (g sc.ρ μ₁).bind fun vs μ => .ok (v :: vs) μ := E1
  rw [E2]
  refine wpAny_mono (hg A s₁ sc rest ι₁ μ₁ hs hA g1.inv (bind_ne hne1)) (fun xs s₂ p => ?_) fun _ _ p => (p.bind).after g1
  obtain ⟨hlen, vs, μ₂, ι₂, e2, g2, r2⟩ := p
  refine ⟨by rw [List.length_cons, List.length_cons, hlen], v :: vs, μ₂, ι₂, by rw [e2]; rfl, g1.trans g2, .cons (r1.mono g2.pre g2.keep) r2⟩

/-- no starred item among them -/
noncomputable def NoStar (es : List Expr) : Prop := ∀ env, starEach es env = es.map fun e => (false, eval e env)
theorem backTo_plain {es : List Expr} (h : NoStar es) (pos : Pos) (env : Env) : backTo pos (starEach es env) = es.map fun e => (false, eval e env) := by
  rw [h env]
  unfold backTo
  rw [List.map_map]
  rfl

noncomputable def dTup (f : DL) : D := fun ρ μ => (f ρ μ).bind fun vs μ => .ok (.tup vs) μ
theorem snd_tuple {es : List Expr} {k : Nat} {pos : Pos} {f : DL} (h : LSound C q n sg es f) (hns : NoStar es) (hl : es.length ≤ sizeLine) : ESound C q n sg (.Tuple es k pos) (dTup f) := fun A s sc rest ι μ hs hA hI hne => by
  refine wpAny_Tuple ?_
  rw [backTo_plain hns]
  refine wpAny_mono (h A s sc rest ι μ hs hA hI (bind_ne hne)) (fun xs s₁ p => ?_) fun _ _ p => p.bind
  obtain ⟨hlen, vs, μ₁, ι₁, e1, g1, r1⟩ := p
  refine ⟨by rw [hlen]; exact hl, .tup vs, μ₁, ι₁, by unfold dTup; first | (rw [e1]; done) | (rw [e1]; rfl), ?_, .tup (IsT.new _ _) (r1.keep (Keep.push _ _))⟩
  obtain ⟨hh, tk, rfl⟩ := g1.sh
  exact ⟨⟨_, _, rfl⟩, g1.pre, g1.inv.push _, g1.keep.trans (Keep.push _ _)⟩

noncomputable def dList (f : DL) : D := fun ρ μ => (f ρ μ).bind fun vs μ => .ok (.lst μ.length) (μ ++ [vs])
theorem Go.list {ι ι₁ : List Addr} {s s₁ : Shared} {fs : List Sc} {μ₁ : MH} (g1 : Go C ι s fs ι₁ μ₁ s₁) {vs : List MV} {xs : List Value} (r : RelAll C.h₀ ι₁ s₁.heap vs xs) :
    Go C ι s fs (ι₁ ++ [s₁.heap.objs.size]) (μ₁ ++ [vs]) { s₁ with heap := s₁.heap.push { cls := .type "list", data := .seq xs.toArray } } ∧ Rel C.h₀ (ι₁ ++ [s₁.heap.objs.size]) (s₁.heap.push { cls := .type "list", data := .seq xs.toArray }) (.lst μ₁.length) (.ref s₁.heap.objs.size) := by
  obtain ⟨hh, tk, rfl⟩ := g1.sh
  refine ⟨⟨⟨_, _, rfl⟩, g1.pre.trans (List.prefix_append ..), g1.inv.newList r, g1.keep.trans (Keep.push _ _)⟩, .lst ?_⟩
  rw [← g1.inv.hp.len]
  simp
theorem snd_list {es : List Expr} {pos : Pos} {f : DL} (h : LSound C q n sg es f) (hns : NoStar es) (hl : es.length ≤ sizeLine) : ESound C q n sg (.List es pos) (dList f) := fun A s sc rest ι μ hs hA hI hne => by
  refine wpAny_List ?_
  rw [backTo_plain hns]
  refine wpAny_mono (h A s sc rest ι μ hs hA hI (bind_ne hne)) (fun xs s₁ p => ?_) fun _ _ p => p.bind
  obtain ⟨hlen, vs, μ₁, ι₁, e1, g1, r1⟩ := p
  obtain ⟨g2, r2⟩ := g1.list r1
  exact ⟨by rw [hlen]; exact hl, .lst μ₁.length, _, _, by unfold dList; first | (rw [e1]; done) | (rw [e1]; rfl), g2, r2⟩
end
end Mine

set_option linter.unusedVariables false
namespace Mine
open PySem

section
variable {C : Cx} {q : Bool} {n : Nat}

/-! + -/
noncomputable def addM : MV → MV → MH → Out MV
  | .int a, .int b, μ => .ok (.int (a + b)) μ
  | .str x, .str y, μ => if x.length + y.length ≤ sizeLine then .ok (.str (x ++ y)) μ else .stuck
  | .tup xs, .tup ys, μ => if xs.length + ys.length ≤ sizeLine then .ok (.tup (xs ++ ys)) μ else .stuck
  | .lst i, .lst j, μ => match μ[i]?, μ[j]? with
    | some xs, some ys => if xs.length + ys.length ≤ sizeLine then .ok (.lst μ.length) (μ ++ [xs ++ ys]) else .stuck
    | _, _ => .stuck
  | _, _, _ => .stuck

theorem addM_lst (i j : Nat) (μ : MH) : addM (.lst i) (.lst j) μ = (match μ[i]?, μ[j]? with | some xs, some ys => if xs.length + ys.length ≤ sizeLine then .ok (.lst μ.length) (μ ++ [xs ++ ys]) else .stuck | _, _ => .stuck) := (rfl)
theorem EPost.same {ι : List Addr} {s : Shared} {fs : List Sc} {μ : MH} {v : MV} {x : Value} {tk : Nat} (hI : Inv C.h₀ fs ι μ s.heap) (r : Rel C.h₀ ι s.heap v x) : EPost C ι s fs (.ok v μ) x { s with toks := tk } :=
  ⟨v, μ, ι, rfl, (Go.refl hI).toks _, r⟩
theorem EPost.here {ι : List Addr} {s : Shared} {fs : List Sc} {μ : MH} {v : MV} {x : Value} (hI : Inv C.h₀ fs ι μ s.heap) (r : Rel C.h₀ ι s.heap v x) : EPost C ι s fs (.ok v μ) x s :=
  ⟨v, μ, ι, rfl, Go.refl hI, r⟩
theorem EPost.tuple {ι : List Addr} {s : Shared} {fs : List Sc} {μ : MH} {xs : List MV} {vs : List Value} (hI : Inv C.h₀ fs ι μ s.heap) (r : RelAll C.h₀ ι s.heap xs vs) :
    EPost C ι s fs (.ok (.tup xs) μ) (.ref s.heap.objs.size) { s with heap := s.heap.push { cls := .type "tuple", data := .seq vs.toArray } } :=
  ⟨.tup xs, μ, ι, rfl, ⟨⟨_, _, rfl⟩, List.prefix_refl _, hI.push _, Keep.push _ _⟩, .tup (IsT.new _ _) (r.keep (Keep.push _ _))⟩
theorem EPost.list {ι : List Addr} {s : Shared} {fs : List Sc} {μ : MH} {xs : List MV} {vs : List Value} (hI : Inv C.h₀ fs ι μ s.heap) (r : RelAll C.h₀ ι s.heap xs vs) :
    EPost C ι s fs (.ok (.lst μ.length) (μ ++ [xs])) (.ref s.heap.objs.size) { s with heap := s.heap.push { cls := .type "list", data := .seq vs.toArray } } := by
  obtain ⟨g, r'⟩ := (Go.refl hI).list r
  exact ⟨.lst μ.length, _, _, rfl, g, r'⟩

theorem op_add : Op2 C q n (binaryOp .Add) addM := fun A s fs ι μ a b x y hA hI ra rb hne => by
  cases a with
  | int i => cases b with
    | int j =>
      obtain ⟨t⟩ := ra.int_inv
      obtain ⟨u⟩ := rb.int_inv
      exact P.add_int (EPost.same hI (.int _ _))
    | _ => exact absurd rfl hne
  | str i => cases b with
    | str j =>
      obtain ⟨t⟩ := ra.str_inv
      obtain ⟨u⟩ := rb.str_inv
      by_cases hl : i.length + j.length ≤ sizeLine
      · refine PyProof.Rows.add_str (fun t' tk => ?_) hl
        have : addM (.str i) (.str j) μ = .ok (.str (i ++ j)) μ := if_pos hl
        rw [this]
        exact EPost.same hI (.str _ _)
      · exact absurd (if_neg hl) hne
    | _ => exact absurd rfl hne
  | tup xs1 => cases b with
    | tup xs2 =>
      obtain ⟨a1, vs1, n1, ht, rt⟩ := ra.tup_inv
      obtain ⟨a2, vs2, n2, hu, ru⟩ := rb.tup_inv
      by_cases hl : xs1.length + xs2.length ≤ sizeLine
      · have e : addM (.tup xs1) (.tup xs2) μ = .ok (.tup (xs1 ++ xs2)) μ := if_pos hl
        rw [e]
        have l1 := rt.length
        have l2 := ru.length
        by_cases h1 : vs1.toArray.isEmpty = true
        · have hv : vs1 = [] := by simpa using h1
          subst hv
          cases rt
          refine concat_meets ⟨_, ht, rfl⟩ ⟨_, hu, rfl⟩ noFill_tuple_add seq_tuple_add F.slot_tuple_add F.entry_tuple_add (F.args_tuple_add_2 _ _) (AutoSeq1.tuple___add___tuple_tuple_0 a1 _ n1 a2 _ n2 h1) ⟨ht, hu, ?_⟩
          exact EPost.here hI (.tup hu ru)
        · by_cases h2 : vs2.toArray.isEmpty = true
          · have hv : vs2 = [] := by simpa using h2
            subst hv
            cases ru
            refine concat_meets ⟨_, ht, rfl⟩ ⟨_, hu, rfl⟩ noFill_tuple_add seq_tuple_add F.slot_tuple_add F.entry_tuple_add (F.args_tuple_add_2 _ _) (AutoSeq1.tuple___add___tuple_tuple_1 a1 _ n1 a2 _ n2 h1 h2) ⟨ht, hu, ?_⟩
            rw [List.append_nil]
            exact EPost.here hI (.tup ht rt)
          · refine P.add_tuple ht hu h1 h2 ?_ (by simpa [l1, l2] using hl)
            have := EPost.tuple hI (rt.append ru)
            simpa using this
      · exact absurd (if_neg hl) hne
    | _ => exact absurd rfl hne
  | lst k1 => cases b with
    | lst k2 =>
      obtain ⟨a1, hk⟩ := ra.lst_inv
      obtain ⟨a2, hj⟩ := rb.lst_inv
      cases e1 : μ[k1]? with
      | none => exact absurd (by rw [addM_lst, e1]) hne
      | some xs1 => cases e2 : μ[k2]? with
        | none => exact absurd (by rw [addM_lst, e1, e2]) hne
        | some xs2 =>
          by_cases hl : xs1.length + xs2.length ≤ sizeLine
          · have e : addM (.lst k1) (.lst k2) μ = .ok (.lst μ.length) (μ ++ [xs1 ++ xs2]) := by rw [addM_lst, e1, e2]; exact if_pos hl
            rw [e]
            obtain ⟨b1, vs1, n1, p1, p2, p3⟩ := hI.hp.at_ k1 xs1 e1
            obtain ⟨b2, vs2, n2, q1, q2, q3⟩ := hI.hp.at_ k2 xs2 e2
            rw [hk] at p1; cases p1
            rw [hj] at q1; cases q1
            have l1 := p3.length
            have l2 := q3.length
            refine P.add_list p2 q2 ?_ (by simpa [l1, l2] using hl)
            have := EPost.list hI (p3.append q3)
            simpa using this
          · exact absurd (by rw [addM_lst, e1, e2]; exact if_neg hl) hne
    | _ => exact absurd rfl hne
  | _ => exact absurd rfl hne

/-! ints alone -/
noncomputable def intM (f : Int → Int → Option MV) : MV → MV → MH → Out MV
  | .int a, .int b, μ => match f a b with | some v => .ok v μ | none => .stuck
  | _, _, _ => .stuck
theorem op_int {t : Value → Value → Sem Value} {f : Int → Int → Option MV}
    (h : ∀ (A : Around) (s : Shared) (i j : Int) (u w : Tok) (v : MV) (E : Value → Shared → Prop) (Q : Value → Shared → Prop), f i j = some v → (∀ (x : Value) (tk : Nat), (∀ (h₀ h : Heap) (ι : List Addr), Rel h₀ ι h v x) → Q x { s with toks := tk }) → wpAny (model C.prog C.w) A (t (.int i u) (.int j w)) Q E s) :
    Op2 C q n t (intM f) := fun A s fs ι μ a b x y hA hI ra rb hne => by
  cases a with
  | int i => cases b with
    | int j =>
      obtain ⟨u⟩ := ra.int_inv
      obtain ⟨w⟩ := rb.int_inv
      have E : intM f (.int i) (.int j) μ = (match f i j with | some v => .ok v μ | none => .stuck) := rfl
      cases e : f i j with
      | none => exact absurd (by rw [E, e]) hne
      | some v =>
        refine h A s i j u w v _ _ e fun z tk hz => ?_
        rw [E, e]
        exact EPost.same hI (hz _ _ _)
    | _ => exact absurd rfl hne
  | _ => exact absurd rfl hne
noncomputable def subM := intM fun a b => some (.int (a - b))
noncomputable def fdivM := intM fun a b => if 0 < b ∧ b < 2 ^ 30 then some (.int (a.fdiv b)) else none
noncomputable def fmodM := intM fun a b => if b = 0 then none else some (.int (a.fmod b))
noncomputable def ltM := intM fun a b => some (.bool (decide (a < b)))
noncomputable def leM := intM fun a b => some (.bool (decide (a ≤ b)))
noncomputable def gtM := intM fun a b => some (.bool (decide (a > b)))
theorem op_sub : Op2 C q n (binaryOp .Sub) subM := op_int fun A s i j u w v E Q e k => by cases e; exact P.sub_int (k _ _ fun _ _ _ => .int _ _)
theorem op_fdiv : Op2 C q n (binaryOp .FloorDiv) fdivM := op_int fun A s i j u w v E Q e k => by
  by_cases hj : 0 < j ∧ j < 2 ^ 30
  · rw [if_pos hj] at e; cases e; exact PyProof.Rows.floordiv_int (by omega) (k _ _ fun _ _ _ => .int _ _) (Or.inl (PyProof.noPylong_small (by omega)))
  · rw [if_neg hj] at e; cases e
theorem op_fmod : Op2 C q n (binaryOp .Mod) fmodM := op_int fun A s i j u w v E Q e k => by
  by_cases hj : j = 0
  · simp [hj] at e
  · simp [hj] at e; subst e; exact PyProof.Rows.mod_int' hj (k _ _ fun _ _ _ => .int _ _)
theorem op_lt : Op2 C q n (compareOp .Lt) ltM := op_int fun A s i j u w v E Q e k => by cases e; exact P.lt_int (k _ s.toks fun _ _ _ => .bool _)
theorem op_le : Op2 C q n (compareOp .LtE) leM := op_int fun A s i j u w v E Q e k => by cases e; exact P.le_int (k _ s.toks fun _ _ _ => .bool _)
theorem op_gt : Op2 C q n (compareOp .Gt) gtM := op_int fun A s i j u w v E Q e k => by cases e; exact P.gt_int (k _ s.toks fun _ _ _ => .bool _)
/-! data as trees -/
noncomputable def toPy (μ : MH) : Nat → MV → Option PyData
  | _, .none => some .none
  | _, .bool b => some (.bool b)
  | _, .int i => some (.int i)
  | _, .str s => some (.str s)
  | d + 1, .tup xs => (xs.mapM (toPy μ d)).map .tuple
  | d + 1, .lst k => match μ[k]? with
    | some xs => (xs.mapM (toPy μ d)).map .list
    | none => none
  | _, _ => none

theorem reads_all {h₀ h : Heap} {ι : List Addr} {μ : MH} {d : Nat} (ih : ∀ v x p, Rel h₀ ι h v x → toPy μ d v = some p → ∃ as, Reads h x p as)
    (xs : List MV) : ∀ (vs : List Value) (ps : List PyData), RelAll h₀ ι h xs vs → xs.mapM (toPy μ d) = some ps → ∃ as, ReadsAll h vs ps as := by
  induction xs with
  | nil =>
    intro vs ps r e
    rw [r.nil_inv]
    cases e; exact ⟨_, .nil⟩
  | cons x xs ih2 =>
    intro vs ps r e
    obtain ⟨v, us, rfl, r1, rs⟩ := r.cons_inv
    simp only [List.mapM_cons, Option.bind_eq_bind, Option.pure_def, Option.bind_eq_some_iff, Option.some.injEq] at e
    obtain ⟨p, e1, ps', e2, rfl⟩ := e
    obtain ⟨as, ra⟩ := ih x _ p r1 e1
    obtain ⟨bs, rb⟩ := ih2 _ ps' rs e2
    exact ⟨_, .cons ra rb⟩

theorem reads_of {h₀ h : Heap} {ι : List Addr} {μ : MH} (H : HpOk h₀ ι μ h) (d : Nat) : ∀ (v : MV) (x : Value) (p : PyData), Rel h₀ ι h v x → toPy μ d v = some p → ∃ as, Reads h x p as := by
  induction d with
  | zero =>
    intro v x p r e
    cases v with
    | none => rw [r.none_inv]; cases e; exact ⟨_, .none⟩
    | bool b => rw [r.bool_inv]; cases e; exact ⟨_, .bool b⟩
    | int i => obtain ⟨t⟩ := r.int_inv; cases e; exact ⟨_, .int i t⟩
    | str i => obtain ⟨t⟩ := r.str_inv; cases e; exact ⟨_, .str i t⟩
    | _ => cases e
  | succ d ih =>
    intro v x p r e
    cases v with
    | none => rw [r.none_inv]; cases e; exact ⟨_, .none⟩
    | bool b => rw [r.bool_inv]; cases e; exact ⟨_, .bool b⟩
    | int i => obtain ⟨t⟩ := r.int_inv; cases e; exact ⟨_, .int i t⟩
    | str i => obtain ⟨t⟩ := r.str_inv; cases e; exact ⟨_, .str i t⟩
    | tup xs =>
      obtain ⟨a, vs, n, ht, rt⟩ := r.tup_inv
      obtain ⟨ps, e1, rfl⟩ := Option.map_eq_some_iff.mp e
      obtain ⟨as, q⟩ := reads_all ih xs _ ps rt e1
      exact ⟨as, .tuple ht rfl rfl (by simpa using q)⟩
    | lst k =>
      obtain ⟨a, hk⟩ := r.lst_inv
      have e' : (match μ[k]? with | some xs => (xs.mapM (toPy μ d)).map PyData.list | none => none) = some p := e
      cases ek : μ[k]? with
      | none => rw [ek] at e'; cases e'
      | some xs =>
        rw [ek] at e'
        obtain ⟨ps, e1, rfl⟩ := Option.map_eq_some_iff.mp e'
        obtain ⟨a, vs, n, p1, p2, p3⟩ := H.at_ k xs ek
        rw [hk] at p1; cases p1
        obtain ⟨as, q⟩ := reads_all ih xs _ ps p3 e1
        exact ⟨_, .list p2 rfl rfl (by simpa using q)⟩
    | _ => cases e

theorem depth_all {μ : MH} {d : Nat} (ih : ∀ v p, toPy μ d v = some p → p.depth ≤ d) : ∀ (xs : List MV) (ps : List PyData), xs.mapM (toPy μ d) = some ps → PyData.depthAll ps ≤ d
  | [], ps, e => by simp at e; subst e; simp [PyData.depthAll]
  | x :: xs, ps, e => by
    simp only [List.mapM_cons, Option.bind_eq_bind, Option.pure_def, Option.bind_eq_some_iff, Option.some.injEq] at e
    obtain ⟨p, e1, ps', e2, rfl⟩ := e
    have h1 := ih x p e1
    have h2 := depth_all ih xs ps' e2
    simp only [PyData.depthAll]
    omega
theorem depth_of {μ : MH} (d : Nat) : ∀ (v : MV) (p : PyData), toPy μ d v = some p → p.depth ≤ d := by
  have h0 : PyData.depth .none = 0 ∧ (∀ b, PyData.depth (.bool b) = 0) ∧ (∀ b, PyData.depth (.int b) = 0) ∧ ∀ b, PyData.depth (.str b) = 0 := ⟨rfl, fun _ => rfl, fun _ => rfl, fun _ => rfl⟩
  obtain ⟨h1, h2, h3, h4⟩ := h0
  induction d with
  | zero =>
    intro v p e
    cases v with
    | none => cases e; rw [h1]; exact Nat.zero_le _
    | bool b => cases e; rw [h2]; exact Nat.zero_le _
    | int i => cases e; rw [h3]; exact Nat.zero_le _
    | str i => cases e; rw [h4]; exact Nat.zero_le _
    | _ => cases e
  | succ d ih =>
    intro v p e
    cases v with
    | none => cases e; rw [h1]; exact Nat.zero_le _
    | bool b => cases e; rw [h2]; exact Nat.zero_le _
    | int i => cases e; rw [h3]; exact Nat.zero_le _
    | str i => cases e; rw [h4]; exact Nat.zero_le _
    | tup xs =>
      obtain ⟨ps, e1, rfl⟩ := Option.map_eq_some_iff.mp e
      have := depth_all ih xs ps e1
      simp only [PyData.depth]; omega
    | lst k =>
      have e' : (match μ[k]? with | some xs => (xs.mapM (toPy μ d)).map PyData.list | none => none) = some p := e
      cases ek : μ[k]? with
      | none => rw [ek] at e'; cases e'
      | some xs =>
        rw [ek] at e'
        obtain ⟨ps, e1, rfl⟩ := Option.map_eq_some_iff.mp e'
        have := depth_all ih xs ps e1
        simp only [PyData.depth]; omega
    | _ => cases e

/-! ==, != -/
noncomputable def eqM (a b : MV) (μ : MH) : Out MV := match toPy μ 8 a, toPy μ 8 b with
  | some p, some p' => if p.canLay0 && p'.canLay0 then .ok (.bool (PyData.eqv p p')) μ else .stuck
  | _, _ => .stuck
noncomputable def neM (a b : MV) (μ : MH) : Out MV := match toPy μ 8 a, toPy μ 8 b with
  | some p, some p' => if p.canLay0 && p'.canLay0 then .ok (.bool (!PyData.eqv p p')) μ else .stuck
  | _, _ => .stuck
theorem op_eq : Op2 C q n (compareOp .Eq) eqM := fun A s fs ι μ a b x y hA hI ra rb hne => by
  cases e1 : toPy μ 8 a with
  | none => exact absurd (by simp [eqM, e1]) hne
  | some p => cases e2 : toPy μ 8 b with
    | none => exact absurd (by simp [eqM, e1, e2]) hne
    | some p' =>
      by_cases hc : (p.canLay0 && p'.canLay0) = true
      · obtain ⟨as, r1⟩ := reads_of hI.hp 8 a x p ra e1
        obtain ⟨bs, r2⟩ := reads_of hI.hp 8 b y p' rb e2
        have hc' := Bool.and_eq_true_iff.mp hc
        have d1 := depth_of 8 a p e1
        have hu := hA.units
        refine SeqAt.compareEq_reads r1 r2 hc'.1 hc'.2 (by omega) ?_
        have : eqM a b μ = .ok (.bool (PyData.eqv p p')) μ := by simp [eqM, e1, e2, hc'.1, hc'.2]
        rw [this]
        exact EPost.here hI (.bool _)
      · exact absurd (by simp only [eqM, e1, e2, hc]; rfl) hne
theorem op_ne : Op2 C q n (compareOp .NotEq) neM := fun A s fs ι μ a b x y hA hI ra rb hne => by
  cases e1 : toPy μ 8 a with
  | none => exact absurd (by simp [neM, e1]) hne
  | some p => cases e2 : toPy μ 8 b with
    | none => exact absurd (by simp [neM, e1, e2]) hne
    | some p' =>
      by_cases hc : (p.canLay0 && p'.canLay0) = true
      · obtain ⟨as, r1⟩ := reads_of hI.hp 8 a x p ra e1
        obtain ⟨bs, r2⟩ := reads_of hI.hp 8 b y p' rb e2
        have hc' := Bool.and_eq_true_iff.mp hc
        have d1 := depth_of 8 a p e1
        have hu := hA.units
        have : neM a b μ = .ok (.bool (!PyData.eqv p p')) μ := by simp [neM, e1, e2, hc'.1, hc'.2]
        rw [this]
        exact SeqAt.neOverData C.prog C.w A _ s x y p p' as bs _ r1 r2 hc'.1 hc'.2 (by omega) (EPost.here hI (.bool _))
      · exact absurd (by simp only [neM, e1, e2, hc]; rfl) hne

/-! in, not in a list or a tuple -/
noncomputable def anyEq (a c : MV) (μ : MH) : Option Bool := match toPy μ 8 a, toPy μ 8 c with
  | some p, some (.list ps) => if p.canLay0 && PyData.canLayAll0 ps then some (ps.any fun y => PyData.eqv y p) else none
  | some p, some (.tuple ps) => if p.canLay0 && PyData.canLayAll0 ps then some (ps.any fun y => PyData.eqv y p) else none
  | _, _ => none
noncomputable def inM (a c : MV) (μ : MH) : Out MV := match anyEq a c μ with | some b => .ok (.bool b) μ | none => .stuck
noncomputable def notInM (a c : MV) (μ : MH) : Out MV := match anyEq a c μ with | some b => .ok (.bool (!b)) μ | none => .stuck
theorem op_in : Op2 C q n (compareOp .In) inM := fun A s fs ι μ a c x y hA hI ra rc hne => by
  cases e : anyEq a c μ with
  | none => exact absurd (by simp [inM, e]) hne
  | some b =>
    have : inM a c μ = .ok (.bool b) μ := by simp [inM, e]
    rw [this]
    have hu := hA.units
    unfold anyEq at e
    split at e
    · rename_i p ps e1 e2
      split at e
      · rename_i hc
        cases e
        obtain ⟨as, r1⟩ := reads_of hI.hp 8 a x p ra e1
        obtain ⟨bs, r2⟩ := reads_of hI.hp 8 c y _ rc e2
        have hc' := Bool.and_eq_true_iff.mp hc
        have d1 := depth_of 8 a p e1
        exact SeqAt.in_list_reads r2 r1 hc'.2 hc'.1 (by omega) (EPost.here hI (.bool _))
      · cases e
    · rename_i p ps e1 e2
      split at e
      · rename_i hc
        cases e
        obtain ⟨as, r1⟩ := reads_of hI.hp 8 a x p ra e1
        obtain ⟨bs, r2⟩ := reads_of hI.hp 8 c y _ rc e2
        have hc' := Bool.and_eq_true_iff.mp hc
        have d1 := depth_of 8 a p e1
        exact SeqAt.in_tuple_reads r2 r1 hc'.2 hc'.1 (by omega) (EPost.here hI (.bool _))
      · cases e
    · cases e
theorem op_notIn : Op2 C q n (compareOp .NotIn) notInM := fun A s fs ι μ a c x y hA hI ra rc hne => by
  cases e : anyEq a c μ with
  | none => exact absurd (by simp [notInM, e]) hne
  | some b =>
    have : notInM a c μ = .ok (.bool (!b)) μ := by simp [notInM, e]
    rw [this]
    have hu := hA.units
    unfold anyEq at e
    split at e
    · rename_i p ps e1 e2
      split at e
      · rename_i hc
        cases e
        obtain ⟨as, r1⟩ := reads_of hI.hp 8 a x p ra e1
        obtain ⟨bs, r2⟩ := reads_of hI.hp 8 c y _ rc e2
        have hc' := Bool.and_eq_true_iff.mp hc
        have d1 := depth_of 8 a p e1
        exact SeqAt.notIn_list_reads r2 r1 hc'.2 hc'.1 (by omega) (EPost.here hI (.bool _))
      · cases e
    · rename_i p ps e1 e2
      split at e
      · rename_i hc
        cases e
        obtain ⟨as, r1⟩ := reads_of hI.hp 8 a x p ra e1
        obtain ⟨bs, r2⟩ := reads_of hI.hp 8 c y _ rc e2
        have hc' := Bool.and_eq_true_iff.mp hc
        have d1 := depth_of 8 a p e1
        exact SeqAt.notIn_tuple_reads r2 r1 hc'.2 hc'.1 (by omega) (EPost.here hI (.bool _))
      · cases e
    · cases e
end
end Mine

set_option linter.unusedVariables false
namespace Mine
open PySem

section
variable {C : Cx} {q : Bool} {n : Nat} {sg : Sg}

/-! items -/
noncomputable def pick {α : Type} (xs : List α) (i : Int) : Option α :=
  if 0 ≤ i ∧ i < 2 ^ 62 then xs[i.toNat]? else if -(2 ^ 62) ≤ i ∧ i < 0 ∧ -(xs.length : Int) ≤ i then xs[(i + xs.length).toNat]? else none
theorem pick_seq {α : Type} {xs : List α} {i : Int} {v : α} (h : pick xs i = some v) : ∃ j, seqIndex? i xs.length = some j ∧ xs[j]? = some v ∧ -(2 ^ 62) ≤ i ∧ i < 2 ^ 62 ∧ (0 ≤ i → j = i.toNat) ∧ (i < 0 → j = (i + xs.length).toNat ∧ -(xs.length : Int) ≤ i) := by
  unfold pick at h
  split at h
  · rename_i hc
    have hl := (List.getElem?_eq_some_iff.mp h).1
    refine ⟨i.toNat, ?_, h, by omega, hc.2, fun _ => rfl, fun q => by omega⟩
    unfold seqIndex?
    simp only [show ¬ i < 0 by omega, if_false]
    rw [if_pos (by simp only [Bool.and_eq_true, decide_eq_true_eq]; omega)]
  · split at h
    · rename_i hc
      refine ⟨(i + xs.length).toNat, seqIndex_neg hc.2.1 hc.2.2, h, hc.1, by omega, fun q => by omega, fun _ => ⟨rfl, hc.2.2⟩⟩
    · cases h
noncomputable def optOut (o : Option MV) (μ : MH) : Out MV := match o with | some v => .ok v μ | none => .stuck
noncomputable def idxM : MV → MV → MH → Out MV
  | .lst k, .int i, μ => match μ[k]? with | some xs => optOut (pick xs i) μ | none => .stuck
  | .tup xs, .int i, μ => optOut (pick xs i) μ
  | .scr ns, .int i, μ => optOut ((pick ns i).map .int) μ
  | _, _, _ => .stuck

theorem idxM_lst (k : Nat) (i : Int) (μ : MH) : idxM (.lst k) (.int i) μ = (match μ[k]? with | some xs => optOut (pick xs i) μ | none => .stuck) := (rfl)
theorem getItem_L {A : Around} {E : Value → Shared → Prop} {s : Shared} {a : Addr} {vs : List Value} {m : Nat} {i : Int} {t : Tok} {j : Nat} {v : Value} {Q : Value → Shared → Prop} (hl : IsL s.heap a vs.toArray m)
    (hj : vs[j]? = some v) (h1 : -(2 ^ 62) ≤ i) (h2 : i < 2 ^ 62) (h3 : 0 ≤ i → j = i.toNat) (h4 : i < 0 → j = (i + vs.length).toNat ∧ -(vs.length : Int) ≤ i) (h : Q v s) : wpAny (model C.prog C.w) A (getItem (.ref a) (.int i t)) Q E s := by
  by_cases h0 : 0 ≤ i
  · exact wpAny_getItem_list hl.isList h0 (by omega) (by have e := h3 h0; subst e; simpa using hj) h
  · exact wpAny_getItem_list_neg hl.isList (by omega) (by have := (h4 (by omega)).2; simpa using this) (by omega) (by have e := (h4 (by omega)).1; subst e; simpa using hj) h

theorem op_idx {value slice : Expr} (hs : ∀ o i, subscripted slice false o i = operate [o, i] (getItem o i)) : Op2 C q n (PyProof.Rows.subscriptTail value slice) idxM := fun A s fs ι μ a b x y hA hI ra rb hne => by
  cases b with
  | int i =>
    obtain ⟨t⟩ := rb.int_inv
    cases a with
    | lst k =>
      obtain ⟨ad, hk⟩ := ra.lst_inv
      cases e1 : μ[k]? with
      | none => exact absurd (by rw [idxM_lst, e1]) hne
      | some xs => cases e2 : pick xs i with
        | none => exact absurd (by rw [idxM_lst, e1]; show optOut (pick xs i) μ = _; rw [e2]; rfl) hne
        | some v =>
          have e : idxM (.lst k) (.int i) μ = .ok v μ := by rw [idxM_lst, e1]; show optOut (pick xs i) μ = _; rw [e2]; rfl
          rw [e]
          obtain ⟨a', vs, m, p1, p2, p3⟩ := hI.hp.at_ k xs e1
          rw [hk] at p1; cases p1
          obtain ⟨j, j1, j2, j3, j4, j5, j6⟩ := pick_seq e2
          obtain ⟨cv, c1, c2⟩ := p3.get j2
          have hl := p3.length
          exact PyProof.Rows.tail_any ⟨_, p2, rfl⟩ slot_list_getitem.lookup (getItem_L p2 c1 j3 j4 j5 (by rw [hl]; exact j6) (EPost.here hI c2)) (hs _ _)
    | tup xs =>
      obtain ⟨ad, vs, m, ht, rt⟩ := ra.tup_inv
      have E : idxM (.tup xs) (.int i) μ = optOut (pick xs i) μ := rfl
      cases e2 : pick xs i with
      | none => exact absurd (by rw [E, e2]; rfl) hne
      | some v =>
        rw [E, e2]
        obtain ⟨j, j1, j2, j3, j4, j5, j6⟩ := pick_seq e2
        obtain ⟨cv, c1, c2⟩ := rt.get j2
        have hl := rt.length
        refine PyProof.Rows.tail_any ⟨_, ht, rfl⟩ F.slot_tuple_getitem.lookup (P.getItem_tuple ht (by omega) (by omega) (by simpa [hl] using j1) (by simpa using c1) (EPost.here hI c2)) (hs _ _)
    | scr ns =>
      obtain ⟨ad, vs, m, hl, hn, hi⟩ := ra.scr_inv
      have E : idxM (.scr ns) (.int i) μ = optOut ((pick ns i).map .int) μ := rfl
      cases e2 : pick ns i with
      | none => exact absurd (by rw [E, e2]; rfl) hne
      | some v =>
        rw [E, e2]
        obtain ⟨j, j1, j2, j3, j4, j5, j6⟩ := pick_seq e2
        obtain ⟨tk, c1⟩ := hi j v j2
        exact PyProof.Rows.tail_any ⟨_, hI.hp.base _ _ hl, rfl⟩ slot_list_getitem.lookup (getItem_L (hI.hp.base _ _ hl) c1 j3 j4 j5 (by rw [hn]; exact j6) (EPost.here hI (.int _ _))) (hs _ _)
    | _ => exact absurd rfl hne
  | _ => cases a <;> exact absurd rfl hne
theorem snd_idx {v i : Expr} {pos : Pos} {fv fi : D} (hv : ESound C q n sg v fv) (hi : ESound C q n sg i fi) (hs : ∀ o j, subscripted i false o j = operate [o, j] (getItem o j)) : ESound C q n sg (.Subscript v i pos) (dBin idxM fv fi) :=
  fun A s sc rest ι μ hsg hA hI hne => PyProof.Rows.Subscript_ (two_ hv hi (op_idx hs) hsg hA hI hne)

/-! cuts of lists and tuples: [a:], [:b] with a, b no less than nought -/
theorem slicePick_nat (items : List Value) (a : Nat) : slicePick items.toArray (some (a : Int)) none none = (items.drop a).toArray := by rw [slicePick_from']
theorem sliceApplied_nn {A : Around} {E : Value → Shared → Prop} {s : Shared} {sl : Addr} {vl vu : Value} {lo hi : Option Int} {m : Nat} {Q : Int × Int × Nat → Shared → Prop} (hs : s.heap.IsSliceOf sl vl vu .none) (pl : IsPart vl lo) (pu : IsPart vu hi)
    (h : Q ((Builtin.Slice.sliceAdjust lo hi 1 (m : Int)).1, 1, Builtin.Slice.slicePlaces (Builtin.Slice.sliceAdjust lo hi 1 (m : Int)).1 (Builtin.Slice.sliceAdjust lo hi 1 (m : Int)).2 1) s) :
    wpAny (model C.prog C.w) A (Builtin.Slice.sliceApplied (.ref sl) (pure (m : Int))) Q E s := by
  obtain ⟨os, hos, hcs, hds⟩ := id hs
  have part : ∀ {v : Value} {o : Option Int} {Q' : Option Int → Shared → Prop}, IsPart v o → Q' o s → wpAny (model C.prog C.w) A (Builtin.Slice.slicePartIndex v) Q' E s := fun hp hq => by
    cases hp with
    | none => exact PyProof.Rows.slicePart_none hq
    | int i t => exact PyProof.Rows.slicePart_int hq
  unfold Builtin.Slice.sliceApplied Builtin.Slice.sliceFields
  refine wpAny_bind (wpAny_bind (wpAny_field hos hds (x := vl) rfl (wpAny_bind (wpAny_field hos hds (x := vu) rfl (wpAny_bind (wpAny_field hos hds (x := .none) rfl (wpAny_pure ?_)))))))
  refine wpAny_bind (PyProof.Rows.slicePart_none ?_)
  show wpAny _ _ (if ((1 : Int) == 0) = true then _ else _) _ _ s
  rw [if_neg (by decide)]
  refine wpAny_bind (part pl (wpAny_bind (part pu (wpAny_bind (wpAny_pure ?_)))))
  exact wpAny_pure h

theorem pick_count (xs : List Value) (a k : Nat) : ((List.range k).filterMap fun (j : Nat) => xs.toArray[((a : Int) + (j : Int) * 1).toNat]?).toArray = ((xs.drop a).take k).toArray := by
  have e : (fun (j : Nat) => xs.toArray[((a : Int) + (j : Int) * 1).toNat]?) = fun j => xs.toArray[a + j]? := by
    funext j
    have : ((a : Int) + (j : Int) * 1).toNat = a + j := by omega
    rw [this]
  rw [e]
  have := pick_run xs.toArray a k
  rw [List.filterMap_map] at this
  exact congrArg List.toArray this

/-- a tuple's cut -/
theorem getItem_T_slice {A : Around} {E : Value → Shared → Prop} {s : Shared} {t sl : Addr} {xs : List Value} {m : Nat} {vl vu : Value} {lo hi : Option Int} {a k : Nat} {Q : Value → Shared → Prop} (ht : IsT s.heap t xs.toArray m) (hs : s.heap.IsSliceOf sl vl vu .none) (pl : IsPart vl lo) (pu : IsPart vu hi)
    (ha : Builtin.Slice.sliceAdjust lo hi 1 (xs.length : Int) = ((a : Int), ((a + k : Nat) : Int))) (hsz : xs.length ≤ sizeLine)
    (h0 : (xs.drop a).take k = xs → Q (.ref t) s)
    (h : Q (.ref s.heap.objs.size) { s with heap := s.heap.push { cls := .type "tuple", data := .seq ((xs.drop a).take k).toArray } }) : wpAny (model C.prog C.w) A (getItem (.ref t) (.ref sl)) Q E s := by
  have hdrop : sizeOk (.seq ((xs.drop a).take k).toArray) := by
    show ((xs.drop a).take k).toArray.size ≤ sizeLine
    rw [List.size_toArray, List.length_take, List.length_drop]
    omega
  have ht' : PyProof.Rows.IsTup s.heap t xs.toArray := ⟨_, ht, rfl, m, rfl⟩
  obtain ⟨os, hos, hcs, hds⟩ := id hs
  have hTs : s.TypeIs (.ref sl) "slice" := ⟨os, hos, hcs⟩
  have hpl : Builtin.Slice.slicePlaces (a : Int) ((a + k : Nat) : Int) 1 = k := by
    unfold Builtin.Slice.slicePlaces
    simp only [show (1 : Int) > 0 by decide, if_true, Int.ediv_one]
    split <;> omega
  unfold getItem
  try with_reducible refine wpAny_holding ?_
  first | refine wpAny_bind (wpAny_pure ?_) | skip
  refine wpAny_bind (wpAny_sequenceKey ht'.typeIs (by decide) ?_)
  refine wpAny_bind (wpAny_callSpecial?_slot (name := Str.ofString "__getitem__") ht'.typeIs PyProof.Rows.slot_tuple_getitem
    (wpAny_call_entry PyProof.Rows.slot_tuple_getitem ht'.typeIs PyProof.Rows.entry_tuple_getitem ?_ (PyProof.Rows.args_tuple_getitem _ _)))
  show wpAny _ _ (Builtin.Tuple.tupleItemsOf (.ref t) >>= _) _ _ s
  refine wpAny_bind (PyProof.Rows.tupleItemsOf_ ht' ?_)
  refine wpAny_bind (wpAny_typeOf hTs ?_)
  rw [if_pos (by decide)]
  refine wpAny_bind (sliceApplied_nn (m := xs.toArray.size) hs pl pu ?_)
  rw [List.size_toArray, ha, hpl]
  show wpAny _ _ (if ((a : Int) == 0 && (1 : Int) == 1 && k == xs.toArray.size) = true then _ else _) _ _ s
  by_cases hw : ((a : Int) == 0 && (1 : Int) == 1 && k == xs.toArray.size) = true
  · rw [if_pos hw]
    have hw' : a = 0 ∧ k = xs.length := by
      simp only [Bool.and_eq_true, beq_iff_eq, List.size_toArray] at hw
      omega
    have e : (xs.drop a).take k = xs := by rw [hw'.1, hw'.2]; simp
    unfold Builtin.Tuple.tupleIsExact
    refine wpAny_bind (wpAny_bind (wpAny_typeOf ht'.typeIs (wpAny_pure ?_)))
    rw [if_pos (by decide)]
    refine wpAny_bind (wpAny_rule ?_)
    first
      | exact wpAny_pure ⟨_, rfl, wpAny_pure (h0 e)⟩
      | exact wpAny_bind (wpAny_pure (wpAny_pure ⟨_, rfl, wpAny_pure (h0 e)⟩))
  · rw [if_neg hw, pick_count xs a k]
    first
      | exact wpAny_bind (m := Builtin.Tuple.tupleExact _) (wpAny_newObj_type (wpAny_pure ⟨_, rfl, wpAny_pure h⟩) hdrop)
      | exact wpAny_bind (m := Builtin.Tuple.tupleExact _) (wpAny_newObj_type (wpAny_bind (wpAny_pure (wpAny_pure ⟨_, rfl, wpAny_pure h⟩))) hdrop)
      | exact wpAny_bind (wpAny_bind (m := Builtin.Tuple.tupleExact _) (wpAny_newObj_type (wpAny_pure (wpAny_pure ⟨_, rfl, wpAny_pure h⟩)) hdrop))
      | exact wpAny_bind (wpAny_bind (m := Builtin.Tuple.tupleExact _) (wpAny_newObj_type (wpAny_pure ⟨_, rfl, wpAny_pure h⟩) hdrop))

theorem adjust_from (m a : Nat) : Builtin.Slice.sliceAdjust (some (a : Int)) none 1 (m : Int) = (((min a m : Nat) : Int), ((min a m + (m - min a m) : Nat) : Int)) := by
  unfold Builtin.Slice.sliceAdjust
  simp only [show ¬ ((1 : Int) < 0) by decide, show ¬ ((a : Int) < 0) by omega, if_false]
  congr 1 <;> omega
theorem drop_min {α : Type} (xs : List α) (a : Nat) : (xs.drop (min a xs.length)).take (xs.length - min a xs.length) = xs.drop a := by
  rw [List.take_of_length_le (by simp)]
  by_cases h : a ≤ xs.length
  · rw [Nat.min_eq_left h]
  · rw [Nat.min_eq_right (by omega), List.drop_length, List.drop_of_length_le (by omega)]
noncomputable def cutFrom : MV → MV → MH → Out MV
  | .lst k, .int a, μ => match μ[k]? with
    | some xs => if 0 ≤ a ∧ xs.length ≤ sizeLine then .ok (.lst μ.length) (μ ++ [xs.drop a.toNat]) else .stuck
    | none => .stuck
  | .tup xs, .int a, μ => if 0 ≤ a ∧ xs.length ≤ sizeLine then .ok (.tup (xs.drop a.toNat)) μ else .stuck
  | _, _, _ => .stuck
theorem cutFrom_at (k : Nat) (a : Int) (μ : MH) : cutFrom (.lst k) (.int a) μ = (match μ[k]? with | some xs => if 0 ≤ a ∧ xs.length ≤ sizeLine then .ok (.lst μ.length) (μ ++ [xs.drop a.toNat]) else .stuck | none => .stuck) := (rfl)
/-- a slice made, then read -/
theorem cut_ {value slice : Expr} {A : Around} {s : Shared} {fs : List Sc} {ι : List Addr} {μ : MH} {a : MV} {x y1 y2 : Value} {lo hi : Option Int} {f : Nat → Nat × Nat} {o : Out MV} {g : ∀ {α : Type}, List α → List α}
    (hg : ∀ {α : Type} (xs : List α), (xs.drop (f xs.length).1).take (f xs.length).2 = g xs) (hr : ∀ {h₀ h : Heap} {ι : List Addr} {xs : List MV} {vs : List Value}, RelAll h₀ ι h xs vs → RelAll h₀ ι h (g xs) (g vs))
    (hadj : ∀ m : Nat, Builtin.Slice.sliceAdjust lo hi 1 (m : Int) = (((f m).1 : Int), (((f m).1 + (f m).2 : Nat) : Int))) (hlst : ∀ vs : List Value, slicePick vs.toArray lo hi none = (g vs).toArray)
    (hs : ∀ o i, subscripted slice false o i = operate [i, o] (getItem o i)) (hI : Inv C.h₀ fs ι μ s.heap) (ra : Rel C.h₀ ι s.heap a x) (p1 : IsPart y1 lo) (p2 : IsPart y2 hi)
    (ho : (∃ k xs, a = .lst k ∧ μ[k]? = some xs ∧ xs.length ≤ sizeLine ∧ o = .ok (.lst μ.length) (μ ++ [g xs])) ∨ (∃ xs, a = .tup xs ∧ xs.length ≤ sizeLine ∧ o = .ok (.tup (g xs)) μ)) :
    wpAny (model C.prog C.w) A (PyProof.Rows.subscriptTail value slice x (.ref s.heap.objs.size)) (EPost C ι s fs o) (XPost C ι s fs o) { s with heap := s.heap.push { cls := .type "slice", data := .fields #[y1, y2, .none] } } := by
  have g0 : Go C ι s fs ι μ { s with heap := s.heap.push { cls := .type "slice", data := .fields #[y1, y2, .none] } } := ⟨⟨_, _, rfl⟩, List.prefix_refl _, hI.push _, Keep.push _ _⟩
  have hsl := Heap.IsSliceOf.new s.heap y1 y2 .none
  rcases ho with ⟨k, xs, rfl, ek, hl, rfl⟩ | ⟨xs, rfl, hl, rfl⟩
  · obtain ⟨ad, hk⟩ := ra.lst_inv
    · obtain ⟨a', vs, m, q1, q2, q3⟩ := g0.inv.hp.at_ k xs ek
      rw [hk] at q1; cases q1
      have hlen := q3.length
      refine PyProof.Rows.tail_any ⟨_, q2, rfl⟩ slot_list_getitem.lookup (wpAny_getItem_list_slice q2.isList hsl p1 p2 .none (by simp) ?_ (by simpa [hlen] using hl)) (hs _ _)
      rw [hlst]
      exact (EPost.list g0.inv (hr q3)).after g0
  · obtain ⟨ad, vs, m, ht, rt⟩ := ra.tup_inv
    · have hlen := rt.length
      have ht' := IsT.push ht { cls := .type "slice", data := .fields #[y1, y2, .none] }
      refine PyProof.Rows.tail_any ⟨_, ht', rfl⟩ F.slot_tuple_getitem.lookup (getItem_T_slice (a := (f vs.length).1) (k := (f vs.length).2) ht' hsl p1 p2 (hadj _) (by rw [hlen]; exact hl) (fun e => ?_) ?_) (hs _ _)
      · rw [hg] at e
        have r' := hr rt
        rw [e] at r'
        exact EPost.after g0 (EPost.here g0.inv (.tup ht' (r'.keep (Keep.push _ _))))
      · rw [hg]
        exact (EPost.tuple g0.inv ((hr rt).keep (Keep.push _ _))).after g0

theorem snd_from {v a : Expr} {p pos : Pos} {fv fa : D} (hv : ESound C q n sg v fv) (ha : ESound C q n sg a fa) : ESound C q n sg (.Subscript v (.Slice (some a) none none p) pos) (dBin cutFrom fv fa) := fun A s sc rest ι μ hs hA hI hne => by
  refine PyProof.Rows.Subscript_ (then_ hv hs hA hI hne fun w μ₁ ι₁ x s₁ e1 g1 r1 hne1 => ?_)
  have E1 : dBin cutFrom fv fa sc.ρ μ = (fa sc.ρ μ₁).bind fun b μ => cutFrom w b μ := by unfold dBin; first | (rw [e1]; done) | (rw [e1]; rfl)
  rw [E1]
  refine wpAny_Slice ?_
  rw [evalPart_some]
  refine wpAny_mono (then_ ha hs hA g1.inv hne1 (Q := fun y s₂ => wpAny (model C.prog C.w) A (evalPart none sc.env) (fun u s₂ => wpAny (model C.prog C.w) A (evalPart none sc.env) (fun st s₃ =>
      wpAny (model C.prog C.w) A (PyProof.Rows.subscriptTail v (.Slice (some a) none none p) x (.ref s₃.heap.objs.size)) (EPost C ι s (sc :: rest) ((fa sc.ρ μ₁).bind fun b μ => cutFrom w b μ)) (XPost C ι s (sc :: rest) ((fa sc.ρ μ₁).bind fun b μ => cutFrom w b μ)) { s₃ with heap := s₃.heap.push { cls := .type "slice", data := .fields #[y, u, st] } }) (XPost C ι s (sc :: rest) ((fa sc.ρ μ₁).bind fun b μ => cutFrom w b μ)) s₂) (XPost C ι s (sc :: rest) ((fa sc.ρ μ₁).bind fun b μ => cutFrom w b μ)) s₂) fun b μ₂ ι₂ y s₂ e2 g2 r2 hne2 => ?_) (fun _ _ p => p) fun e s₂ p => p.after g1
  rw [evalPart_none]
  refine wpAny_pure (wpAny_pure ?_)
  have E2 : ((fa sc.ρ μ₁).bind fun b μ => cutFrom w b μ) = cutFrom w b μ₂ := by simp only [e2, Out.bind_ok]
  rw [E2]
  cases b with
  | int i =>
    obtain ⟨t⟩ := r2.int_inv
    by_cases hi : 0 ≤ i
    · obtain ⟨j, rfl⟩ := Int.eq_ofNat_of_zero_le hi
      refine wpAny_mono (cut_ (C := C) (f := fun m => (min j m, m - min j m)) (g := fun xs => xs.drop j) (o := cutFrom w (.int j) μ₂) (fun xs => drop_min xs j) (fun r => r.drop j) (fun m => adjust_from m j) (fun vs => slicePick_nat vs j) (fun _ _ => rfl) g2.inv (r1.mono g2.pre g2.keep) (.int _ t) .none ?_) (fun z s₃ p => p.after (g1.trans g2)) fun z s₃ p => p.after (g1.trans g2)
      cases w with
      | lst k =>
        cases ek : μ₂[k]? with
        | none => exact absurd (by rw [cutFrom_at, ek]) hne2
        | some xs =>
          by_cases hl : 0 ≤ (j : Int) ∧ xs.length ≤ sizeLine
          · exact .inl ⟨k, xs, rfl, ek, hl.2, by rw [cutFrom_at, ek]; exact if_pos hl⟩
          · exact absurd (by rw [cutFrom_at, ek]; exact if_neg hl) hne2
      | tup xs =>
        by_cases hl : 0 ≤ (j : Int) ∧ xs.length ≤ sizeLine
        · exact .inr ⟨xs, rfl, hl.2, if_pos hl⟩
        · exact absurd (if_neg hl) hne2
      | _ => exact absurd rfl hne2
    · exfalso
      apply hne2
      cases w with
      | lst k =>
        cases ek : μ₂[k]? with
        | none => rw [cutFrom_at, ek]
        | some xs => rw [cutFrom_at, ek]; exact if_neg fun h => hi h.1
      | tup xs => exact if_neg fun h => hi h.1
      | _ => rfl
  | _ => cases w <;> exact absurd rfl hne2
end
end Mine

set_option linter.unusedVariables false
namespace Mine
open PySem

section
variable {C : Cx} {q : Bool} {n : Nat} {sg : Sg}

/-! * , **, - , is -/
open Classical in
noncomputable def mulM : MV → MV → MH → Out MV
  | .int a, .int b, μ => if IntMulOk a b then .ok (.int (a * b)) μ else .stuck
  | .lst k, .int j, μ => match μ[k]? with
    | some xs => if 0 ≤ j ∧ j < 2 ^ 62 ∧ xs.length * j.toNat ≤ 2 ^ 24 then .ok (.lst μ.length) (μ ++ [(List.replicate j.toNat xs).flatten]) else .stuck
    | none => .stuck
  | .str x, .int j, μ => if MulOk x j then .ok (.str (Txt.mul x j)) μ else .stuck
  | _, _, _ => .stuck
theorem mulM_lst (k : Nat) (j : Int) (μ : MH) : mulM (.lst k) (.int j) μ = (match μ[k]? with | some xs => if 0 ≤ j ∧ j < 2 ^ 62 ∧ xs.length * j.toNat ≤ 2 ^ 24 then .ok (.lst μ.length) (μ ++ [(List.replicate j.toNat xs).flatten]) else .stuck | none => .stuck) := (rfl)
theorem RelAll.repeat {h₀ h : Heap} {ι : List Addr} {xs : List MV} {vs : List Value} (r : RelAll h₀ ι h xs vs) : ∀ j : Nat, RelAll h₀ ι h (List.replicate j xs).flatten (List.replicate j vs).flatten
  | 0 => .nil
  | j + 1 => by
    rw [List.replicate_succ, List.replicate_succ, List.flatten_cons, List.flatten_cons]
    exact r.append (RelAll.repeat r j)
theorem op_mul : Op2 C q n (binaryOp .Mult) mulM := fun A s fs ι μ a b x y hA hI ra rb hne => by
  cases a with
  | int i => cases b with
    | int j =>
      obtain ⟨t⟩ := ra.int_inv
      obtain ⟨u⟩ := rb.int_inv
      by_cases hm : IntMulOk i j
      · have e : mulM (.int i) (.int j) μ = .ok (.int (i * j)) μ := if_pos hm
        rw [e]
        exact P.mul_int (EPost.same hI (.int _ _)) hm
      · exact absurd (if_neg hm) hne
    | _ => exact absurd rfl hne
  | lst k => cases b with
    | int j =>
      obtain ⟨ad, hk⟩ := ra.lst_inv
      obtain ⟨u⟩ := rb.int_inv
      cases e1 : μ[k]? with
      | none => exact absurd (by rw [mulM_lst, e1]) hne
      | some xs =>
        by_cases hc : 0 ≤ j ∧ j < 2 ^ 62 ∧ xs.length * j.toNat ≤ 2 ^ 24
        · have e : mulM (.lst k) (.int j) μ = .ok (.lst μ.length) (μ ++ [(List.replicate j.toNat xs).flatten]) := by rw [mulM_lst, e1]; exact if_pos hc
          rw [e]
          obtain ⟨a', vs, m, p1, p2, p3⟩ := hI.hp.at_ k xs e1
          rw [hk] at p1; cases p1
          have hl := p3.length
          refine wpAny_binaryOp_repeat_ref (T := "list") (U := "int") (by decide) ⟨_, p2, rfl⟩ (fun s' => typeIs_int s' j u) noFill_list_mul F.fills_int_mul F.slot_int_rmul repeat_list F.slot_int_index.lookup
            (call_meets F.slot_int_rmul (typeIs_int s j u) F.entry_int_rmul (F.args_int_rmul_2 _ _) (int___rmul___int_list j u _ _ m)
              ⟨p2, rfl, ⟨_, p2, rfl⟩, call_meets F.slot_list_mul ⟨_, p2, rfl⟩ F.entry_list_mul (F.args_list_mul_2 _ _)
                (AutoListH.list___mul___list_int_3 _ _ m j u (by simp [Builtin.List.listFitsIndex]; omega) (by simp [hl]; omega) (by simp [Builtin.List.listTooLong, sizeLine, hl]; omega))
                ⟨p2, ?_⟩⟩)
          have := EPost.list hI (p3.repeat j.toNat)
          rw [PyProof.Rows.listMul_foldl_if]
          exact this
        · exact absurd (by rw [mulM_lst, e1]; exact if_neg hc) hne
    | _ => exact absurd rfl hne
  | str x => cases b with
    | int j =>
      obtain ⟨t⟩ := ra.str_inv
      obtain ⟨u⟩ := rb.int_inv
      by_cases hm : MulOk x j
      · have e : mulM (.str x) (.int j) μ = .ok (.str (Txt.mul x j)) μ := if_pos hm
        rw [e]
        exact SB.mul hm fun t' k => EPost.same hI (.str _ _)
      · exact absurd (if_neg hm) hne
    | _ => exact absurd rfl hne
  | _ => exact absurd rfl hne

noncomputable def powM := intM fun a b => if 0 ≤ b ∧ (Builtin.Int.intBits a : Int) * b ≤ 2 ^ 27 then some (.int (a ^ b.toNat)) else none
theorem op_pow : Op2 C q n (binaryOp .Pow) powM := op_int fun A s i j u w v E Q e k => by
  by_cases hj : 0 ≤ j ∧ (Builtin.Int.intBits i : Int) * j ≤ 2 ^ 27
  · rw [if_pos hj] at e; cases e; exact PyProof.Rows.pow_int hj.1 hj.2 (k _ _ fun _ _ _ => .int _ _)
  · rw [if_neg hj] at e; cases e

noncomputable def dNeg (f : D) : D := fun ρ μ => (f ρ μ).bind fun v μ => match v with | .int i => .ok (.int (-i)) μ | _ => .stuck
theorem snd_neg {e : Expr} {pos : Pos} {f : D} (he : ESound C q n sg e f) : ESound C q n sg (.UnaryOp .USub e pos) (dNeg f) := fun A s sc rest ι μ hs hA hI hne => by
  refine wpAny_UnaryOp (then_ he hs hA hI hne fun v μ₁ ι₁ x s₁ e1 g1 r1 hne1 => ?_)
  cases v with
  | int i =>
    obtain ⟨t⟩ := r1.int_inv
    exact P.neg_int ⟨.int (-i), μ₁, ι₁, by unfold dNeg; first | (rw [e1]; done) | (rw [e1]; rfl), g1.toks _, .int _ _⟩
  | _ => exact absurd rfl hne1

noncomputable def MV.isNone : MV → Bool
  | .none => true
  | _ => false
noncomputable def isNoneM (a b : MV) (μ : MH) : Out MV := match b with | .none => .ok (.bool a.isNone) μ | _ => .stuck
theorem rel_isNone {h₀ h : Heap} {ι : List Addr} {v : MV} {x : Value} (r : Rel h₀ ι h v x) : (x == .none) = v.isNone := by cases r <;> rfl
theorem op_isNone : Op2 C q n (compareOp .Is) isNoneM := fun A s fs ι μ a b x y hA hI ra rb hne => by
  cases b with
  | none =>
    obtain rfl := rb.none_inv
    refine is_none ?_
    rw [rel_isNone ra]
    exact EPost.here hI (.bool _)
  | _ => exact absurd rfl hne
/-! methods of lists -/
theorem IsL.upd {h : Heap} {a : Addr} {vs : List Value} {m : Nat} (x : IsL h a vs.toArray m) (f : Array Value → Array Value) (us : List Value) (e : f vs.toArray = us.toArray) : ∃ m', IsL (h.update a (Obj.mapSeq f)) a us.toArray m' :=
  ⟨_, by have := x.update f; rw [e] at this; exact this⟩
/-- a list of ours is changed in place -/
theorem Go.upd {ι ι₁ : List Addr} {s s₁ : Shared} {fs : List Sc} {μ₁ : MH} (g : Go C ι s fs ι₁ μ₁ s₁) {k : Nat} {a : Addr} {vs us : List Value} {m : Nat} {f : Array Value → Array Value} {ys : List MV} (hk : ι₁[k]? = some a) (hl : IsL s₁.heap a vs.toArray m)
    (e : f vs.toArray = us.toArray) (r : RelAll C.h₀ ι₁ s₁.heap ys us) : Go C ι s fs ι₁ (μ₁.set k ys) { s₁ with heap := s₁.heap.update a (Obj.mapSeq f) } := by
  obtain ⟨m', hl'⟩ := IsL.upd hl f us e
  obtain ⟨I, K⟩ := g.inv.setList hk hl hl' (Heap.SameBut.update ..) r
  obtain ⟨hh, tk, rfl⟩ := g.sh
  exact ⟨⟨_, _, rfl⟩, g.pre, I, g.keep.trans K⟩
noncomputable def dAppend (fo fe : D) : D := fun ρ μ => (fo ρ μ).bind fun o μ => match o with
  | .lst k => (fe ρ μ).bind fun v μ => match μ[k]? with
    | some xs => if xs.length ≤ sizeLine then .ok .none (μ.set k (xs ++ [v])) else .stuck
    | none => .stuck
  | _ => .stuck
theorem snd_append {o e : Expr} {apos pos : Pos} {fo fe : D} (ho : ESound C q n sg o fo) (he : ESound C q n sg e fe)
    (hbase : ∀ env, attributeBase o (Str.ofString "append") env (eval o env) = eval o env) (hline : (apos.endLine == pos.line) = true) (hns : NoStar [e]) :
    ESound C q n sg (.Call (.Attribute o (Str.ofString "append") apos) [e] [] pos) (dAppend fo fe) := fun A s sc rest ι μ hs hA hI hne => by
  refine wpAny_Call_method (T := "list") (id := "list.append") (hbase _) (by rw [backTo_plain hns]; rfl) hline F.plainAttrs_list F.slot_list_append F.type_list_append ?_
  refine then_ ho hs hA hI hne fun w μ₁ ι₁ x s₁ e1 g1 r1 hne1 => ?_
  cases w with
  | lst k =>
    obtain ⟨a, hk⟩ := r1.lst_inv
    have hlt : k < μ₁.length := by rw [← g1.inv.hp.len]; exact (List.getElem?_eq_some_iff.mp hk).1
    obtain ⟨a', vs, m, p1, p2, p3⟩ := g1.inv.hp.at_ k (μ₁[k]'hlt) (List.getElem?_eq_getElem hlt)
    rw [hk] at p1; cases p1
    refine ⟨⟨_, p2, rfl⟩, fun b eb => by cases eb; exact ⟨_, p2, rfl⟩, ?_⟩
    rw [backTo_plain hns]
    have E1 : dAppend fo fe sc.ρ μ = (fe sc.ρ μ₁).bind fun v μ => match μ[k]? with
      | some xs => if xs.length ≤ sizeLine then .ok .none (μ.set k (xs ++ [v])) else .stuck
      | none => .stuck := by unfold dAppend; first | (rw [e1]; done) | (rw [e1]; rfl)
    rw [E1]
    refine P.append_list (wpAny_mono (then_ he hs hA g1.inv hne1 (Q := fun v s₂ => ∃ items n, items.size ≤ sizeLine ∧ IsL s₂.heap a items n ∧ EPost C ι s (sc :: rest) ((fe sc.ρ μ₁).bind fun v μ => match μ[k]? with
      | some xs => if xs.length ≤ sizeLine then .ok .none (μ.set k (xs ++ [v])) else .stuck
      | none => .stuck) .none { s₂ with heap := s₂.heap.update a (Obj.mapSeq fun xs => xs.push v) }) fun v μ₂ ι₂ y s₂ e2 g2 r2 hne2 => ?_) (fun _ _ p => p) fun e s₂ p => p.after g1)
    have E2 : ((fe sc.ρ μ₁).bind fun v μ => match μ[k]? with
      | some xs => if xs.length ≤ sizeLine then .ok .none (μ.set k (xs ++ [v])) else .stuck
      | none => .stuck) = (match μ₂[k]? with
      | some xs => if xs.length ≤ sizeLine then .ok .none (μ₂.set k (xs ++ [v])) else .stuck
      | none => .stuck : Out MV) := by simp only [e2, Out.bind_ok]
    rw [E2]
    cases ek : μ₂[k]? with
    | none => rw [ek] at hne2; exact absurd rfl hne2
    | some xs =>
      rw [ek] at hne2
      by_cases hl : xs.length ≤ sizeLine
      · obtain ⟨a', vs', m', p1', p2', p3'⟩ := g2.inv.hp.at_ k xs ek
        have hk2 : ι₂[k]? = some a := by
          obtain ⟨t, rfl⟩ := g2.pre
          rw [List.getElem?_append_left (List.getElem?_eq_some_iff.mp hk).1]; exact hk
        rw [hk2] at p1'; cases p1'
        have hlen := p3'.length
        refine ⟨vs'.toArray, m', by simpa [hlen] using hl, p2', .none, μ₂.set k (xs ++ [v]), ι₂, by simp [hl], ?_, .none⟩
        exact (g1.trans g2).upd (us := vs' ++ [y]) hk2 p2' (by simp) (p3'.append (.one r2))
      · exact absurd (by simp [hl]) hne2
  | _ => exact absurd rfl hne1

end
end Mine

set_option linter.unusedVariables false
namespace Mine
open PySem

noncomputable def Sc.at (f : Sc) (ρ : Rho) : Sc := { f with ρ := ρ }
theorem SgOk.at {sg : Sg} {f : Sc} (x : SgOk sg f) (ρ : Rho) : SgOk sg (f.at ρ) := ⟨x.1, x.2, x.3, x.4, x.5, x.6, x.7⟩
theorem AOk.at {q : Bool} {n : Nat} {f : Sc} {r : List Sc} {A : Around} (x : AOk q n (f :: r) A) (ρ : Rho) : AOk q n (f.at ρ :: r) A := by
  refine ⟨?_, x.depth, x.units, x.hand, x.guards, x.stk, .inr (by rcases x.top with h | h; · cases h
                                                                  · exact h)⟩
  rw [x.frames]
  show some _ = some _
  simp only [List.filter_cons, Sc.at]
  split <;> rfl
@[simp] theorem Sc.at_env (f : Sc) (ρ : Rho) : (f.at ρ).env = f.env := rfl
@[simp] theorem Sc.at_rho (f : Sc) (ρ : Rho) : (f.at ρ).ρ = ρ := rfl
@[simp] theorem Sc.at_at (f : Sc) (ρ ρ' : Rho) : (f.at ρ).at ρ' = f.at ρ' := rfl
@[simp] theorem Sc.at_self (f : Sc) : f.at f.ρ = f := rfl

section
variable {C : Cx} {q : Bool} {n : Nat} {sg : Sg}

inductive FlRel (h₀ : Heap) (ι : List Addr) (h : Heap) : Fl → Flow → Prop
  | next : FlRel h₀ ι h .next .next
  | brk : FlRel h₀ ι h .brk .brk
  | ret {v : MV} {x : Value} : Rel h₀ ι h v x → FlRel h₀ ι h (.ret v) (.ret x)

inductive SPost (C : Cx) (ι : List Addr) (s : Shared) (sc : Sc) (rest : List Sc) (o : Out (Fl × Rho)) (fl : Flow) (s₁ : Shared) : Prop
  | mk (F : Fl) (ρ' : Rho) (μ₁ : MH) (ι₁ : List Addr) (e : o = .ok (F, ρ') μ₁) (r : FlRel C.h₀ ι₁ s₁.heap F fl) (g : Go C ι s (sc.at ρ' :: rest) ι₁ μ₁ s₁) : SPost C ι s sc rest o fl s₁
inductive SXPost (C : Cx) (ι : List Addr) (s : Shared) (sc : Sc) (rest : List Sc) (o : Out (Fl × Rho)) (e : Value) (s₁ : Shared) : Prop
  | mk (c : Str) (μ₁ : MH) (ι₁ : List Addr) (ρ' : Rho) (e1 : o = .exc c μ₁) (g : Go C ι s (sc.at ρ' :: rest) ι₁ μ₁ s₁) (f : Fly C c e s₁.heap) : SXPost C ι s sc rest o e s₁

/-- a block, a statement -/
noncomputable def SSound (C : Cx) (q : Bool) (n : Nat) (sg : Sg) (b : List Stmt) (f : DS) : Prop :=
  ∀ (A : Around) (s : Shared) (sc : Sc) (rest : List Sc) (ι : List Addr) (μ : MH), SgOk sg sc → AOk q n (sc :: rest) A → Inv C.h₀ (sc :: rest) ι μ s.heap → f sc.ρ μ ≠ .stuck →
    wpAny (model C.prog C.w) A (execs b sc.env) (SPost C ι s sc rest (f sc.ρ μ)) (SXPost C ι s sc rest (f sc.ρ μ)) s
noncomputable def S1Sound (C : Cx) (q : Bool) (n : Nat) (sg : Sg) (b : Stmt) (f : DS) : Prop :=
  ∀ (A : Around) (s : Shared) (sc : Sc) (rest : List Sc) (ι : List Addr) (μ : MH), SgOk sg sc → AOk q n (sc :: rest) A → Inv C.h₀ (sc :: rest) ι μ s.heap → f sc.ρ μ ≠ .stuck →
    wpAny (model C.prog C.w) A (exec b sc.env) (SPost C ι s sc rest (f sc.ρ μ)) (SXPost C ι s sc rest (f sc.ρ μ)) s

theorem SPost.after {ι ι₁ : List Addr} {s s₁ s₂ : Shared} {sc : Sc} {ρ' : Rho} {rest : List Sc} {μ₁ : MH} {o : Out (Fl × Rho)} {fl : Flow} (g : Go C ι s (sc.at ρ' :: rest) ι₁ μ₁ s₁) (p : SPost C ι₁ s₁ (sc.at ρ') rest o fl s₂) : SPost C ι s sc rest o fl s₂ := by
  obtain ⟨F, ρ₂, μ₂, ι₂, e, r, g'⟩ := p
  exact ⟨F, ρ₂, μ₂, ι₂, e, r, g.trans g'⟩
theorem SXPost.after {ι ι₁ : List Addr} {s s₁ s₂ : Shared} {sc : Sc} {ρ' : Rho} {rest : List Sc} {μ₁ : MH} {o : Out (Fl × Rho)} {e : Value} (g : Go C ι s (sc.at ρ' :: rest) ι₁ μ₁ s₁) (p : SXPost C ι₁ s₁ (sc.at ρ') rest o e s₂) : SXPost C ι s sc rest o e s₂ := by
  obtain ⟨c, μ₂, ι₂, ρ₂, e, g', r⟩ := p
  exact ⟨c, μ₂, ι₂, ρ₂, e, g.trans g', r⟩
theorem SXPost.of {α : Type} {ι : List Addr} {s s₁ : Shared} {sc : Sc} {rest : List Sc} {o : Out α} {f : α → MH → Out (Fl × Rho)} {e : Value} (p : XPost C ι s (sc :: rest) o e s₁) : SXPost C ι s sc rest (o.bind f) e s₁ := by
  obtain ⟨c, μ₂, ι₂, e, g', r⟩ := p
  exact ⟨c, μ₂, ι₂, sc.ρ, by rw [e]; rfl, g', r⟩
theorem SXPost.bind {ι : List Addr} {s s₁ : Shared} {sc : Sc} {rest : List Sc} {o : Out (Fl × Rho)} {f : Fl × Rho → MH → Out (Fl × Rho)} {e : Value} (p : SXPost C ι s sc rest o e s₁) : SXPost C ι s sc rest (o.bind f) e s₁ := by
  obtain ⟨c, μ₂, ι₂, ρ₂, e, g', r⟩ := p
  exact ⟨c, μ₂, ι₂, ρ₂, by rw [e]; rfl, g', r⟩

/-- an expression within a statement -/
theorem thenS {A : Around} {s : Shared} {sc : Sc} {rest : List Sc} {ι : List Addr} {μ : MH} {e : Expr} {f : D} {g : MV → MH → Out (Fl × Rho)} {Q : Value → Shared → Prop}
    (he : ESound C q n sg e f) (hs : SgOk sg sc) (hA : AOk q n (sc :: rest) A) (hI : Inv C.h₀ (sc :: rest) ι μ s.heap) (hne : (f sc.ρ μ).bind g ≠ .stuck)
    (k : ∀ v μ₁ ι₁ x s₁, f sc.ρ μ = .ok v μ₁ → Go C ι s (sc :: rest) ι₁ μ₁ s₁ → Rel C.h₀ ι₁ s₁.heap v x → g v μ₁ ≠ .stuck → Q x s₁) :
    wpAny (model C.prog C.w) A (eval e sc.env) Q (SXPost C ι s sc rest ((f sc.ρ μ).bind g)) s := by
  refine wpAny_mono (he A s sc rest ι μ hs hA hI (bind_ne hne)) (fun x s₁ p => ?_) fun x s₁ p => .of p
  obtain ⟨v, μ₁, ι₁, e1, g1, r1⟩ := p
  refine k v μ₁ ι₁ x s₁ e1 g1 r1 fun e2 => hne ?_
  rw [e1]; exact e2

noncomputable def dSkip : DS := fun ρ μ => .ok (.next, ρ) μ
noncomputable def dSeq (f g : DS) : DS := fun ρ μ => (f ρ μ).bind fun r μ => match r.1 with | .next => g r.2 μ | _ => .ok r μ
theorem ss_nil : SSound C q n sg [] dSkip := fun A s sc rest ι μ hs hA hI hne => wpAny_execs_nil ⟨.next, sc.ρ, μ, ι, rfl, .next, Go.refl hI⟩
theorem ss_cons {st : Stmt} {b : List Stmt} {f g : DS} (h1 : S1Sound C q n sg st f) (h2 : SSound C q n sg b g) : SSound C q n sg (st :: b) (dSeq f g) := fun A s sc rest ι μ hs hA hI hne => by
  refine wpAny_execs_cons (wpAny_mono (h1 A s sc rest ι μ hs hA hI (bind_ne hne)) (fun fl s₁ p => ?_) fun _ _ p => p.bind)
  obtain ⟨F, ρ', μ₁, ι₁, e, r, g1⟩ := p
  cases r with
  | next =>
    have E : dSeq f g sc.ρ μ = g ρ' μ₁ := by unfold dSeq; first | (rw [e]; done) | (rw [e]; rfl)
    rw [E] at hne ⊢
    exact wpAny_mono (h2 A s₁ (sc.at ρ') rest ι₁ μ₁ (hs.at _) (hA.at _) g1.inv hne) (fun _ _ p => p.after g1) fun _ _ p => p.after g1
  | brk => exact ⟨.brk, ρ', μ₁, ι₁, by unfold dSeq; first | (rw [e]; done) | (rw [e]; rfl), .brk, g1⟩
  | ret r => exact ⟨.ret _, ρ', μ₁, ι₁, by unfold dSeq; first | (rw [e]; done) | (rw [e]; rfl), .ret r, g1⟩

/-! return, break, pass -/
noncomputable def dRet (f : D) : DS := fun ρ μ => (f ρ μ).bind fun v μ => .ok (.ret v, ρ) μ
theorem s_ret {e : Expr} {pos : Pos} {f : D} (he : ESound C q n sg e f) : S1Sound C q n sg (.Return (some e) pos) (dRet f) := fun A s sc rest ι μ hs hA hI hne =>
  wpAny_Return_some (thenS he hs hA hI hne fun v μ₁ ι₁ x s₁ e1 g1 r1 hne1 => ⟨.ret v, sc.ρ, μ₁, ι₁, by unfold dRet; first | (rw [e1]; done) | (rw [e1]; rfl), .ret r1, g1⟩)
/-! an expression alone -/
noncomputable def dExpr (f : D) : DS := fun ρ μ => (f ρ μ).bind fun _ μ => .ok (.next, ρ) μ
theorem s_expr {e : Expr} {pos : Pos} {f : D} (he : ESound C q n sg e f) (hsw : ∀ env, swapsWith e none pos.line env = pure false) : S1Sound C q n sg (.Expr e pos) (dExpr f) := fun A s sc rest ι μ hs hA hI hne => by
  refine wpAny_Expr_any (thenS he hs hA hI hne fun v μ₁ ι₁ x s₁ e1 g1 r1 hne1 => ?_) (by unfold interactive; rw [hs.kind]; rfl) (hsw _)
  exact ⟨.next, sc.ρ, μ₁, ι₁, by unfold dExpr; first | (rw [e1]; done) | (rw [e1]; rfl), .next, g1⟩

/-! a name is bound -/
theorem store_ {A : Around} {s s₁ : Shared} {sc : Sc} {rest : List Sc} {ι ι₁ : List Addr} {μ₁ : MH} {x : Str} {i : Nat} {v : MV} {cv : Value} {E : Value → Shared → Prop} {Q : Unit → Shared → Prop} (hs : SgOk sg sc) (V : VarsOk sg.vars) (hx : (x, i) ∈ sg.vars)
    (hk : sg.names.lookup x = some .local ∨ (sg.names.lookup x = some .cell ∧ sg.fr = true)) (g : Go C ι s (sc :: rest) ι₁ μ₁ s₁) (r : Rel C.h₀ ι₁ s₁.heap v cv)
    (k : ∀ s₂, Go C ι s (sc.at (sc.ρ.set i v) :: rest) ι₁ μ₁ s₂ → (Keep s₁.heap s₂.heap) → Q () s₂) : wpAny (model C.prog C.w) A (storeName sc.env x cv) Q E s₁ := by
  have V' : VarsOk sc.vars := by rw [hs.vars]; exact V
  have hx' : (x, i) ∈ sc.vars := by rw [hs.vars]; exact hx
  obtain ⟨hh, tk, e⟩ := g.sh
  rcases hk with hk | ⟨hk, hfr⟩
  · have hk' := (hs.kindOf x).trans hk
    obtain ⟨m, hm, _⟩ := (g.inv.sc sc List.mem_cons_self).loc
    refine wpAny_storeName_local hk' hm (fun h' hn hsb => ?_) (by rw [hs.kind]; rfl)
    obtain ⟨I, K⟩ := g.inv.setLocal V' hx' hk' hm hn hsb r
    exact k _ ⟨⟨h', s₁.toks + 1, by rw [e]⟩, g.pre, I, g.keep.trans K⟩ K
  · have hk' := (hs.kindOf x).trans hk
    obtain ⟨c, ov, hc, hcell, _⟩ := (g.inv.sc sc List.mem_cons_self).cel x i hx' hk'
    refine wpAny_storeName_cell hs.kind hk' hc hcell fun h' hn hsb => ?_
    obtain ⟨I, K⟩ := g.inv.setCell V' (hs.fr.trans hfr) (hs.cap (hs.fr.trans hfr)) hx' hk' hc hcell hn hsb r
    exact k _ ⟨⟨h', s₁.toks, by rw [e]⟩, g.pre, I, g.keep.trans K⟩ K

noncomputable def dAssign (i : Nat) (f : D) : DS := fun ρ μ => (f ρ μ).bind fun v μ => .ok (.next, ρ.set i v) μ
theorem s_assign {x : Str} {i : Nat} {e : Expr} {p pos : Pos} {f : D} (he : ESound C q n sg e f) (V : VarsOk sg.vars) (hx : (x, i) ∈ sg.vars)
    (hk : sg.names.lookup x = some .local ∨ (sg.names.lookup x = some .cell ∧ sg.fr = true)) (hsw : ∀ env : Env, env.scope.names = sg.names → env.scope.kind = .function → swapsWith e (some (.Name x p)) pos.line env = pure false) :
    S1Sound C q n sg (.Assign [.Name x p] e pos) (dAssign i f) := fun A s sc rest ι μ hs hA hI hne => by
  refine wpAny_Assign_Name (thenS he hs hA hI hne fun v μ₁ ι₁ y s₁ e1 g1 r1 hne1 => store_ hs V hx hk g1 r1 fun s₂ g2 _ => ?_) (hsw _ hs.names hs.kind)
  exact ⟨.next, sc.ρ.set i v, μ₁, ι₁, by unfold dAssign; first | (rw [e1]; done) | (rw [e1]; rfl), .next, g2⟩

/-! an item is stored: value first, then the list, then the place -/
/-! if -/
noncomputable def dIfS (t : D) (a b : DS) : DS := fun ρ μ => (t ρ μ).bind fun v μ => match v with | .bool true => a ρ μ | .bool false => b ρ μ | _ => .stuck
theorem s_if {t : Expr} {a b : List Stmt} {pos : Pos} {ft : D} {fa fb : DS} (ht : TSound C q n sg t ft) (ha : SSound C q n sg a fa) (hb : SSound C q n sg b fb) : S1Sound C q n sg (.If t a b pos) (dIfS ft fa fb) := fun A s sc rest ι μ hs hA hI hne => by
  have hne1 : ft sc.ρ μ ≠ .stuck := bind_ne hne
  refine wpAny_If (wpAny_mono (ht A s sc rest ι μ hs hA hI hne1 fun v μ' e => ?_) (fun c s₁ p => ?_) fun x s₁ p => .of p)
  · cases v with
    | bool b => exact ⟨b, rfl⟩
    | _ => exact absurd (by unfold dIfS; first | (rw [e]; done) | (rw [e]; rfl)) hne
  · obtain ⟨μ₁, ι₁, e1, g1⟩ := p
    cases c with
    | true =>
      have E : dIfS ft fa fb sc.ρ μ = fa sc.ρ μ₁ := by unfold dIfS; first | (rw [e1]; done) | (rw [e1]; rfl)
      rw [E] at hne ⊢
      exact wpAny_mono (ha A s₁ sc rest ι₁ μ₁ hs hA g1.inv hne) (fun _ _ p => SPost.after (sc := sc) (ρ' := sc.ρ) g1 p) fun _ _ p => SXPost.after (sc := sc) (ρ' := sc.ρ) g1 p
    | false =>
      have E : dIfS ft fa fb sc.ρ μ = fb sc.ρ μ₁ := by unfold dIfS; first | (rw [e1]; done) | (rw [e1]; rfl)
      rw [E] at hne ⊢
      exact wpAny_mono (hb A s₁ sc rest ι₁ μ₁ hs hA g1.inv hne) (fun _ _ p => SPost.after (sc := sc) (ρ' := sc.ρ) g1 p) fun _ _ p => SXPost.after (sc := sc) (ρ' := sc.ρ) g1 p
end
end Mine

set_option linter.unusedVariables false
namespace Mine
open PySem

section
variable {C : Cx} {q : Bool} {n : Nat} {sg : Sg}

/-- what a raise's notes leave of the state: the frames' slots and some records turn -/
theorem Inv.noted {h₀ h h' : Heap} {fs : List Sc} {ι : List Addr} {μ : MH} (I : Inv h₀ fs ι μ h) (H : List Addr) (hn : ∀ b ∈ H, h₀.get? b = none) (hk : ∀ b o, h.get? b = some o → b ∉ H → h'.get? b = some o)
    (hH : ∀ b ∈ H, ∀ o, h.get? b = some o → (∃ es m, o.data = .dict es m ∧ ∃ o', h'.get? b = some o' ∧ o'.data = o.data) ∨ (¬ Frozen o ∧ (∃ vs, o.data = .fields vs) ∧ ∃ o' vs', h'.get? b = some o' ∧ o'.cls = o.cls ∧ o'.dict = o.dict ∧ o'.data = .fields vs')) :
    Inv h₀ fs ι μ h' ∧ Keep h h' := by
  have hns : ∀ a m, h.Ns a m → h'.Ns a m := fun a m hm => by
    obtain ⟨o, es, ep, ho, hd, r⟩ := hm
    by_cases ha : a ∈ H
    · rcases hH a ha o ho with ⟨es', m', hd', o', ho', hd''⟩ | ⟨_, ⟨vs, hv⟩, _⟩
      · exact ⟨o', es, ep, ho', hd''.trans hd, r⟩
      · rw [hd] at hv; cases hv
    · exact ⟨o, es, ep, hk a o ho ha, hd, r⟩
  have hce : ∀ c v, h.IsCell c v → h'.IsCell c v := fun c v hc => by
    obtain ⟨o, ho, hd⟩ := hc
    refine ⟨o, hk c o ho fun ha => ?_, hd⟩
    rcases hH c ha o ho with ⟨_, _, hd', _⟩ | ⟨_, ⟨vs, hv⟩, _⟩
    · rw [hd] at hd'; cases hd'
    · rw [hd] at hv; cases hv
  have K : Keep h h' := by
    refine ⟨fun a o e f => hk a o e fun ha => ?_, fun a o e f => ?_⟩
    · rcases hH a ha o e with ⟨_, _, hd', _⟩ | ⟨hf, _⟩
      · exact (not_frozen_dict hd').1 f
      · exact hf f
    · by_cases ha : a ∈ H
      · rcases hH a ha o e with ⟨_, _, hd', _⟩ | ⟨_, _, o', vs', h1, h2, h2', h3⟩
        · exact absurd f (not_frozen_dict hd').2
        · exact ⟨o', h1, h2, h2', vs', h3⟩
      · exact ⟨o, hk a o e ha, rfl, rfl, f.2⟩
  refine ⟨⟨⟨fun b o e => hk b o (I.hp.base b o e) fun hb => (by rw [hn b hb] at e; cases e), I.hp.len, I.hp.nd, I.hp.new, fun k xs hk' => ?_⟩, fun g hg => ?_, I.ap, I.nw⟩, K⟩
  · obtain ⟨a, vs, m, e1, e2, e3⟩ := I.hp.at_ k xs hk'
    refine ⟨a, vs, m, e1, hk a _ e2 fun ha => ?_, e3.keep K⟩
    rcases hH a ha _ e2 with ⟨_, _, hd', _⟩ | ⟨_, ⟨vs, hv⟩, _⟩
    · cases hd'
    · cases hv
  · exact (I.sc g hg).mono (List.prefix_refl _) K (fun m hm => hns _ m hm) fun c ov _ hc => hce c ov hc

theorem stk_frame {fs : List Sc} (h : StkOk fs) : ∀ f ∈ fs, f.fr = true → f.env.frame = some f.env.locals := by
  induction fs with
  | nil => intro f hf; exact absurd hf List.not_mem_nil
  | cons g r ih =>
    have h1 := h.1
    have h3 := h.2.2
    intro f hf hfr
    rcases List.mem_cons.mp hf with rfl | hf
    · rw [h1, topL, if_pos hfr]
    · exact ih h3 f hf hfr

/-- the frames on the stack, for the library's rules -/
theorem funFrames {h₀ h : Heap} {ι : List Addr} {μ : MH} : ∀ {fs : List Sc}, (∀ f ∈ fs, ScOk h₀ f ι h ∧ h₀.get? f.env.locals = none) → StkOk fs → h.FunFrames h₀ ((fs.filter (·.fr)).map (·.env))
  | [], _, _ => trivial
  | f :: r, hi, hs => by
    have ih := funFrames (fs := r) (μ := μ) (fun g hg => hi g (List.mem_cons_of_mem _ hg)) hs.2.2
    rw [List.filter_cons]
    split
    · rename_i hfr
      obtain ⟨m, hm, _⟩ := (hi f List.mem_cons_self).1.loc
      exact .cons (by rw [hs.2.1]; decide) (stk_frame hs f List.mem_cons_self hfr) hm (hi f List.mem_cons_self).2 ih
    · exact ih

/-- the frame at hand -/
theorem top_frame : ∀ {fs : List Sc} {L : Addr}, topL fs = some L → ∃ f outer, f ∈ fs ∧ f.fr = true ∧ f.env.locals = L ∧ (fs.filter (·.fr)).map (·.env) = f.env :: outer
  | f :: r, L, h => by
    rw [topL] at h
    split at h
    · rename_i hfr
      cases h
      exact ⟨f, (r.filter (·.fr)).map (·.env), List.mem_cons_self, hfr, rfl, by rw [List.filter_cons, if_pos hfr]; rfl⟩
    · rename_i hfr
      obtain ⟨g, outer, h1, h2, h3, h4⟩ := top_frame h
      exact ⟨g, outer, List.mem_cons_of_mem _ h1, h2, h3, by rw [List.filter_cons, if_neg hfr]; exact h4⟩

theorem noteFrame_env {e : Value} {env env' : Env} (h : env.frame = env'.frame) : noteFrame e env = noteFrame e env' := by
  unfold noteFrame frameOf
  rw [h]

/-- a new entry in the traceback: what it leaves -/
theorem entry_ {M : Model} {A : Around} {E : Value → Shared → Prop} {s : Shared} {base : Heap} {env : Env} {outer : List Env} {L e : Addr} {oe : Obj} {vs : Array Value} {head : Value} {hadNext : Bool} {Q : Unit → Shared → Prop}
    (hfr : A.frames = some (env :: outer)) (hl : s.heap.FunFrames base (env :: outer)) (hf : env.frame = some L)
    (he : s.heap.get? e = some oe) (hd : oe.data = .fields vs) (hsz : 1 < vs.size)
    (h : ∀ h₁ ts, Heap.SlotsOnly ((env :: outer).filterMap (·.frame)) s.heap h₁ → 3 < ts.size → ts[3]? = some (rawInt L) →
      Q () { s with heap := (h₁.push { cls := .type "traceback", dict := none, data := .fields ts }).update e (Obj.mapFields (·.setIfInBounds 1 (Value.ref h₁.objs.size))) }) :
    wpAny M A (do let a ← frameOf env; let pl ← entryPlaceOf L hadNext; let b ← EntryCells.newEntry head a .none (rawInt L) .none pl; setField (.ref e) 1 b) Q E s := by
  have hene : e ∉ (env :: outer).filterMap (·.frame) := fun hm => by
    obtain ⟨_, o, ho, hnf⟩ := hl.mem hm
    rw [he] at ho; injection ho with ho; subst ho; exact hnf vs hd
  refine wpAny_bind (wpAny_frameOf_fun hfr hl hf fun h₁ hs₁ => ?_)
  refine wpAny_bind (wpAny_entryPlaceOf fun pl hpl => ?_)
  unfold EntryCells.newEntry newFields
  refine wpAny_bind (wpAny_newObj_type ?_ (hpl.sizeOk5 _ _ _ _ _))
  have he₁ : h₁.get? e = some oe := (hs₁.2.1 e hene).trans he
  have he₂ := Heap.get?_push_of_some (h := h₁) { cls := .type "traceback", dict := none, data := .fields ([head, .ref L, .none, rawInt L, .none] ++ (if pl.isEmpty then List.replicate 6 Value.none else pl)).toArray } he₁
  refine wpAny_setField he₂ hd hsz (h h₁ _ hs₁ ?_ ?_)
  · simp only [List.size_toArray, List.length_append, List.length_cons, List.length_nil]; omega
  · simp

theorem dict_mapFields (o : Obj) (f : Array Value → Array Value) : (Obj.mapFields f o).dict = o.dict := by
  obtain ⟨c, d, dt, sl⟩ := o
  cases dt <;> rfl

/-- an exception on its way with a traceback whose head stands at fl -/
structure FlyT (C : Cx) (c : Str) (e : Value) (fl : Value) (h : Heap) : Prop where
  it : ∃ a oe vs T oT ts, e = .ref a ∧ C.h₀.get? a = none ∧ h.get? a = some oe ∧ (∃ k, ClsAt C.h₀ c k ∧ oe.cls = .ref k) ∧ oe.dict = none ∧ oe.data = .fields vs ∧ VsOk c vs ∧
    vs[1]? = some (.ref T) ∧ C.h₀.get? T = none ∧ T ≠ a ∧ h.get? T = some oT ∧ oT.cls = .type "traceback" ∧ oT.data = .fields ts ∧ ts[3]? = some fl
theorem FlyT.fly {c : Str} {e fl : Value} {h : Heap} (x : FlyT C c e fl h) : Fly C c e h := by
  obtain ⟨a, oe, vs, T, oT, ts, h1, h2, h3, h4, h4', h5, h6, h7, h8, h9, h10, h11, h12, h13⟩ := x.it
  exact ⟨a, oe, vs, h1, h2, h3, h4, h4', h5, h6, .inr ⟨T, oT, ts, h7, h8, h9, h10, h11, h12, (Array.getElem?_eq_some_iff.mp h13).1⟩⟩

theorem exc_not_frozen {o : Obj} {c : Addr} (h : o.cls = .ref c) : ¬ Frozen o := by
  rintro (⟨e, _⟩ | ⟨n, e, _⟩) <;> (rw [h] at e; cases e)
theorem tb_not_frozen {o : Obj} {ts : Array Value} (h : o.cls = .type "traceback") (hd : o.data = .fields ts) : ¬ Frozen o := by
  rintro (⟨e, _⟩ | ⟨n, e, h1, _⟩)
  · rw [h] at e; injection e with e; exact absurd e (by decide)
  · rw [h] at e; injection e with e; exact h1 e.symm

/-- the flight's place is written -/
theorem flight_ {A : Around} {E : Value → Shared → Prop} {s : Shared} {fs : List Sc} {ι : List Addr} {μ : MH} {c : Str} {e fl : Value} {fr : Option Addr} {Q : Unit → Shared → Prop} (hI : Inv C.h₀ fs ι μ s.heap) (hx : FlyT C c e fl s.heap)
    (k : ∀ s₁, Go C ι s fs ι μ s₁ → FlyT C c e (fr.elim .none fun f => rawInt f) s₁.heap → Q () s₁) : wpAny (model C.prog C.w) A (setFlight e fr) Q E s := by
  obtain ⟨a, oe, vs, T, oT, ts, rfl, h2, h3, h4, h4', h5, h6, h7, h8, h9, h10, h11, h12, h13⟩ := hx.it
  unfold setFlight
  refine wpAny_bind (wpAny_field h3 h5 h7 ?_)
  rw [if_pos (show (Value.ref T != Value.none) = true from by simp)]
  have h3s := (Array.getElem?_eq_some_iff.mp h13).1
  refine wpAny_setField h10 h12 h3s ?_
  have other : ∀ b, b ≠ T → (s.heap.update T (Obj.mapFields (·.setIfInBounds 3 (fr.elim Value.none fun f => rawInt f)))).get? b = s.heap.get? b := fun b hb => Heap.get?_update_other _ _ (Ne.symm hb)
  have hd' := Obj.data_mapFields h12 (·.setIfInBounds 3 (fr.elim Value.none fun f => rawInt f))
  have hT' := Heap.get?_update_self (Obj.mapFields (·.setIfInBounds 3 (fr.elim Value.none fun f => rawInt f))) h10 (Obj.isFreed_of_fields hd')
  obtain ⟨I, K⟩ := hI.noted (h' := s.heap.update T (Obj.mapFields (·.setIfInBounds 3 (fr.elim Value.none fun f => rawInt f)))) [T] (fun b hb => by rw [List.mem_singleton.mp hb]; exact h8)
    (fun b o hb hne => (other b fun q => hne (by rw [q]; exact List.mem_singleton.mpr rfl)).trans hb) fun b hb o ho => by
      rw [List.mem_singleton.mp hb] at ho ⊢
      rw [h10] at ho; cases ho
      exact .inr ⟨tb_not_frozen h11 h12, ⟨_, h12⟩, _, _, hT', Obj.cls_mapFields _ _, dict_mapFields _ _, hd'⟩
  exact k _ ⟨⟨_, _, rfl⟩, List.prefix_refl _, I, K⟩ ⟨a, oe, vs, T, _, _, rfl, h2, (other a (Ne.symm h9)).trans h3, h4, h4', h5, h6, h7, h8, h9, hT', (Obj.cls_mapFields _ _).trans h11, hd', by simp [h3s]⟩

/-- the frame at hand is noted -/
theorem note_ {A : Around} {E : Value → Shared → Prop} {s : Shared} {sc : Sc} {rest : List Sc} {ι : List Addr} {μ : MH} {c : Str} {e : Value} {L : Addr} {Q : Unit → Shared → Prop} (hfr : A.frames = some (((sc :: rest).filter (·.fr)).map (·.env))) (hstk : StkOk (sc :: rest))
    (hL : topL (sc :: rest) = some L) (hI : Inv C.h₀ (sc :: rest) ι μ s.heap) (hx : Fly C c e s.heap)
    (k : ∀ s₁, Go C ι s (sc :: rest) ι μ s₁ → FlyT C c e (rawInt L) s₁.heap → Q () s₁) : wpAny (model C.prog C.w) A (noteFrame e sc.env) Q E s := by
  obtain ⟨a, oe, vs, rfl, x2, x3, ⟨kc, xk, x4⟩, x4', x5, x6, x7⟩ := hx.it
  obtain ⟨f, outer, f1, f2, f3, f4⟩ := top_frame hL
  have hff := stk_frame hstk f f1 f2
  have hse : sc.env.frame = f.env.frame := by rw [hstk.1, hL, hff, f3]
  have hfL : f.env.frame = some L := by rw [hff, f3]
  rw [noteFrame_env hse]
  rw [f4] at hfr
  have FF : ∀ {h : Heap} {μ' : MH}, Inv C.h₀ (sc :: rest) ι μ' h → h.FunFrames C.h₀ (f.env :: outer) := fun I => by
    have := funFrames (μ := μ) (fs := sc :: rest) (fun g hg => ⟨I.sc g hg, (I.nw g hg).1⟩) hstk
    rwa [f4] at this
  have hsz1 : 1 < vs.size := Nat.lt_trans (by decide) x6.sz
  -- what the new entry leaves
  have fin : ∀ (s₀ : Shared), Go C ι s (sc :: rest) ι μ s₀ → s₀.heap.get? a = some oe → ∀ h₁ ts, Heap.SlotsOnly ((f.env :: outer).filterMap (·.frame)) s₀.heap h₁ → 3 < ts.size → ts[3]? = some (rawInt L) →
      Q () { s₀ with heap := (h₁.push { cls := .type "traceback", dict := none, data := .fields ts }).update a (Obj.mapFields (·.setIfInBounds 1 (Value.ref h₁.objs.size))) } := by
    intro s₀ g₀ ha₀ h₁ ts hso h3 h3'
    have hFF := FF g₀.inv
    have hene : a ∉ (f.env :: outer).filterMap (·.frame) := fun hm => by
      obtain ⟨_, o, ho, hnf⟩ := hFF.mem hm
      rw [ha₀] at ho; injection ho with ho; subst ho; exact hnf vs x5
    have ha₁ : h₁.get? a = some oe := (hso.2.1 a hene).trans ha₀
    have ha₂ := Heap.get?_push_of_some (h := h₁) { cls := .type "traceback", dict := none, data := .fields ts } ha₁
    have hd' := Obj.data_mapFields x5 (·.setIfInBounds 1 (Value.ref h₁.objs.size))
    have ha₃ := Heap.get?_update_self (Obj.mapFields (·.setIfInBounds 1 (Value.ref h₁.objs.size))) ha₂ (Obj.isFreed_of_fields hd')
    have hTa : h₁.objs.size ≠ a := Nat.ne_of_gt (Heap.lt_size ha₁)
    have hT := (Heap.get?_update_other (h₁.push { cls := .type "traceback", dict := none, data := .fields ts }) (Obj.mapFields (·.setIfInBounds 1 (Value.ref h₁.objs.size))) (Ne.symm hTa)).trans (Heap.get?_push_size h₁ rfl)
    have keep : ∀ b o, b ≠ a → h₁.get? b = some o → ((h₁.push { cls := .type "traceback", dict := none, data := .fields ts }).update a (Obj.mapFields (·.setIfInBounds 1 (Value.ref h₁.objs.size)))).get? b = some o := fun b o hb ho => by
      rw [Heap.get?_update_other _ _ (Ne.symm hb)]
      exact Heap.get?_push_of_some _ ho
    have hT0 : C.h₀.get? h₁.objs.size = none := by rw [hso.1]; exact g₀.inv.hp.base.fresh
    obtain ⟨I, K⟩ := g₀.inv.noted (h' := (h₁.push { cls := .type "traceback", dict := none, data := .fields ts }).update a (Obj.mapFields (·.setIfInBounds 1 (Value.ref h₁.objs.size)))) (a :: (f.env :: outer).filterMap (·.frame)) (fun b hb => by
        rcases List.mem_cons.mp hb with rfl | hb
        · exact x2
        · exact (hFF.mem hb).1)
      (fun b o hb hne => keep b o (fun q => hne (by rw [q]; exact List.mem_cons_self)) ((hso.2.1 b fun hm => hne (List.mem_cons_of_mem _ hm)).trans hb)) fun b hb o ho => by
        rcases List.mem_cons.mp hb with rfl | hb
        · rw [ha₀] at ho; cases ho
          exact .inr ⟨exc_not_frozen x4, ⟨_, x5⟩, _, _, ha₃, Obj.cls_mapFields _ _, dict_mapFields _ _, hd'⟩
        · obtain ⟨env', he', hfe⟩ := List.mem_filterMap.mp hb
          rw [← f4] at he'
          obtain ⟨g, hg, rfl⟩ := List.mem_map.mp he'
          obtain ⟨hg1, hg2⟩ := List.mem_filter.mp hg
          have hgl : g.env.locals = b := by
            have := stk_frame hstk g hg1 hg2
            rw [hfe] at this; exact (Option.some.inj this).symm
          obtain ⟨m, hm, _⟩ := (g₀.inv.sc g hg1).loc
          obtain ⟨o', es, ep, ho', hd'', _⟩ := hm
          rw [hgl, ho] at ho'; cases ho'
          obtain ⟨sl, hsl⟩ := hso.2.2 b o ho
          have hba : b ≠ a := fun q => hene (q ▸ hb)
          exact .inl ⟨es, ep, hd'', _, keep b _ hba hsl, rfl⟩
    obtain ⟨hh, tk, e0⟩ := g₀.sh
    refine k _ ⟨⟨_, tk, by rw [e0]⟩, g₀.pre, I, g₀.keep.trans K⟩ ⟨a, _, _, h₁.objs.size, _, ts, rfl, x2, ha₃, ⟨kc, xk, (Obj.cls_mapFields _ _).trans x4⟩, (dict_mapFields _ _).trans x4', hd', ⟨by simpa using x6.sz, fun hp => by rw [Array.getElem?_setIfInBounds_ne (by decide)]; exact x6.cx hp⟩, by simp [hsz1], hT0, hTa, hT, rfl, rfl, h3'⟩
  rcases x7 with x7 | ⟨T, oT, ts, t1, t2, t3, t4, t5, t6, t7⟩
  · unfold noteFrame
    simp only [hfL]
    refine wpAny_bind (wpAny_field x3 x5 x7 ?_)
    rw [if_neg (by decide)]
    exact entry_ hfr (FF hI) hfL x3 x5 hsz1 (fin s (Go.refl hI) x3)
  · unfold noteFrame
    simp only [hfL]
    refine wpAny_bind (wpAny_field x3 x5 t1 ?_)
    rw [if_pos (show (Value.ref T != Value.none) = true from by simp)]
    have ht3 : ts[3]? = some ts[3] := Array.getElem?_eq_getElem t7
    refine wpAny_bind (wpAny_field t4 t6 ht3 ?_)
    by_cases hq : (ts[3] == rawInt L) = true
    · rw [if_pos hq]
      have hq' : ts[3] = rawInt L := eq_of_beq hq
      refine wpAny_pure (k s (Go.refl hI) ⟨a, oe, vs, T, oT, ts, rfl, x2, x3, ⟨kc, xk, x4⟩, x4', x5, x6, t1, t2, t3, t4, t5, t6, by rw [ht3, hq']⟩)
    · rw [if_neg hq]
      refine wpAny_bind (wpAny_setField t4 t6 t7 ?_)
      have other : ∀ b, b ≠ T → (s.heap.update T (Obj.mapFields (·.setIfInBounds 3 Value.none))).get? b = s.heap.get? b := fun b hb => Heap.get?_update_other _ _ (Ne.symm hb)
      have hd' := Obj.data_mapFields t6 (·.setIfInBounds 3 Value.none)
      have hT' := Heap.get?_update_self (Obj.mapFields (·.setIfInBounds 3 Value.none)) t4 (Obj.isFreed_of_fields hd')
      obtain ⟨I, K⟩ := hI.noted (h' := s.heap.update T (Obj.mapFields (·.setIfInBounds 3 Value.none))) [T] (fun b hb => by rw [List.mem_singleton.mp hb]; exact t2)
        (fun b o hb hne => (other b fun q => hne (by rw [q]; exact List.mem_singleton.mpr rfl)).trans hb) fun b hb o ho => by
          rw [List.mem_singleton.mp hb] at ho ⊢
          rw [t4] at ho; cases ho
          exact .inr ⟨tb_not_frozen t5 t6, ⟨_, t6⟩, _, _, hT', Obj.cls_mapFields _ _, dict_mapFields _ _, hd'⟩
      have g₀ : Go C ι s (sc :: rest) ι μ { s with heap := s.heap.update T (Obj.mapFields (·.setIfInBounds 3 Value.none)) } := ⟨⟨_, _, rfl⟩, List.prefix_refl _, I, K⟩
      have ha₀ : (s.heap.update T (Obj.mapFields (·.setIfInBounds 3 Value.none))).get? a = some oe := (other a (Ne.symm t3)).trans x3
      exact entry_ hfr (FF I) hfL ha₀ x5 hsz1 (fin _ g₀ ha₀)

/-- the exception leaves the frame -/
theorem leaving_ {A : Around} {E : Value → Shared → Prop} {s : Shared} {sc : Sc} {rest : List Sc} {ι : List Addr} {μ : MH} {c : Str} {e : Value} {L : Addr} {Q : Unit → Shared → Prop} (hfr : A.frames = some (((sc :: rest).filter (·.fr)).map (·.env))) (hstk : StkOk (sc :: rest))
    (hL : topL (sc :: rest) = some L) (hI : Inv C.h₀ (sc :: rest) ι μ s.heap) (hx : Fly C c e s.heap)
    (k : ∀ s₁, Go C ι s (sc :: rest) ι μ s₁ → FlyT C c e .none s₁.heap → Q () s₁) : wpAny (model C.prog C.w) A (leaving sc.env e) Q E s := by
  unfold leaving
  refine wpAny_bind (note_ hfr hstk hL hI hx fun s₁ g1 f1 => ?_)
  exact flight_ g1.inv f1 fun s₂ g2 f2 => k s₂ (g1.trans g2) f2
end
end Mine

set_option linter.unusedVariables false
namespace Mine
open PySem

/-- a def of the text, as the walk needs it -/
structure FnOk (C : Cx) (a : Addr) (fd : FuncData) (body : List Stmt) (ps : List Str) (sg : Sg) : Prop where
  ob : ∃ o, C.h₀.get? a = some o ∧ o.data = .func fd
  code : C.h₀.CodeRec fd.code fd.qualname
  body : fd.body = .stmts body
  clo : fd.closure = []
  names : fd.scope.names = sg.names
  fr : sg.fr = true
  gl : fd.globals = mainGlobals
  bl : fd.builtins = builtinsNs
  co : fd.scope.isCoroutine = false
  gen : fd.scope.isGenerator = false
  kind : fd.scope.kind = .function
  bind : ∀ vals : List Value, vals.length = ps.length → bindArgs fd ⟨vals, []⟩ = pure (ps.zip vals)
  V : VarsOk sg.vars
  par : ∀ (j : Nat) (x : Str), ps[j]? = some x → (x, j) ∈ sg.vars
  cln : ((cellsFrom 0 sg.names []).map (·.1)).Nodup
  cells : ∀ x i, (x, i) ∈ sg.vars → sg.names.lookup x = some .local ∨ (sg.names.lookup x = some .cell ∧ ∀ k, ((cellsFrom k sg.names []).lookup x).isSome = true)

noncomputable def dDef (k : Nat) (f : DS) : List MV → MH → Out MV := fun args μ =>
  if args.length = k then (f (fun i => args[i]?) μ).bind fun r μ => .ok (match r.1 with | .ret v => v | _ => .none) μ else .stuck

theorem bindL_skip (kindOf : Str → Option NameKind) (x : Str) : ∀ (l : List (Str × Value)) (m : Str → Option Value), (∀ p ∈ l, p.1 ≠ x) → bindL kindOf l m x = m x
  | [], m, _ => rfl
  | (y, v) :: r, m, h => by
    unfold bindL
    rw [bindL_skip kindOf x r _ fun p hp => h p (List.mem_cons_of_mem _ hp)]
    have hy : y ≠ x := h (y, v) List.mem_cons_self
    split
    · simp [Ne.symm hy]
    · rfl
theorem bindL_zip (kindOf : Str → Option NameKind) {x : Str} {v : Value} (hk : kindOf x = some .local) : ∀ (ps : List Str) (vals : List Value) (m : Str → Option Value) (j : Nat), ps.Nodup → ps[j]? = some x → vals[j]? = some v → bindL kindOf (ps.zip vals) m x = some v
  | [], _, _, _, _, h, _ => by simp at h
  | _ :: _, [], _, _, _, _, h => by simp at h
  | p :: ps, w :: vals, m, 0, hn, h1, h2 => by
    simp at h1 h2; subst h1 h2
    rw [List.zip_cons_cons]
    unfold bindL
    rw [bindL_skip, if_pos hk]
    · simp
    · rintro ⟨y, u⟩ hp rfl
      exact (List.nodup_cons.mp hn).1 (List.of_mem_zip hp).1
  | p :: ps, w :: vals, m, j + 1, hn, h1, h2 => by
    rw [List.zip_cons_cons]
    unfold bindL
    exact bindL_zip kindOf hk ps vals _ j (List.nodup_cons.mp hn).2 (by simpa using h1) (by simpa using h2)
theorem bindC_skip (kindOf : Str → Option NameKind) (x : Str) : ∀ (l : List (Str × Value)) (m : Str → Option Value), (∀ p ∈ l, p.1 ≠ x) → bindC kindOf l m x = m x
  | [], m, _ => rfl
  | (y, v) :: r, m, h => by
    unfold bindC
    rw [bindC_skip kindOf x r _ fun p hp => h p (List.mem_cons_of_mem _ hp)]
    have hy : y ≠ x := h (y, v) List.mem_cons_self
    split
    · rfl
    · simp [Ne.symm hy]
theorem bindC_zip (kindOf : Str → Option NameKind) {x : Str} {v : Value} (hk : kindOf x ≠ some .local) : ∀ (ps : List Str) (vals : List Value) (m : Str → Option Value) (j : Nat), ps.Nodup → ps[j]? = some x → vals[j]? = some v → bindC kindOf (ps.zip vals) m x = some v
  | [], _, _, _, _, h, _ => by simp at h
  | _ :: _, [], _, _, _, _, h => by simp at h
  | p :: ps, w :: vals, m, 0, hn, h1, h2 => by
    simp at h1 h2; subst h1 h2
    rw [List.zip_cons_cons]
    unfold bindC
    rw [bindC_skip, if_neg hk]
    · simp
    · rintro ⟨y, u⟩ hp rfl
      exact (List.nodup_cons.mp hn).1 (List.of_mem_zip hp).1
  | p :: ps, w :: vals, m, j + 1, hn, h1, h2 => by
    rw [List.zip_cons_cons]
    unfold bindC
    exact bindC_zip kindOf hk ps vals _ j (List.nodup_cons.mp hn).2 (by simpa using h1) (by simpa using h2)

theorem cf_names : ∀ (names : List (Str × NameKind)) (k k' : Nat) (acc acc' : List (Str × Addr)), acc.map (·.1) = acc'.map (·.1) → (cellsFrom k names acc).map (·.1) = (cellsFrom k' names acc').map (·.1)
  | [], _, _, _, _, h => h
  | (x, kd) :: r, k, k', acc, acc', h => by
    unfold cellsFrom
    split
    · exact cf_names r _ _ _ _ (by simp [h])
    · exact cf_names r _ _ _ _ h
theorem lookup_nodup {α : Type} : ∀ {l : List (Str × α)} {x : Str} {c : α}, (l.map (·.1)).Nodup → (x, c) ∈ l → l.lookup x = some c
  | (y, d) :: r, x, c, hn, hm => by
    rw [List.map_cons, List.nodup_cons] at hn
    rcases List.mem_cons.mp hm with e | hm
    · cases e; simp
    · have hxy : x ≠ y := fun e => hn.1 (e ▸ List.mem_map.mpr ⟨_, hm, rfl⟩)
      rw [List.lookup_cons, beq_eq_false_iff_ne.mpr hxy]
      exact lookup_nodup hn.2 hm
theorem nodup_of_idx {l : List Str} (h : ∀ (i j : Nat) (x : Str), l[i]? = some x → l[j]? = some x → i = j) : l.Nodup := by
  induction l with
  | nil => exact List.nodup_nil
  | cons y r ih =>
    refine List.nodup_cons.mpr ⟨fun hm => ?_, ih fun i j x h1 h2 => by have := h (i + 1) (j + 1) x (by simpa using h1) (by simpa using h2); omega⟩
    obtain ⟨i, hi, e⟩ := List.mem_iff_getElem.mp hm
    have := h 0 (i + 1) y (by simp) (by simp [List.getElem?_eq_getElem hi, e])
    omega

section
variable {C : Cx} {q : Bool} {n : Nat} {sg : Sg}

theorem Inv.drop {h₀ h : Heap} {f : Sc} {fs : List Sc} {ι : List Addr} {μ : MH} (I : Inv h₀ (f :: fs) ι μ h) : Inv h₀ fs ι μ h :=
  ⟨I.hp, fun g hg => I.sc g (List.mem_cons_of_mem _ hg), (List.pairwise_cons.mp I.ap).2, fun g hg => I.nw g (List.mem_cons_of_mem _ hg)⟩

theorem sc_lt {h₀ h : Heap} {f : Sc} {ι : List Addr} (S : ScOk h₀ f ι h) : f.env.locals < h.objs.size := let ⟨_, hm, _⟩ := S.loc; hm.lt

/-- the state of a call just entered -/
theorem enter_ {a : Addr} {fd : FuncData} {body : List Stmt} {ps : List Str} (K : FnOk C a fd body ps sg) {s s₁ : Shared} {fs : List Sc} {ι : List Addr} {μ : MH} {args : List MV} {vals : List Value} (hI : Inv C.h₀ fs ι μ s.heap) (hr : RelAll C.h₀ ι s.heap args vals) (hl : vals.length = ps.length)
    (X : InCallC s (callEnvC fd s.heap.objs.size a).locals (bindL (callEnvC fd s.heap.objs.size a).kindOf (ps.zip vals) fun _ => none) (callEnvC fd s.heap.objs.size a).cells (bindC (callEnvC fd s.heap.objs.size a).kindOf (ps.zip vals) fun _ => none) s₁) :
    Go C ι s (⟨callEnvC fd s.heap.objs.size a, sg.vars, fun i => args[i]?, true⟩ :: fs) ι μ s₁ ∧ SgOk sg ⟨callEnvC fd s.heap.objs.size a, sg.vars, fun i => args[i]?, true⟩ := by
  have hps : ps.Nodup := by
    exact nodup_of_idx fun i j x h1 h2 => (K.V _ _ _ _ (K.par i x h1) (K.par j x h2)).mp rfl
  have hkeep := X.toInCall.keep
  have hk : Keep s.heap s₁.heap := Keep.of_ext hkeep
  have hlen := hr.length
  have hname : ∀ x i, (x, i) ∈ sg.vars → ∀ v, args[i]? = some v → ps[i]? = some x := fun x i hx v hv => by
    have hi : i < ps.length := by rw [← hl, hlen]; exact (List.getElem?_eq_some_iff.mp hv).1
    have e1 := List.getElem?_eq_getElem hi
    have := (K.V _ _ _ _ hx (K.par i _ e1)).mpr rfl
    rw [e1, this]
  refine ⟨⟨X.toInCall.same, List.prefix_refl _, ⟨(hI.ext hkeep).hp, ?_, ?_, ?_⟩, hk⟩, ⟨K.names, K.kind, rfl, K.fr.symm, K.gl, K.bl, fun _ => X.apart⟩⟩
  · intro g hg
    rcases List.mem_cons.mp hg with rfl | hg
    · refine ⟨⟨_, X.toInCall.ns, fun x i v hx hkd hv => ?_⟩, fun x i hx hkd => ?_, fun c hc => ?_⟩
      · have hp := hname x i hx v hv
        obtain ⟨cv, e1, r1⟩ := hr.get hv
        exact ⟨cv, bindL_zip _ hkd ps vals _ i hps hp e1, r1.keep hk⟩
      · have hkd' : sg.names.lookup x = some .cell := by rw [← K.names]; exact hkd
        rcases K.cells x i hx with hc | ⟨_, hc⟩
        · rw [hc] at hkd'; cases hkd'
        · obtain ⟨c, hc⟩ := Option.isSome_iff_exists.mp (hc (s.heap.objs.size + 1))
          have hc' : (callEnvC fd s.heap.objs.size a).cells.lookup x = some c := by
            show (cellsFrom (s.heap.objs.size + 1) fd.scope.names []).lookup x = some c
            rw [K.names]; exact hc
          refine ⟨c, _, hc', X.cell x c hc', fun v hv => ?_⟩
          have hp := hname x i hx v hv
          obtain ⟨cv, e1, r1⟩ := hr.get hv
          refine ⟨cv, bindC_zip _ (fun e => ?_) ps vals _ i hps hp e1, r1.keep hk⟩
          have e' : fd.scope.names.lookup x = some .local := e
          rw [K.names, hkd'] at e'; cases e'
      · obtain ⟨⟨x, c'⟩, hm, rfl⟩ := List.mem_map.mp hc
        refine ⟨_, X.cell x c' (lookup_nodup ?_ hm)⟩
        show ((cellsFrom (s.heap.objs.size + 1) fd.scope.names []).map (·.1)).Nodup
        rw [K.names, cf_names sg.names _ 0 [] [] rfl]
        exact K.cln
    · exact (hI.ext hkeep).sc g hg
  · refine List.pairwise_cons.mpr ⟨fun g hg => ⟨?_, fun _ c hc hcg => ?_⟩, hI.ap⟩
    · exact Nat.ne_of_gt (sc_lt (hI.sc g hg))
    · obtain ⟨⟨x, c'⟩, hm, rfl⟩ := List.mem_map.mp hc
      have h1 := X.above x c' hm
      obtain ⟨ov, hov⟩ := (hI.sc g hg).all c' hcg
      have h2 : c' < s.heap.objs.size := hov.lt
      have h3 : s.heap.objs.size < c' := h1
      exact absurd h2 (Nat.lt_asymm h3)
  · intro g hg
    rcases List.mem_cons.mp hg with rfl | hg
    · refine ⟨hI.hp.base.fresh, fun c hc => ?_⟩
      obtain ⟨⟨x, c'⟩, hm, rfl⟩ := List.mem_map.mp hc
      have h1 : s.heap.objs.size < c' := X.above x c' hm
      cases hq : C.h₀.get? c' with
      | none => rfl
      | some o => exact absurd (Heap.lt_size (hI.hp.base c' o hq)) (Nat.lt_asymm h1)
    · exact hI.nw g hg

theorem Go.drop {ι ι₁ : List Addr} {s s₁ : Shared} {f : Sc} {fs : List Sc} {μ₁ : MH} (g : Go C ι s (f :: fs) ι₁ μ₁ s₁) : Go C ι s fs ι₁ μ₁ s₁ := ⟨g.sh, g.pre, g.inv.drop, g.keep⟩

/-- a def does what its body does -/
theorem def_sound (CO : CxOk C) {a : Addr} {fd : FuncData} {body : List Stmt} {ps : List Str} {f : DS} (K : FnOk C a fd body ps sg) (hb : SSound C q n sg body f) : OpL C q (n + 1) (fun vs => call (.ref a) vs) (dDef ps.length f) := fun A s fs ι μ args vals hA hI hr hne => by
  by_cases hl : args.length = ps.length
  · have hl' : vals.length = ps.length := by rw [hr.length, hl]
    have E : dDef ps.length f args μ = (f (fun i => args[i]?) μ).bind fun r μ => .ok (match r.1 with | .ret v => v | _ => .none) μ := by simp [dDef, hl]
    rw [E] at hne ⊢
    obtain ⟨o, ho, hdata⟩ := K.ob
    have hd := hA.depth
    refine wpAny_call (codeAny_call_cells (fd := fd) (body := body) (binds := ps.zip vals) (by omega) (hI.hp.base _ _ ho) hdata (CO.lim.keeps hI.hp.base) (K.code.keeps hI.hp.base) K.body (K.bind vals hl') K.clo ?_ (fun s₁ X => ?_) K.co K.gen K.kind)
    · rintro ⟨x, v⟩ hx
      have hxp := (List.of_mem_zip hx).1
      obtain ⟨j, hj, e⟩ := List.mem_iff_getElem.mp hxp
      have hv := K.par j x (by rw [List.getElem?_eq_getElem hj, e])
      rw [K.names]
      exact (K.cells x j hv).imp id fun h => ⟨h.1, h.2 _⟩
    · obtain ⟨g1, hsg⟩ := enter_ K hI hr hl' X
      have hA' : AOk q n (⟨callEnvC fd s.heap.objs.size a, sg.vars, fun i => args[i]?, true⟩ :: fs) (A.deeper (callEnvC fd s.heap.objs.size a)) := by
        refine ⟨?_, ?_, ?_, hA.hand, hA.guards, ⟨rfl, K.kind, hA.stk⟩, .inr rfl⟩
        · show A.frames.map _ = _
          rw [hA.frames]; rfl
        · show A.depth + 1 + n < recursionLimit
          omega
        · show A.units + 3 + 20 * n + 60 < cLine
          have := hA.units
          omega
      refine wpAny_mono (hb _ s₁ ⟨callEnvC fd s.heap.objs.size a, sg.vars, fun i => args[i]?, true⟩ fs ι μ hsg hA' g1.inv (bind_ne hne)) (fun fl s₂ p => ?_) fun e s₂ p => ?_
      · obtain ⟨F, ρ', μ₂, ι₂, e2, r2, g2⟩ := p
        have g3 := (g1.trans g2).drop
        cases r2 with
        | next => exact ⟨.none, μ₂, ι₂, by rw [e2]; rfl, g3, .none⟩
        | brk => exact ⟨.none, μ₂, ι₂, by rw [e2]; rfl, g3, .none⟩
        | ret r => exact ⟨_, μ₂, ι₂, by rw [e2]; rfl, g3, r⟩
      · obtain ⟨c, μ₂, ι₂, ρ', e2, g2, r2⟩ := p
        refine leaving_ (sc := Sc.at ⟨callEnvC fd s.heap.objs.size a, sg.vars, fun i => args[i]?, true⟩ ρ') (rest := fs) (hA'.at ρ').frames (hA'.at ρ').stk rfl g2.inv r2 fun s₃ g4 f4 => ?_
        exact ⟨c, μ₂, ι₂, by rw [e2]; rfl, ((g1.trans g2).trans g4).drop, f4.fly⟩
  · exact absurd (by simp [dDef, hl]) hne

/-! calls -/
noncomputable def dCall (g : List MV → MH → Out MV) (fa : DL) : D := fun ρ μ => (fa ρ μ).bind g

theorem args_ {e : Expr} {es : List Expr} {fa : DL} {g : List MV → MH → Out MV} (hL : LSound C q n sg (e :: es) fa) (hns : NoStar (e :: es)) {A : Around} {s : Shared} {sc : Sc} {rest : List Sc} {ι : List Addr} {μ : MH} {fv : Value} {pos : Pos} {Q : Args → Shared → Prop}
    (hs : SgOk sg sc) (hA : AOk q n (sc :: rest) A) (hI : Inv C.h₀ (sc :: rest) ι μ s.heap) (hne : (fa sc.ρ μ).bind g ≠ .stuck)
    (k : ∀ vs μ₁ ι₁ xs s₁, fa sc.ρ μ = .ok vs μ₁ → Go C ι s (sc :: rest) ι₁ μ₁ s₁ → RelAll C.h₀ ι₁ s₁.heap vs xs → g vs μ₁ ≠ .stuck → xs.length = (e :: es).length → Q ⟨xs, []⟩ s₁) :
    wpAny (model C.prog C.w) A (evalArgs fv true (backTo pos (starEach (e :: es) sc.env)) []) Q (XPost C ι s (sc :: rest) ((fa sc.ρ μ).bind g)) s := by
  rw [backTo_plain hns]
  refine Calls.evalArgs_plain (wpAny_mono (hL A s sc rest ι μ hs hA hI (bind_ne hne)) (fun xs s₁ p => ?_) fun _ _ p => p.bind)
  obtain ⟨hlen, vs, μ₁, ι₁, e1, g1, r1⟩ := p
  refine k vs μ₁ ι₁ xs s₁ e1 g1 r1 (fun e2 => hne ?_) hlen
  rw [e1]; exact e2

/-- a call of a def of the text by its name -/
theorem snd_call (CO : CxOk C) {x : Str} {a : Addr} {o : Obj} {fd : FuncData} {e : Expr} {es : List Expr} {np pos : Pos} {fa : DL} {g : List MV → MH → Out MV} (hg : OpL C q n (fun vs => call (.ref a) vs) g)
    (hk : sg.names.lookup x = some .globalImplicit) (hv : C.mg x = some (.ref a)) (hd : (x == ("__debug__" : Str)) = false) (ho : C.h₀.get? a = some o) (hdata : o.data = .func fd) (hL : LSound C q n sg (e :: es) fa) (hns : NoStar (e :: es)) :
    ESound C q n sg (.Call (.Name x np) (e :: es) [] pos) (dCall g fa) := fun A s sc rest ι μ hs hA hI hne => by
  refine wpAny_Call_NameR (name_glob CO hs hI hk (.inl hv) hd ?_)
  refine Calls.callWith_function (o := o) (fd := fd) (args_ hL hns hs hA hI hne fun vs μ₁ ι₁ xs s₁ e1 g1 r1 hne1 hlen => ⟨⟨g1.inv.hp.base _ _ ho, hdata⟩, ?_⟩)
  have E : dCall g fa sc.ρ μ = g vs μ₁ := by unfold dCall; first | (rw [e1]; done) | (rw [e1]; rfl)
  rw [E]
  exact wpAny_mono (hg A s₁ (sc :: rest) ι₁ μ₁ vs xs hA g1.inv r1 hne1) (fun _ _ p => p.after g1) fun _ _ p => p.after g1

/-- a call of a builtin function -/
theorem snd_callB (CO : CxOk C) {x : Str} {id : String} {e : Expr} {es : List Expr} {np pos : Pos} {fa : DL} {g : List MV → MH → Out MV} (hg : OpL C q n (fun vs => call (.builtin id) vs) g)
    (hk : sg.names.lookup x = some .globalImplicit) (hv : C.mg x = none ∧ C.mb x = some (.builtin id)) (hd : (x == ("__debug__" : Str)) = false) (hL : LSound C q n sg (e :: es) fa) (hns : NoStar (e :: es)) :
    ESound C q n sg (.Call (.Name x np) (e :: es) [] pos) (dCall g fa) := fun A s sc rest ι μ hs hA hI hne => by
  refine wpAny_Call_NameR (name_glob CO hs hI hk (.inr hv) hd ?_)
  refine Calls.callWith_builtin (by rw [backTo_plain hns]; simp) (args_ hL hns hs hA hI hne fun vs μ₁ ι₁ xs s₁ e1 g1 r1 hne1 hlen => ?_)
  have E : dCall g fa sc.ρ μ = g vs μ₁ := by unfold dCall; first | (rw [e1]; done) | (rw [e1]; rfl)
  rw [E]
  exact wpAny_mono (hg A s₁ (sc :: rest) ι₁ μ₁ vs xs hA g1.inv r1 hne1) (fun _ _ p => p.after g1) fun _ _ p => p.after g1
/-- a call of a builtin type -/
theorem snd_callT (CO : CxOk C) {x : Str} {T : String} {e : Expr} {es : List Expr} {np pos : Pos} {fa : DL} {g : List MV → MH → Out MV} (hg : OpL C q n (fun vs => call (.type T) vs) g)
    (hk : sg.names.lookup x = some .globalImplicit) (hv : C.mg x = none ∧ C.mb x = some (.type T)) (hd : (x == ("__debug__" : Str)) = false) (hL : LSound C q n sg (e :: es) fa) (hns : NoStar (e :: es)) :
    ESound C q n sg (.Call (.Name x np) (e :: es) [] pos) (dCall g fa) := fun A s sc rest ι μ hs hA hI hne => by
  refine wpAny_Call_NameR (name_glob CO hs hI hk (.inr hv) hd ?_)
  refine callWith_type (by rw [backTo_plain hns]; simp) (args_ hL hns hs hA hI hne fun vs μ₁ ι₁ xs s₁ e1 g1 r1 hne1 hlen => ?_)
  have E : dCall g fa sc.ρ μ = g vs μ₁ := by unfold dCall; first | (rw [e1]; done) | (rw [e1]; rfl)
  rw [E]
  exact wpAny_mono (hg A s₁ (sc :: rest) ι₁ μ₁ vs xs hA g1.inv r1 hne1) (fun _ _ p => p.after g1) fun _ _ p => p.after g1
end
end Mine

set_option linter.unusedVariables false
namespace Mine
open PySem

section
variable {C : Cx} {q : Bool} {n : Nat} {sg : Sg}

/-! len -/
noncomputable def lenI (k : Nat) (μ : MH) : Out MV := if k < 2 ^ 62 then .ok (.int (k : Int)) μ else .stuck
noncomputable def lenM : List MV → MH → Out MV
  | [.lst k], μ => match μ[k]? with | some xs => lenI xs.length μ | none => .stuck
  | [.tup xs], μ => lenI xs.length μ
  | [.str x], μ => lenI x.length μ
  | [.scr ns], μ => lenI ns.length μ
  | _, _ => .stuck
theorem lenM_lst (k : Nat) (μ : MH) : lenM [.lst k] μ = (match μ[k]? with | some xs => lenI xs.length μ | none => .stuck) := (rfl)
theorem op_len : OpL C q n (fun vs => call (.builtin "len") vs) lenM := fun A s fs ι μ args xs hA hI hr hne => by
  cases args with
  | nil => exact absurd rfl hne
  | cons w l => cases l with
    | cons _ _ => cases w <;> exact absurd rfl hne
    | nil =>
      obtain ⟨x, rfl, r⟩ := hr.one_inv
      cases w with
      | lst k =>
        obtain ⟨a, hk⟩ := r.lst_inv
        cases e1 : μ[k]? with
        | none => exact absurd (by rw [lenM_lst, e1]) hne
        | some ys =>
          by_cases hl : ys.length < 2 ^ 62
          · obtain ⟨a', vs, m, p1, p2, p3⟩ := hI.hp.at_ k ys e1
            rw [hk] at p1; cases p1
            have hlen := p3.length
            have e : lenM [.lst k] μ = .ok (.int ys.length) μ := by rw [lenM_lst, e1]; exact if_pos hl
            rw [e]
            refine Calls.call_len_list p2.isList (by simp [hlen]; omega) ?_
            simp only [List.size_toArray, hlen]
            exact EPost.same hI (.int _ _)
          · exact absurd (by rw [lenM_lst, e1]; exact if_neg hl) hne
      | tup ys =>
        obtain ⟨a, vs, m, ht, rt⟩ := r.tup_inv
        by_cases hl : ys.length < 2 ^ 62
        · have hlen := rt.length
          have e : lenM [.tup ys] μ = .ok (.int ys.length) μ := if_pos hl
          rw [e]
          refine P.len_tuple ht (by simp [hlen]; omega) ?_
          simp only [List.size_toArray, hlen]
          exact EPost.same hI (.int _ _)
        · exact absurd (if_neg hl) hne
      | str x =>
        obtain ⟨t⟩ := r.str_inv
        by_cases hl : x.length < 2 ^ 62
        · have e : lenM [.str x] μ = .ok (.int x.length) μ := if_pos hl
          rw [e]
          exact PyProof.Rows.len_str (by omega) (EPost.same hI (.int _ _))
        · exact absurd (if_neg hl) hne
      | scr ns =>
        obtain ⟨a, vs, m, hl0, hn, hi⟩ := r.scr_inv
        by_cases hl : ns.length < 2 ^ 62
        · have e : lenM [.scr ns] μ = .ok (.int ns.length) μ := if_pos hl
          rw [e]
          refine Calls.call_len_list (IsL.isList (hI.hp.base _ _ hl0)) (by simp [hn]; omega) ?_
          simp only [List.size_toArray, hn]
          exact EPost.same hI (.int _ _)
        · exact absurd (if_neg hl) hne
      | _ => exact absurd rfl hne

/-! isinstance against int, bool, str, list, tuple -/
inductive Ty where
  | int | bool | str | list | tuple
noncomputable def Ty.name : Ty → String
  | .int => "int" | .bool => "bool" | .str => "str" | .list => "list" | .tuple => "tuple"
noncomputable def Ty.has : Ty → MV → Option Bool
  | .int, .int _ | .int, .bool _ | .bool, .bool _ | .str, .str _ | .list, .lst _ | .list, .scr _ | .tuple, .tup _ => some true
  | _, .exc _ => none
  | _, _ => some false
noncomputable def isiM (T : Ty) (v : MV) (μ : MH) : Out MV := match T.has v with | some b => .ok (.bool b) μ | none => .stuck
theorem op_isi (T : Ty) : Op1 C q n (fun x => call (.builtin "isinstance") [x, .type T.name]) (isiM T) := fun A s fs ι μ a x hA hI ra hne => by
  cases a with
  | none => obtain rfl := ra.none_inv; cases T <;> first
    | exact IsiPair.NoneType_int (EPost.same hI (.bool _)) | exact IsiPair.NoneType_bool (EPost.same hI (.bool _)) | exact IsiPair.NoneType_str (EPost.same hI (.bool _)) | exact IsiPair.NoneType_list (EPost.same hI (.bool _)) | exact IsiPair.NoneType_tuple (EPost.same hI (.bool _))
  | bool b => obtain rfl := ra.bool_inv; cases T <;> first
    | exact IsiPair.bool_int (EPost.here hI (.bool _)) | exact IsiPair.bool_bool (EPost.here hI (.bool _)) | exact IsiPair.bool_str (EPost.same hI (.bool _)) | exact IsiPair.bool_list (EPost.same hI (.bool _)) | exact IsiPair.bool_tuple (EPost.same hI (.bool _))
  | int i => obtain ⟨t⟩ := ra.int_inv; cases T <;> first
    | exact IsiPair.int_int (EPost.here hI (.bool _)) | exact IsiPair.int_bool (EPost.same hI (.bool _)) | exact IsiPair.int_str (EPost.same hI (.bool _)) | exact IsiPair.int_list (EPost.same hI (.bool _)) | exact IsiPair.int_tuple (EPost.same hI (.bool _))
  | str i => obtain ⟨t⟩ := ra.str_inv; cases T <;> first
    | exact IsiPair.str_int (EPost.same hI (.bool _)) | exact IsiPair.str_bool (EPost.same hI (.bool _)) | exact IsiPair.str_str (EPost.here hI (.bool _)) | exact IsiPair.str_list (EPost.same hI (.bool _)) | exact IsiPair.str_tuple (EPost.same hI (.bool _))
  | tup ys => obtain ⟨ad, vs, m, ht, rt⟩ := ra.tup_inv; cases T <;> first
    | exact IsiPair.tuple_int ht rfl (EPost.same hI (.bool _)) | exact IsiPair.tuple_bool ht rfl (EPost.same hI (.bool _)) | exact IsiPair.tuple_str ht rfl (EPost.same hI (.bool _)) | exact IsiPair.tuple_list ht rfl (EPost.same hI (.bool _)) | exact IsiPair.tuple_tuple ht rfl (EPost.here hI (.bool _))
  | lst k =>
    obtain ⟨ad, hk⟩ := ra.lst_inv
    have hlt : k < μ.length := by rw [← hI.hp.len]; exact (List.getElem?_eq_some_iff.mp hk).1
    obtain ⟨a', vs, m, p1, p2, p3⟩ := hI.hp.at_ k (μ[k]'hlt) (List.getElem?_eq_getElem hlt)
    rw [hk] at p1; cases p1
    cases T <;> first
    | exact IsiPair.list_int p2 rfl (EPost.same hI (.bool _)) | exact IsiPair.list_bool p2 rfl (EPost.same hI (.bool _)) | exact IsiPair.list_str p2 rfl (EPost.same hI (.bool _)) | exact IsiPair.list_list p2 rfl (EPost.here hI (.bool _)) | exact IsiPair.list_tuple p2 rfl (EPost.same hI (.bool _))
  | scr ns =>
    obtain ⟨ad, vs, m, hl, hn, hi⟩ := ra.scr_inv
    have p2 := hI.hp.base _ _ hl
    cases T <;> first
    | exact IsiPair.list_int p2 rfl (EPost.same hI (.bool _)) | exact IsiPair.list_bool p2 rfl (EPost.same hI (.bool _)) | exact IsiPair.list_str p2 rfl (EPost.same hI (.bool _)) | exact IsiPair.list_list p2 rfl (EPost.here hI (.bool _)) | exact IsiPair.list_tuple p2 rfl (EPost.same hI (.bool _))
  | exc _ => cases T <;> exact absurd rfl hne

noncomputable def dOp1 (g : MV → MH → Out MV) (f : D) : D := fun ρ μ => (f ρ μ).bind g
/-- isinstance(e, T): the type's name stands there -/
theorem snd_isi (CO : CxOk C) (T : Ty) {x t : Str} {e : Expr} {np tp pos : Pos} {f : D} (he : ESound C q n sg e f) (hst : ∀ env, starEach [e, .Name t tp] env = [(false, eval e env), (false, eval (.Name t tp) env)])
    (hk : sg.names.lookup x = some .globalImplicit) (hv : C.mg x = none ∧ C.mb x = some (.builtin "isinstance")) (hd : (x == ("__debug__" : Str)) = false)
    (hk' : sg.names.lookup t = some .globalImplicit) (hv' : C.mg t = none ∧ C.mb t = some (.type T.name)) (hd' : (t == ("__debug__" : Str)) = false) :
    ESound C q n sg (.Call (.Name x np) [e, .Name t tp] [] pos) (dOp1 (isiM T) f) := fun A s sc rest ι μ hs hA hI hne => by
  have hns : NoStar [e, .Name t tp] := hst
  refine wpAny_Call_NameR (name_glob CO hs hI hk (.inr hv) hd ?_)
  refine Calls.callWith_builtin (by rw [backTo_plain hns]; simp) ?_
  rw [backTo_plain hns]
  refine Calls.evalArgs_plain (Calls.spliced_cons (then_ he hs hA hI hne fun v μ₁ ι₁ y s₁ e1 g1 r1 hne1 => ?_))
  refine Calls.spliced_cons (name_glob CO hs g1.inv hk' (.inr hv') hd' (Calls.spliced_nil ?_))
  have E : dOp1 (isiM T) f sc.ρ μ = isiM T v μ₁ := by unfold dOp1; first | (rw [e1]; done) | (rw [e1]; rfl)
  rw [E]
  exact wpAny_mono (op_isi T A s₁ (sc :: rest) ι₁ μ₁ v y hA g1.inv r1 hne1) (fun _ _ p => p.after g1) fun _ _ p => p.after g1

/-! list(xs), tuple(xs), int(b) -/
noncomputable def listM : List MV → MH → Out MV
  | [.lst k], μ => match μ[k]? with | some xs => if xs.length ≤ sizeLine then .ok (.lst μ.length) (μ ++ [xs]) else .stuck | none => .stuck
  | _, _ => .stuck
/-- a new list that was filled on its way -/
theorem Inv.newListAt {h₀ h h' : Heap} {fs : List Sc} {ι : List Addr} {μ : MH} {a : Addr} {m : Nat} (I : Inv h₀ fs ι μ h) (x : ∀ b o, h.get? b = some o → h'.get? b = some o) (hn : h.get? a = none) {xs : List MV} {vs : List Value} (hl : IsL h' a vs.toArray m) (r : RelAll h₀ ι h xs vs) :
    Inv h₀ fs (ι ++ [a]) (μ ++ [xs]) h' := by
  have K := Keep.of_ext x
  have I' := I.ext x
  have hfresh : a ∉ ι := fun hm => by
    obtain ⟨k, hk, e⟩ := List.mem_iff_getElem.mp hm
    have hk' : k < μ.length := by rw [← I.hp.len]; exact hk
    obtain ⟨a', us, n, e1, e2, _⟩ := I.hp.at_ k (μ[k]'hk') (List.getElem?_eq_getElem hk')
    rw [List.getElem?_eq_getElem hk, e] at e1
    cases e1
    rw [IsL, hn] at e2; cases e2
  refine ⟨⟨I'.hp.base, by simp [I.hp.len], ?_, ?_, fun k ys hk => ?_⟩, fun g hg => ?_, I.ap, I.nw⟩
  · refine List.nodup_append.mpr ⟨I.hp.nd, List.nodup_cons.mpr ⟨by simp, List.nodup_nil⟩, fun a' ha b hb => ?_⟩
    rw [List.mem_singleton.mp hb]; rintro rfl; exact hfresh ha
  · intro a' ha
    rcases List.mem_append.mp ha with ha | ha
    · exact I.hp.new a' ha
    · rw [List.mem_singleton.mp ha]
      cases hq : h₀.get? a with
      | none => rfl
      | some o => have := I.hp.base a o hq; rw [hn] at this; cases this
  · by_cases hlt : k < μ.length
    · rw [List.getElem?_append_left hlt] at hk
      obtain ⟨a', us, n, e1, e2, e3⟩ := I.hp.at_ k ys hk
      refine ⟨a', us, n, ?_, x _ _ e2, e3.mono (List.prefix_append ..) K⟩
      rw [List.getElem?_append_left (by rw [I.hp.len]; exact hlt)]; exact e1
    · have hlt' : k = μ.length := by
        have := (List.getElem?_eq_some_iff.mp hk).1
        simp at this; omega
      subst hlt'
      simp at hk; subst hk
      refine ⟨a, vs, m, ?_, hl, r.mono (List.prefix_append ..) K⟩
      rw [← I.hp.len]; simp
  · exact (I.sc g hg).mono (List.prefix_append ..) K (fun m hn => hn.keeps x) fun c ov _ hc => hc.keeps x
theorem listM_lst (k : Nat) (μ : MH) : listM [.lst k] μ = (match μ[k]? with | some xs => if xs.length ≤ sizeLine then .ok (.lst μ.length) (μ ++ [xs]) else .stuck | none => .stuck) := (rfl)
theorem op_list : OpL C q n (fun vs => call (.type "list") vs) listM := fun A s fs ι μ args xs hA hI hr hne => by
  cases args with
  | nil => exact absurd rfl hne
  | cons w l => cases l with
    | cons _ _ => cases w <;> exact absurd rfl hne
    | nil =>
      obtain ⟨x, rfl, r⟩ := hr.one_inv
      cases w with
      | lst k =>
        obtain ⟨a, hk⟩ := r.lst_inv
        cases e1 : μ[k]? with
        | none => exact absurd (by rw [listM_lst, e1]) hne
        | some ys =>
          by_cases hl : ys.length ≤ sizeLine
          · obtain ⟨a', vs, m, p1, p2, p3⟩ := hI.hp.at_ k ys e1
            rw [hk] at p1; cases p1
            have hlen := p3.length
            have e : listM [.lst k] μ = .ok (.lst μ.length) (μ ++ [ys]) := by rw [listM_lst, e1]; exact if_pos hl
            rw [e]
            refine call_list_seq _ (.inl rfl) p2 rfl rfl (fun h' c' hx hl' => ?_) (by simpa [hlen] using hl)
            have hnone : s.heap.get? s.heap.objs.size = none := by
              cases hq : s.heap.get? s.heap.objs.size with
              | none => rfl
              | some o => exact absurd (Heap.lt_size hq) (Nat.lt_irrefl _)
            have I' := hI.newListAt hx hnone hl' p3
            refine ⟨.lst μ.length, _, _, rfl, ⟨⟨_, _, rfl⟩, List.prefix_append .., I', Keep.of_ext hx⟩, .lst ?_⟩
            rw [← hI.hp.len]; simp
          · exact absurd (by rw [listM_lst, e1]; exact if_neg hl) hne
      | _ => exact absurd rfl hne
noncomputable def tupleM : List MV → MH → Out MV
  | [.lst k], μ => match μ[k]? with | some xs => if xs.length ≤ sizeLine then .ok (.tup xs) μ else .stuck | none => .stuck
  | _, _ => .stuck
theorem tupleM_lst (k : Nat) (μ : MH) : tupleM [.lst k] μ = (match μ[k]? with | some xs => if xs.length ≤ sizeLine then .ok (.tup xs) μ else .stuck | none => .stuck) := (rfl)
theorem op_tuple : OpL C q n (fun vs => call (.type "tuple") vs) tupleM := fun A s fs ι μ args xs hA hI hr hne => by
  cases args with
  | nil => exact absurd rfl hne
  | cons w l => cases l with
    | cons _ _ => cases w <;> exact absurd rfl hne
    | nil =>
      obtain ⟨x, rfl, r⟩ := hr.one_inv
      cases w with
      | lst k =>
        obtain ⟨a, hk⟩ := r.lst_inv
        cases e1 : μ[k]? with
        | none => exact absurd (by rw [tupleM_lst, e1]) hne
        | some ys =>
          by_cases hl : ys.length ≤ sizeLine
          · obtain ⟨a', vs, m, p1, p2, p3⟩ := hI.hp.at_ k ys e1
            rw [hk] at p1; cases p1
            have hlen := p3.length
            have e : tupleM [.lst k] μ = .ok (.tup ys) μ := by rw [tupleM_lst, e1]; exact if_pos hl
            rw [e]
            refine call_tuple_list p2.isList (fun h' hx => ?_) (by simpa [hlen] using hl)
            have K := Keep.of_ext hx
            have g1 : Go C ι s fs ι μ { s with heap := h' } := ⟨⟨_, _, rfl⟩, List.prefix_refl _, hI.ext hx, K⟩
            exact (EPost.tuple g1.inv (p3.keep K)).after g1
          · exact absurd (by rw [tupleM_lst, e1]; exact if_neg hl) hne
      | _ => exact absurd rfl hne
noncomputable def intOfM : List MV → MH → Out MV
  | [.bool b], μ => .ok (.int (if b then 1 else 0)) μ
  | _, _ => .stuck
theorem op_intOf : OpL C q n (fun vs => call (.type "int") vs) intOfM := fun A s fs ι μ args xs hA hI hr hne => by
  cases args with
  | nil => exact absurd rfl hne
  | cons w l => cases l with
    | cons _ _ => cases w <;> exact absurd rfl hne
    | nil =>
      obtain ⟨x, rfl, r⟩ := hr.one_inv
      cases w with
      | bool b =>
        obtain rfl := r.bool_inv
        exact call_int_bool (EPost.same hI (.int _ _))
      | _ => exact absurd rfl hne
end
end Mine

set_option linter.unusedVariables false
namespace Mine
open PySem

section
variable {h₀ h h' : Heap} {ι ι' : List Addr}
theorem Rel.monoT (T : ∀ a o, h.get? a = some o → (∃ vs n, o.data = .seq vs n) → h'.get? a = some o) (X : ∀ a o, h.get? a = some o → ExcLike o → h'.get? a = some o) {v : MV} {x : Value} (r : Rel h₀ ι h v x) : Rel h₀ ι h' v x :=
  r.gmono (fun _ _ e => e) (fun _ _ _ ht => T _ _ ht ⟨_, _, rfl⟩) (fun a o C vs e c q d => ⟨o, vs, X _ _ e ⟨⟨_, c⟩, _, d⟩, c, q, d⟩)
theorem RelAll.monoT (T : ∀ a o, h.get? a = some o → (∃ vs n, o.data = .seq vs n) → h'.get? a = some o) (X : ∀ a o, h.get? a = some o → ExcLike o → h'.get? a = some o) {xs : List MV} {vs : List Value} (r : RelAll h₀ ι h xs vs) : RelAll h₀ ι h' xs vs :=
  r.gmono (fun _ _ e => e) (fun _ _ _ ht => T _ _ ht ⟨_, _, rfl⟩) (fun a o C vs e c q d => ⟨o, vs, X _ _ e ⟨⟨_, c⟩, _, d⟩, c, q, d⟩)

/-- the iterators W alone were turned -/
theorem Inv.butW {fs : List Sc} {μ : MH} {W : List Addr} (I : Inv h₀ fs ι μ h) (hW0 : ∀ b ∈ W, h₀.get? b = none) (hWf : ∀ b ∈ W, ∀ o, h.get? b = some o → (∃ n, o.cls = .type n) ∧ ∃ vs, o.data = .fields vs)
    (hk : ∀ b o, b ∉ W → h.get? b = some o → h'.get? b = some o) : Inv h₀ fs ι μ h' := by
  have hd : ∀ b o, h.get? b = some o → (∀ vs, o.data ≠ .fields vs) → h'.get? b = some o := fun b o e hn => hk b o (fun hb => by obtain ⟨_, vs, hv⟩ := hWf b hb o e; exact hn vs hv) e
  have T : ∀ a o, h.get? a = some o → (∃ vs n, o.data = .seq vs n) → h'.get? a = some o := fun a o e ⟨vs, n, hv⟩ => hd a o e fun us q => by rw [hv] at q; cases q
  have X : ∀ a o, h.get? a = some o → ExcLike o → h'.get? a = some o := fun a o e ⟨⟨Cc, hc⟩, _⟩ => hk a o (fun hb => by obtain ⟨⟨n, hn⟩, _⟩ := hWf a hb o e; rw [hc] at hn; cases hn) e
  refine ⟨⟨fun b o e => hk b o (fun hb => by rw [hW0 b hb] at e; cases e) (I.hp.base b o e), I.hp.len, I.hp.nd, I.hp.new, fun k xs hk' => ?_⟩, fun g hg => ?_, I.ap, I.nw⟩
  · obtain ⟨a, vs, m, e1, e2, e3⟩ := I.hp.at_ k xs hk'
    exact ⟨a, vs, m, e1, hd a _ e2 fun us q => by (cases q), e3.monoT T X⟩
  · have S := I.sc g hg
    have hns : ∀ a m, h.Ns a m → h'.Ns a m := fun a m ⟨o, es, ep, ho, hdd, r⟩ => ⟨o, es, ep, hd a o ho (fun us q => by rw [hdd] at q; cases q), hdd, r⟩
    have hce : ∀ c v, h.IsCell c v → h'.IsCell c v := fun c v ⟨o, ho, hdd⟩ => ⟨o, hd c o ho (fun us q => by rw [hdd] at q; cases q), hdd⟩
    obtain ⟨m, h1, h2⟩ := S.loc
    refine ⟨⟨m, hns _ m h1, fun x i v hx hkd hv => ?_⟩, fun x i hx hkd => ?_, fun c hm => let ⟨ov, hc⟩ := S.all c hm; ⟨ov, hce c ov hc⟩⟩
    · obtain ⟨cv, e, r⟩ := h2 x i v hx hkd hv
      exact ⟨cv, e, r.monoT T X⟩
    · obtain ⟨c, ov, e, hcell, r⟩ := S.cel x i hx hkd
      refine ⟨c, ov, e, hce c ov hcell, fun v hv => ?_⟩
      obtain ⟨cv, e', r'⟩ := r v hv
      exact ⟨cv, e', r'.monoT T X⟩
theorem Keep.butW {hs : Heap} {W : List Addr} (K : Keep hs h) (hW : ∀ b ∈ W, hs.get? b = none) (hk : ∀ b o, b ∉ W → h.get? b = some o → h'.get? b = some o) : Keep hs h' := by
  refine ⟨fun a o e f => hk a o (fun hb => by rw [hW a hb] at e; cases e) (K.fro a o e f), fun a o e f => ?_⟩
  obtain ⟨o', e', c', q', d'⟩ := K.exc a o e f
  exact ⟨o', hk a o' (fun hb => by rw [hW a hb] at e; cases e) e', c', q', d'⟩
end

section
variable {C : Cx} {q : Bool} {n : Nat} {sg : Sg}

/-- what a for loop's head does at each turn: the next item, bound to the target -/
structure Stepper (C : Cx) (A : Around) (sg : Sg) (it : Value) (target : Expr) (its : List MV) (put : Rho → MV → Rho) (G : MH → Prop) (hs : Heap) (St : Nat → List Addr → Heap → Prop) : Prop where
  keep : ∀ i ι ι' h h', St i ι h → ι <+: ι' → Keep h h' → St i ι' h'
  self : ∀ (ι : List Addr) (s : Shared) (Q : Value → Shared → Prop) (E : Value → Shared → Prop), St 0 ι s.heap → Q it s → wpAny (model C.prog C.w) A (pyIter it) Q E s
  item : ∀ (i : Nat) (v : MV) (s : Shared) (sc : Sc) (rest : List Sc) (ι : List Addr) (μ : MH) (Q : Shared → Prop) (E₁ E₂ E₃ : Value → Shared → Prop), its[i]? = some v → SgOk sg sc → Inv C.h₀ (sc :: rest) ι μ s.heap → G μ → Keep hs s.heap → St i ι s.heap →
    (∀ s', (∃ h tk, s' = { s with heap := h, toks := tk }) → Inv C.h₀ (sc.at (put sc.ρ v) :: rest) ι μ s'.heap → Keep hs s'.heap → St (i + 1) ι s'.heap → Q s') →
    wpAny (model C.prog C.w) A (pyNext it) (fun r s₁ => match r with
      | none => False
      | some x => wpAny (model C.prog C.w) A (letOwnedTupleGo target it x) (fun _ s₁' => wpAny (model C.prog C.w) A (assign target sc.env x) (fun _ s₂ => Q s₂) E₃ s₁') E₂ s₁) E₁ s
  done : ∀ (s : Shared) (sc : Sc) (rest : List Sc) (ι : List Addr) (μ : MH) (Q : Shared → Prop) (E : Value → Shared → Prop), SgOk sg sc → Inv C.h₀ (sc :: rest) ι μ s.heap → G μ → Keep hs s.heap → St its.length ι s.heap →
    (∀ s', (∃ h tk, s' = { s with heap := h, toks := tk }) → Inv C.h₀ (sc :: rest) ι μ s'.heap → Keep hs s'.heap → Q s') →
    wpAny (model C.prog C.w) A (pyNext it) (fun r s₁ => match r with | none => Q s₁ | some _ => False) E s

open Classical in
noncomputable def loopM (G : MH → Prop) (put : Rho → MV → Rho) (f : DS) : List MV → Rho → MH → Out (Fl × Rho)
  | [], ρ, μ => if G μ then .ok (.next, ρ) μ else .stuck
  | v :: vs, ρ, μ => if G μ then (f (put ρ v) μ).bind fun r μ => match r.1 with
    | .next => loopM G put f vs r.2 μ
    | .brk => .ok (.next, r.2) μ
    | .ret x => .ok (.ret x, r.2) μ else .stuck

theorem loopM_nil (G : MH → Prop) (put : Rho → MV → Rho) (f : DS) (ρ : Rho) (μ : MH) : loopM G put f [] ρ μ = (open Classical in if G μ then .ok (.next, ρ) μ else .stuck) := (rfl)
theorem loopM_cons (G : MH → Prop) (put : Rho → MV → Rho) (f : DS) (v : MV) (vs : List MV) (ρ : Rho) (μ : MH) : loopM G put f (v :: vs) ρ μ = (open Classical in if G μ then (f (put ρ v) μ).bind fun r μ => match r.1 with
    | .next => loopM G put f vs r.2 μ
    | .brk => .ok (.next, r.2) μ
    | .ret x => .ok (.ret x, r.2) μ else .stuck) := (rfl)
/-- between two turns -/
inductive LoopI (C : Cx) (sc : Sc) (rest : List Sc) (ι₀ : List Addr) (s₀ : Shared) (hs : Heap) (St : Nat → List Addr → Heap → Prop) (G : MH → Prop) (put : Rho → MV → Rho) (f : DS) (its : List MV) (o : Out (Fl × Rho)) (m : Nat) (s' : Shared) : Prop
  | mk (i : Nat) (ρ' : Rho) (μ' : MH) (ι' : List Addr) (hm : m = its.length - i) (hi : i ≤ its.length) (sh : ∃ h tk, s' = { s₀ with heap := h, toks := tk }) (pre : ι₀ <+: ι') (inv : Inv C.h₀ (sc.at ρ' :: rest) ι' μ' s'.heap) (keep : Keep hs s'.heap) (st : St i ι' s'.heap) (e : loopM G put f (its.drop i) ρ' μ' = o) : LoopI C sc rest ι₀ s₀ hs St G put f its o m s'

theorem loop_ {A : Around} {s : Shared} {sc : Sc} {rest : List Sc} {ι : List Addr} {μ : MH} {it : Value} {target : Expr} {body : List Stmt} {its : List MV} {put : Rho → MV → Rho} {G : MH → Prop} {hs : Heap} {St : Nat → List Addr → Heap → Prop} {f : DS} {s₀ : Shared} {ι₀ : List Addr} {L : Addr} {o : Out (Fl × Rho)}
    (P : Stepper C A sg it target its put G hs St) (hb : SSound C q n sg body f) (hsg : SgOk sg sc) (hA : AOk q n (sc :: rest) A) (hL : topL (sc :: rest) = some L) (hI : Inv C.h₀ (sc :: rest) ι μ s.heap) (hK : Keep s₀.heap hs) (hK' : Keep hs s.heap) (hst : St 0 ι s.heap) (hpre : ι₀ <+: ι) (hsh : ∃ h tk, s = { s₀ with heap := h, toks := tk })
    (ho : loopM G put f its sc.ρ μ = o) (hne : o ≠ .stuck) :
    codeAny (model C.prog C.w) A (.forLoop target it body [] sc.env) (fun r s' => match r with | .ok fl => SPost C ι₀ s₀ sc rest o fl s' | .error e => cameBackBy (model C.prog C.w) A sc.env (SXPost C ι₀ s₀ sc rest o) e s') s := by
  refine codeAny_forLoop_any (LoopI C sc rest ι₀ s₀ hs St G put f its o) ?_ its.length ⟨0, sc.ρ, μ, ι, by omega, by omega, hsh, hpre, hI, hK', hst, by rw [List.drop_zero]; exact ho⟩
  rintro m s' ⟨i, ρ', μ', ι', rfl, hi, hsh', hpre', hI', hKs, hst', he⟩
  have gone : ∀ s₂ fs ι₂ μ₂, (∃ h tk, s₂ = { s' with heap := h, toks := tk }) → ι' <+: ι₂ → Inv C.h₀ fs ι₂ μ₂ s₂.heap → Keep hs s₂.heap → Go C ι₀ s₀ fs ι₂ μ₂ s₂ := fun s₂ fs ι₂ μ₂ hsh₂ hp₂ hI₂ hK₂ => by
    obtain ⟨h1, t1, rfl⟩ := hsh'
    obtain ⟨h2, t2, rfl⟩ := hsh₂
    exact ⟨⟨h2, t2, rfl⟩, hpre'.trans hp₂, hI₂, hK.trans hK₂⟩
  by_cases hlt : i < its.length
  · have hd : its.drop i = its[i] :: its.drop (i + 1) := List.drop_eq_getElem_cons hlt
    rw [hd, loopM_cons] at he
    by_cases hG : G μ'
    · rw [if_pos hG] at he
      refine wpAny_mono (P.item i its[i] s' (sc.at ρ') rest ι' μ' (fun s₂ => wpAny (model C.prog C.w) A (execs body sc.env) (fun fl s₃ => match fl with
            | .next | .cont => ∃ m', m' < its.length - i ∧ LoopI C sc rest ι₀ s₀ hs St G put f its o m' s₃
            | .brk => SPost C ι₀ s₀ sc rest o .next s₃
            | .ret v => SPost C ι₀ s₀ sc rest o (.ret v) s₃) (notedBy (model C.prog C.w) A sc.env fun e s' => cameBackBy (model C.prog C.w) A sc.env (SXPost C ι₀ s₀ sc rest o) e s') s₂)
          (notedBy (model C.prog C.w) A sc.env fun e s' => cameBackBy (model C.prog C.w) A sc.env (SXPost C ι₀ s₀ sc rest o) e s') (notedBy (model C.prog C.w) A sc.env fun e s' => cameBackBy (model C.prog C.w) A sc.env (SXPost C ι₀ s₀ sc rest o) e s') (notedBy (model C.prog C.w) A sc.env fun e s' => cameBackBy (model C.prog C.w) A sc.env (SXPost C ι₀ s₀ sc rest o) e s')
          (List.getElem?_eq_getElem hlt) (hsg.at _) hI' hG hKs hst' fun s₂ hsh₂ hI₂ hK₂ hst₂ => ?_) (fun r s₁ hr => ?_) fun _ _ x => x
      rotate_left 1
      · cases r with
        | none => exact hr.elim
        | some x => exact wpAny_mono hr (fun _ s₂ hr₂ => wpAny_mono hr₂ (fun _ s₃ hr₃ => wpAny_mono hr₃ (fun fl s₄ hf => by cases fl <;> exact hf) fun _ _ x => x) fun _ _ x => x) fun _ _ x => x
      · have hne2 : f (put ρ' its[i]) μ' ≠ .stuck := fun e2 => hne (by rw [← he]; exact congrArg (fun z : Out (Fl × Rho) => z.bind _) e2)
        refine wpAny_mono (hb A s₂ (sc.at (put ρ' its[i])) rest ι' μ' (hsg.at _) (hA.at _) hI₂ hne2) (fun fl s₃ p => ?_) fun e s₃ p => ?_
        · obtain ⟨F, ρ₃, μ₃, ι₃, e3, r3, g3⟩ := p
          have e3' : f (put ρ' its[i]) μ' = .ok (F, ρ₃) μ₃ := e3
          have hI₃ : Inv C.h₀ (sc.at ρ₃ :: rest) ι₃ μ₃ s₃.heap := g3.inv
          have hsh₃ : ∃ h tk, s₃ = { s' with heap := h, toks := tk } := by
            obtain ⟨h2, t2, rfl⟩ := hsh₂
            obtain ⟨h3, t3, e4⟩ := g3.sh
            exact ⟨h3, t3, e4⟩
          have hK₃ : Keep hs s₃.heap := hK₂.trans g3.keep
          rw [e3', Out.bind_ok] at he
          cases r3 with
          | next =>
            refine ⟨its.length - (i + 1), by omega, i + 1, ρ₃, μ₃, ι₃, rfl, hlt, ?_, hpre'.trans g3.pre, hI₃, hK₃, P.keep _ _ _ _ _ hst₂ g3.pre g3.keep, he⟩
            obtain ⟨h1, t1, rfl⟩ := hsh'
            obtain ⟨h3, t3, rfl⟩ := hsh₃
            exact ⟨h3, t3, rfl⟩
          | brk => exact ⟨.next, ρ₃, μ₃, ι₃, he.symm, .next, gone s₃ _ ι₃ μ₃ hsh₃ g3.pre hI₃ hK₃⟩
          | ret r => exact ⟨.ret _, ρ₃, μ₃, ι₃, he.symm, .ret r, gone s₃ _ ι₃ μ₃ hsh₃ g3.pre hI₃ hK₃⟩
        · obtain ⟨c, μ₃, ι₃, ρ₃, e3, g3, fl3⟩ := p
          have e3' : f (put ρ' its[i]) μ' = .exc c μ₃ := e3
          have hI₃ : Inv C.h₀ (sc.at ρ₃ :: rest) ι₃ μ₃ s₃.heap := g3.inv
          have hsh₃ : ∃ h tk, s₃ = { s' with heap := h, toks := tk } := by
            obtain ⟨h2, t2, rfl⟩ := hsh₂
            obtain ⟨h3, t3, e4⟩ := g3.sh
            exact ⟨h3, t3, e4⟩
          have hK₃ : Keep hs s₃.heap := hK₂.trans g3.keep
          rw [e3', Out.bind_exc] at he
          have g0 := gone s₃ _ ι₃ μ₃ hsh₃ g3.pre hI₃ hK₃
          have hA3 : AOk q n (sc.at ρ₃ :: rest) A := hA.at ρ₃
          have hL3 : topL (sc.at ρ₃ :: rest) = some L := hL
          refine note_ (sc := sc.at ρ₃) (rest := rest) hA3.frames hA3.stk hL3 hI₃ fl3 fun s₄ g4 f4 => ?_
          obtain ⟨a, oe, vs, T, oT, ts, rfl, x2, x3, x4, x4', x5, x6, x7, x8⟩ := f4.it
          unfold cameBackBy
          refine wpAny_bind (wpAny_field x3 x5 x7 ?_)
          rw [if_neg (by simp)]
          refine flight_ g4.inv f4 fun s₅ g5 f5 => ?_
          exact ⟨c, μ₃, ι₃, ρ₃, he.symm, (g0.trans g4).trans g5, f5.fly⟩
    · rw [if_neg hG] at he; exact absurd he.symm hne
  · have hil : i = its.length := by omega
    subst hil
    rw [List.drop_length, loopM_nil] at he
    by_cases hG : G μ'
    · rw [if_pos hG] at he
      refine wpAny_mono (P.done s' (sc.at ρ') rest ι' μ' (fun s₂ => SPost C ι₀ s₀ sc rest o .next s₂) _ (hsg.at _) hI' hG hKs hst' fun s₂ hsh₂ hI₂ hK₂ => ?_) (fun r s₁ hr => ?_) fun _ _ x => x
      rotate_left 1
      · cases r with
        | none => exact wpAny_execs_nil hr
        | some x => exact hr.elim
      · exact ⟨.next, ρ', μ', ι', he.symm, .next, gone s₂ _ ι' μ' hsh₂ (List.prefix_refl _) hI₂ hK₂⟩
    · rw [if_neg hG] at he; exact absurd he.symm hne
end
end Mine

set_option linter.unusedVariables false
namespace Mine
open PySem

section
variable {C : Cx} {q : Bool} {n : Nat} {sg : Sg}

noncomputable def putAt (i : Nat) (ρ : Rho) (v : MV) : Rho := ρ.set i v
/-- the names that a target binds -/
structure NameOk (sg : Sg) (x : Str) (i : Nat) : Prop where
  V : VarsOk sg.vars
  hx : (x, i) ∈ sg.vars
  hk : sg.names.lookup x = some .local ∨ (sg.names.lookup x = some .cell ∧ sg.fr = true)

theorem step_name {A : Around} {s s₁ : Shared} {sc : Sc} {rest : List Sc} {ι : List Addr} {μ : MH} {hs : Heap} {x : Str} {i : Nat} {p : Pos} {v : MV} {cv : Value} {it : Value} {E₂ E₃ : Value → Shared → Prop} {Q : Shared → Prop} (N : NameOk sg x i) (hsg : SgOk sg sc) (hI : Inv C.h₀ (sc :: rest) ι μ s₁.heap) (hK : Keep hs s₁.heap) (r : Rel C.h₀ ι s₁.heap v cv)
    (hsh : ∃ h tk, s₁ = { s with heap := h, toks := tk })
    (k : ∀ s', (∃ h tk, s' = { s with heap := h, toks := tk }) → Inv C.h₀ (sc.at (putAt i sc.ρ v) :: rest) ι μ s'.heap → Keep hs s'.heap → Keep s₁.heap s'.heap → Q s') :
    wpAny (model C.prog C.w) A (letOwnedTupleGo (.Name x p) it cv) (fun _ s₁' => wpAny (model C.prog C.w) A (assign (.Name x p) sc.env cv) (fun _ s₂ => Q s₂) E₃ s₁') E₂ s₁ := by
  refine wpAny_pure (wpAny_assign_Name (store_ hsg N.V N.hx N.hk (Go.refl hI) r fun s₂ g K => ?_))
  refine k s₂ ?_ g.inv (hK.trans K) K
  obtain ⟨h1, t1, rfl⟩ := hsh
  obtain ⟨h2, t2, rfl⟩ := g.sh
  exact ⟨h2, t2, rfl⟩

/-! a list of ours -/
noncomputable def LstSt (I : Addr) (k : Nat) (l : Addr) (i : Nat) (ι : List Addr) (h : Heap) : Prop := ι[k]? = some l ∧ h.IsListIter I l i
theorem frozen_iter {o : Obj} {n : String} {vs : Array Value} (hc : o.cls = .type n) (hd : o.data = .fields vs) (hn : n ≠ "traceback") : Frozen o := .inr ⟨n, hc, hn, vs, hd⟩
theorem stepper_list {A : Around} {x : Str} {i : Nat} {p : Pos} {I : Addr} {k : Nat} {l : Addr} {its : List MV} {hs : Heap} (hh : A.handled = none) (N : NameOk sg x i) (hI0 : C.h₀.get? I = none) (hIs : hs.get? I = none) :
    Stepper C A sg (.ref I) (.Name x p) its (putAt i) (fun μ => μ[k]? = some its) hs (LstSt I k l) where
  keep := fun j ι ι' h h' ⟨h1, o, ho, hc, hd⟩ hp K => ⟨by obtain ⟨t, rfl⟩ := hp; rw [List.getElem?_append_left (List.getElem?_eq_some_iff.mp h1).1]; exact h1, o, K.fro _ _ ho (frozen_iter hc hd (by decide)), hc, hd⟩
  self := fun ι s Q E hst h => wpAny_pyIter_listiter hst.2 h
  item := fun j v s sc rest ι μ Q E₁ E₂ E₃ hv hsg hI hG hK hst kont => by
    obtain ⟨h1, hit⟩ := hst
    obtain ⟨l', vs, m, e1, e2, e3⟩ := hI.hp.at_ k its hG
    rw [h1] at e1; cases e1
    obtain ⟨cv, c1, c2⟩ := e3.get hv
    refine wpAny_pyNext_list_item hit e2.isList (by simpa using c1) fun h' hit' hsb => ?_
    have hW : ∀ b o, b ∉ [I] → s.heap.get? b = some o → h'.get? b = some o := fun b o hb e => (hsb.2 b fun q => hb (by rw [q]; exact List.mem_singleton.mpr rfl)).trans e
    have hI' : Inv C.h₀ (sc :: rest) ι μ h' := hI.butW (W := [I]) (fun b hb => by rw [List.mem_singleton.mp hb]; exact hI0) (fun b hb o ho => by
      rw [List.mem_singleton.mp hb] at ho
      obtain ⟨o', ho', hc', hd'⟩ := hit
      rw [ho'] at ho; cases ho
      exact ⟨⟨_, hc'⟩, _, hd'⟩) hW
    have hK' : Keep hs h' := hK.butW (W := [I]) (fun b hb => by rw [List.mem_singleton.mp hb]; exact hIs) hW
    obtain ⟨l', vs', m', e1', e2', e3'⟩ := hI'.hp.at_ k its hG
    have c2' : Rel C.h₀ ι h' v cv := by
      rw [h1] at e1'; cases e1'
      have hne : l ≠ I := by
        rintro rfl
        obtain ⟨o', ho', hc', hd'⟩ := hit
        rw [e2] at ho'; cases ho'; cases hd'
      have : IsL h' l vs.toArray m := (hsb.2 l hne).trans e2
      rw [IsL, e2'] at this
      cases this
      obtain ⟨cv', c1', c2'⟩ := e3'.get hv
      rw [c1] at c1'; cases c1'
      exact c2'
    exact step_name (s := s) N hsg hI' hK' c2' ⟨_, _, rfl⟩ fun s' hsh hI'' hK'' K => kont s' hsh hI'' hK'' ⟨h1, let ⟨o, ho, hc, hd⟩ := hit'; ⟨o, K.fro _ _ ho (frozen_iter hc hd (by decide)), hc, hd⟩⟩
  done := fun s sc rest ι μ Q E hsg hI hG hK hst kont => by
    obtain ⟨h1, hit⟩ := hst
    obtain ⟨l', vs, m, e1, e2, e3⟩ := hI.hp.at_ k its hG
    rw [h1] at e1; cases e1
    have hlen := e3.length
    refine wpAny_pyNext_list_end hh hit e2.isList (by simp [hlen]) fun h' hsb => ?_
    have hW : ∀ b o, b ∉ [I] → s.heap.get? b = some o → h'.get? b = some o := fun b o hb e => hsb b o (fun q => hb (by rw [q]; exact List.mem_singleton.mpr rfl)) e
    refine kont _ ⟨_, _, rfl⟩ (hI.butW (W := [I]) (fun b hb => by rw [List.mem_singleton.mp hb]; exact hI0) (fun b hb o ho => by
      rw [List.mem_singleton.mp hb] at ho
      obtain ⟨o', ho', hc', hd'⟩ := hit
      rw [ho'] at ho; cases ho
      exact ⟨⟨_, hc'⟩, _, hd'⟩) hW) (hK.butW (W := [I]) (fun b hb => by rw [List.mem_singleton.mp hb]; exact hIs) hW)

/-! a tuple -/
noncomputable def TupSt (C : Cx) (I t : Addr) (vs : List Value) (m : Nat) (its : List MV) (i : Nat) (ι : List Addr) (h : Heap) : Prop := h.IsTupleIter I t i ∧ IsT h t vs.toArray m ∧ RelAll C.h₀ ι h its vs
theorem stepper_tuple {A : Around} {x : Str} {i : Nat} {p : Pos} {I t : Addr} {vs : List Value} {m : Nat} {its : List MV} {hs : Heap} (hh : A.handled = none) (N : NameOk sg x i) (hI0 : C.h₀.get? I = none) (hIs : hs.get? I = none) :
    Stepper C A sg (.ref I) (.Name x p) its (putAt i) (fun _ => True) hs (TupSt C I t vs m its) where
  keep := fun j ι ι' h h' ⟨⟨o, ho, hc, hd⟩, h2, h3⟩ hp K => ⟨⟨o, K.fro _ _ ho (frozen_iter hc hd (by decide)), hc, hd⟩, K.fro _ _ h2 (frozen_tuple ..), h3.mono hp K⟩
  self := fun ι s Q E hst h => wpAny_pyIter_tupleiter hst.1 h
  item := fun j v s sc rest ι μ Q E₁ E₂ E₃ hv hsg hI hG hK hst kont => by
    obtain ⟨hit, ht, hr⟩ := hst
    obtain ⟨cv, c1, c2⟩ := hr.get hv
    refine wpAny_pyNext_tuple_item hit ⟨_, ht, rfl, m, rfl⟩ (by simpa using c1) fun h' hit' hsb => ?_
    have hW : ∀ b o, b ∉ [I] → s.heap.get? b = some o → h'.get? b = some o := fun b o hb e => (hsb.2 b fun q => hb (by rw [q]; exact List.mem_singleton.mpr rfl)).trans e
    have hWf : ∀ b ∈ [I], ∀ o, s.heap.get? b = some o → (∃ n, o.cls = .type n) ∧ ∃ vs, o.data = .fields vs := fun b hb o ho => by
      rw [List.mem_singleton.mp hb] at ho
      obtain ⟨o', ho', hc', hd'⟩ := hit
      rw [ho'] at ho; cases ho
      exact ⟨⟨_, hc'⟩, _, hd'⟩
    have hI' : Inv C.h₀ (sc :: rest) ι μ h' := hI.butW (W := [I]) (fun b hb => by rw [List.mem_singleton.mp hb]; exact hI0) hWf hW
    have hK' : Keep hs h' := hK.butW (W := [I]) (fun b hb => by rw [List.mem_singleton.mp hb]; exact hIs) hW
    have T : ∀ a o, s.heap.get? a = some o → (∃ vs n, o.data = .seq vs n) → h'.get? a = some o := fun a o e ⟨us, n, hu⟩ => hW a o (fun hb => by obtain ⟨_, ws, hw⟩ := hWf a hb o e; rw [hu] at hw; cases hw) e
    have X : ∀ a o, s.heap.get? a = some o → ExcLike o → h'.get? a = some o := fun a o e ⟨⟨Cc, hc⟩, _⟩ => hW a o (fun hb => by obtain ⟨⟨n, hn⟩, _⟩ := hWf a hb o e; rw [hc] at hn; cases hn) e
    exact step_name (s := s) N hsg hI' hK' (c2.monoT T X) ⟨_, _, rfl⟩ fun s' hsh hI'' hK'' K => kont s' hsh hI'' hK'' ⟨let ⟨o, ho, hc, hd⟩ := hit'; ⟨o, K.fro _ _ ho (frozen_iter hc hd (by decide)), hc, hd⟩, K.fro _ _ (T _ _ ht ⟨_, _, rfl⟩) (frozen_tuple ..), (hr.monoT T X).keep K⟩
  done := fun s sc rest ι μ Q E hsg hI hG hK hst kont => by
    obtain ⟨hit, ht, hr⟩ := hst
    have hlen := hr.length
    refine wpAny_pyNext_tuple_end hh hit ⟨_, ht, rfl, m, rfl⟩ (by simp [hlen]) fun h' hsb => ?_
    have hW : ∀ b o, b ∉ [I] → s.heap.get? b = some o → h'.get? b = some o := fun b o hb e => hsb b o (fun q => hb (by rw [q]; exact List.mem_singleton.mpr rfl)) e
    refine kont _ ⟨_, _, rfl⟩ (hI.butW (W := [I]) (fun b hb => by rw [List.mem_singleton.mp hb]; exact hI0) (fun b hb o ho => by
      rw [List.mem_singleton.mp hb] at ho
      obtain ⟨o', ho', hc', hd'⟩ := hit
      rw [ho'] at ho; cases ho
      exact ⟨⟨_, hc'⟩, _, hd'⟩) hW) (hK.butW (W := [I]) (fun b hb => by rw [List.mem_singleton.mp hb]; exact hIs) hW)

/-! a range by ones -/
noncomputable def rangeL (a b : Int) : List MV := (List.range (b - a).toNat).map fun (i : Nat) => .int (a + (i : Int))
theorem rangeL_len (a b : Int) : (rangeL a b).length = (b - a).toNat := by simp [rangeL]
noncomputable def RngSt (I : Addr) (a : Int) (m : Nat) (i : Nat) (ι : List Addr) (h : Heap) : Prop := IsRangeIter h I (a + (i : Int)) ((m : Int) - (i : Int)) 1
theorem stepper_range {A : Around} {x : Str} {i : Nat} {p : Pos} {I : Addr} {a b : Int} {hs : Heap} (hh : A.handled = none) (N : NameOk sg x i) (hI0 : C.h₀.get? I = none) (hIs : hs.get? I = none) :
    Stepper C A sg (.ref I) (.Name x p) (rangeL a b) (putAt i) (fun _ => True) hs (RngSt I a (b - a).toNat) where
  keep := fun j ι ι' h h' h1 hp K => K.fro _ _ h1 (frozen_iter rfl rfl (by decide))
  self := fun ι s Q E hst h => wpAny_pyIter_rangeiter hst h
  item := fun j v s sc rest ι μ Q E₁ E₂ E₃ hv hsg hI hG hK hit kont => by
    have hj : j < (b - a).toNat := by rw [← rangeL_len a b]; exact (List.getElem?_eq_some_iff.mp hv).1
    have ev : v = .int (a + (j : Int)) := by simp [rangeL, hj] at hv; exact hv.symm
    subst ev
    refine wpAny_pyNext_range_item hit (by omega) fun h' hit' hsb => ?_
    have hW : ∀ b o, b ∉ [I] → s.heap.get? b = some o → h'.get? b = some o := fun b o hb e => (hsb.2 b fun q => hb (by rw [q]; exact List.mem_singleton.mpr rfl)).trans e
    have hI' : Inv C.h₀ (sc :: rest) ι μ h' := hI.butW (W := [I]) (fun b hb => by rw [List.mem_singleton.mp hb]; exact hI0) (fun b hb o ho => by
      rw [List.mem_singleton.mp hb] at ho
      rw [RngSt, IsRangeIter] at hit
      rw [hit] at ho; cases ho
      exact ⟨⟨_, rfl⟩, _, rfl⟩) hW
    have hK' : Keep hs h' := hK.butW (W := [I]) (fun b hb => by rw [List.mem_singleton.mp hb]; exact hIs) hW
    have e1 : a + (j : Int) + 1 = a + ((j + 1 : Nat) : Int) := by omega
    have e2 : ((b - a).toNat : Int) - (j : Int) - 1 = ((b - a).toNat : Int) - ((j + 1 : Nat) : Int) := by omega
    rw [e1, e2] at hit'
    exact step_name (s := s) N hsg hI' hK' (.int _ s.toks) ⟨_, _, rfl⟩ fun s' hsh hI'' hK'' K => kont s' hsh hI'' hK'' (K.fro _ _ hit' (frozen_iter rfl rfl (by decide)))
  done := fun s sc rest ι μ Q E hsg hI hG hK hit kont => by
    rw [rangeL_len] at hit
    refine wpAny_pyNext_range_end hh hit (by omega) fun h' hsb => ?_
    have hW : ∀ b o, b ∉ [I] → s.heap.get? b = some o → h'.get? b = some o := fun b o hb e => hsb b o (fun q => hb (by rw [q]; exact List.mem_singleton.mpr rfl)) e
    refine kont _ ⟨_, _, rfl⟩ (hI.butW (W := [I]) (fun b hb => by rw [List.mem_singleton.mp hb]; exact hI0) (fun b hb o ho => by
      rw [List.mem_singleton.mp hb] at ho
      rw [RngSt, IsRangeIter] at hit
      rw [hit] at ho; cases ho
      exact ⟨⟨_, rfl⟩, _, rfl⟩) hW) (hK.butW (W := [I]) (fun b hb => by rw [List.mem_singleton.mp hb]; exact hIs) hW)

/-! enumerate(a list of ours) -/
/-! what a loop goes over: made, and its stepper at hand -/
/-- the iterable of a loop: the meaning gives the items and what must stay -/
structure Src where
  its : List MV
  G : MH → Prop
abbrev DI := Rho → MH → Out Src
/-- how the iterable is made and walked -/
noncomputable def ISound (C : Cx) (n : Nat) (sg : Sg) (iter : Expr) (target : Expr) (sg' : Sg) (put : Rho → MV → Rho) (f : DI) : Prop :=
  ∀ (A : Around) (s : Shared) (sc : Sc) (rest : List Sc) (ι : List Addr) (μ : MH) (E : Value → Shared → Prop) (Q : Value → Shared → Prop), SgOk sg sc → AOk true n (sc :: rest) A → Inv C.h₀ (sc :: rest) ι μ s.heap → f sc.ρ μ ≠ .stuck →
    (∀ src μ₁ ι₁ it s₁ hs St, f sc.ρ μ = .ok src μ₁ → Go C ι s (sc :: rest) ι₁ μ₁ s₁ → Keep s.heap hs → Keep hs s₁.heap → St 0 ι₁ s₁.heap → Stepper C A sg' it target src.its put src.G hs St → Q it s₁) →
    (∀ e s₁, XPost C ι s (sc :: rest) (f sc.ρ μ) e s₁ → E e s₁) →
    wpAny (model C.prog C.w) A (eval iter sc.env) (fun x s₁ => wpAny (model C.prog C.w) A (pyIter x) Q E s₁) E s

theorem none_at_size (h : Heap) : h.get? h.objs.size = none := by
  cases hq : h.get? h.objs.size with
  | none => rfl
  | some o => exact absurd (Heap.lt_size hq) (Nat.lt_irrefl _)
theorem none_above {h : Heap} {a : Addr} (ha : h.objs.size ≤ a) : h.get? a = none := by
  cases hq : h.get? a with
  | none => rfl
  | some o => exact absurd (Heap.lt_size hq) (Nat.not_lt.mpr ha)
theorem base_above {h₀ h : Heap} (hb : h₀.StaysIn h) {a : Addr} (ha : h.objs.size ≤ a) : h₀.get? a = none := by
  cases hq : h₀.get? a with
  | none => rfl
  | some o => have := hb a o hq; rw [none_above ha] at this; cases this

/-- a list or a tuple -/
noncomputable def iSeq (f : D) : DI := fun ρ μ => (f ρ μ).bind fun v μ => match v with
  | .lst k => match μ[k]? with | some xs => .ok ⟨xs, fun μ => μ[k]? = some xs⟩ μ | none => .stuck
  | .tup xs => .ok ⟨xs, fun _ => True⟩ μ
  | _ => .stuck
theorem is_seq {sg' : Sg} {iter : Expr} {x : Str} {i : Nat} {p : Pos} {f : D} (he : ESound C true n sg iter f) (N : NameOk sg' x i) : ISound C n sg iter (.Name x p) sg' (putAt i) (iSeq f) := fun A s sc rest ι μ E Q hs hA hI hne kont kx => by
  refine wpAny_mono (then_ he hs hA hI hne (Q := fun x s₁ => wpAny (model C.prog C.w) A (pyIter x) Q E s₁) fun v μ₁ ι₁ x s₁ e1 g1 r1 hne1 => ?_) (fun _ _ p => p) fun e s₁ p => kx e s₁ p
  cases v with
  | lst k =>
    obtain ⟨l, hk⟩ := r1.lst_inv
    cases ek : μ₁[k]? with
    | none => exact absurd (by simp only [ek]) hne1
    | some xs =>
      obtain ⟨l', vs, m, p1, p2, p3⟩ := g1.inv.hp.at_ k xs ek
      rw [hk] at p1; cases p1
      refine wpAny_pyIter_list p2.isList ?_
      have g2 : Go C ι s (sc :: rest) ι₁ μ₁ { s₁ with heap := s₁.heap.push { cls := .type "list_iterator", data := .fields #[.ref l, .int 0 0] } } := by
        obtain ⟨h1, t1, rfl⟩ := g1.sh
        exact ⟨⟨_, _, rfl⟩, g1.pre, g1.inv.push _, g1.keep.trans (Keep.push _ _)⟩
      refine kont ⟨xs, fun μ => μ[k]? = some xs⟩ μ₁ ι₁ _ _ s₁.heap (LstSt s₁.heap.objs.size k l) (by unfold iSeq; rw [e1]; show (match μ₁[k]? with | some xs => Out.ok (Src.mk xs fun μ => μ[k]? = some xs) μ₁ | none => .stuck) = _; rw [ek]) g2 g1.keep (Keep.push _ _) ⟨hk, ⟨_, Heap.get?_push_size _ rfl, rfl, rfl⟩⟩ (stepper_list (hA.hand rfl) N (base_above g1.inv.hp.base (Nat.le_refl _)) (none_at_size _))
  | tup xs =>
    obtain ⟨a, vs, m, ht, rt⟩ := r1.tup_inv
    refine wpAny_pyIter_tuple ⟨_, ht, rfl, m, rfl⟩ ?_
    have g2 : Go C ι s (sc :: rest) ι₁ μ₁ { s₁ with heap := s₁.heap.push { cls := .type "tuple_iterator", data := .fields #[.ref a, .int 0 0] } } := by
      obtain ⟨h1, t1, rfl⟩ := g1.sh
      exact ⟨⟨_, _, rfl⟩, g1.pre, g1.inv.push _, g1.keep.trans (Keep.push _ _)⟩
    refine kont ⟨xs, fun _ => True⟩ μ₁ ι₁ _ _ s₁.heap (TupSt C s₁.heap.objs.size a vs m xs) (by unfold iSeq; rw [e1]; rfl) g2 g1.keep (Keep.push _ _) ⟨⟨_, Heap.get?_push_size _ rfl, rfl, rfl⟩, ht.push _, rt.keep (Keep.push _ _)⟩ (stepper_tuple (hA.hand rfl) N (base_above g1.inv.hp.base (Nat.le_refl _)) (none_at_size _))
  | _ => exact absurd rfl hne1

/-- range(b), range(a, b) -/
noncomputable def rngO (a b : Int) (μ : MH) : Out Src := if -(2 ^ 62) ≤ a ∧ a < 2 ^ 62 ∧ -(2 ^ 62) ≤ b ∧ b < 2 ^ 62 then .ok ⟨rangeL a b, fun _ => True⟩ μ else .stuck
noncomputable def iRange1 (f : D) : DI := fun ρ μ => (f ρ μ).bind fun v μ => match v with | .int b => rngO 0 b μ | _ => .stuck
theorem range_ {sg' : Sg} {x : Str} {i : Nat} {p : Pos} (N : NameOk sg' x i) {A : Around} {s s₁ : Shared} {sc : Sc} {rest : List Sc} {ι ι₁ : List Addr} {μ₁ : MH} {E : Value → Shared → Prop} {Q : Value → Shared → Prop} {a b : Int} {t u v : Tok} {o : Out Src} {tk : Nat} (hA : AOk true n (sc :: rest) A) (g1 : Go C ι s (sc :: rest) ι₁ μ₁ s₁)
    (hc : -(2 ^ 62) ≤ a ∧ a < 2 ^ 62 ∧ -(2 ^ 62) ≤ b ∧ b < 2 ^ 62) (ho : o = .ok ⟨rangeL a b, fun _ => True⟩ μ₁)
    (kont : ∀ src μ₁ ι₁ it s₁ hs St, o = .ok src μ₁ → Go C ι s (sc :: rest) ι₁ μ₁ s₁ → Keep s.heap hs → Keep hs s₁.heap → St 0 ι₁ s₁.heap → Stepper C A sg' it (.Name x p) src.its (putAt i) src.G hs St → Q it s₁) :
    wpAny (model C.prog C.w) A (pyIter (.ref s₁.heap.objs.size)) Q E { s₁ with heap := s₁.heap.push { cls := .type "range", data := .fields #[.int a t, .int b u, .int 1 v] }, toks := tk } := by
  refine wpAny_pyIter_range (IsRange.new ..) (small_one hc.1 hc.2.1 hc.2.2.1 hc.2.2.2) ?_
  have hsz : Builtin.Range.rangeSize a b 1 = ((b - a).toNat : Int) := by rw [rangeSize_one]; split <;> omega
  rw [hsz]
  have K1 := Keep.push s₁.heap { cls := .type "range", data := .fields #[.int a t, .int b u, .int 1 v] }
  have K2 := Keep.push (s₁.heap.push { cls := .type "range", data := .fields #[.int a t, .int b u, .int 1 v] }) { cls := .type "range_iterator", data := .fields #[rawInt a, rawInt ((b - a).toNat : Int), rawInt 1] }
  have I1 := g1.inv.push { cls := .type "range", data := .fields #[.int a t, .int b u, .int 1 v] }
  refine kont ⟨rangeL a b, fun _ => True⟩ μ₁ ι₁ _ _ (s₁.heap.push { cls := .type "range", data := .fields #[.int a t, .int b u, .int 1 v] }) (RngSt _ a (b - a).toNat) ho ?_ (g1.keep.trans K1) K2 ?_ (stepper_range (hA.hand rfl) N (base_above I1.hp.base (Nat.le_refl _)) (none_at_size _))
  · obtain ⟨h1, t1, rfl⟩ := g1.sh
    exact ⟨⟨_, _, rfl⟩, g1.pre, I1.push _, (g1.keep.trans K1).trans K2⟩
  · show IsRangeIter _ _ (a + ((0 : Nat) : Int)) (((b - a).toNat : Int) - ((0 : Nat) : Int)) 1
    simp only [Int.natCast_zero, Int.add_zero, Int.sub_zero]
    exact Heap.get?_push_size _ rfl

theorem is_range1 (CO : CxOk C) {sg' : Sg} {r : Str} {rp pos p : Pos} {e : Expr} {x : Str} {i : Nat} {f : D} (he : ESound C true n sg e f) (hns : NoStar [e]) (N : NameOk sg' x i)
    (hk : sg.names.lookup r = some .globalImplicit) (hv : C.mg r = none ∧ C.mb r = some (.type "range")) (hd : (r == ("__debug__" : Str)) = false) : ISound C n sg (.Call (.Name r rp) [e] [] pos) (.Name x p) sg' (putAt i) (iRange1 f) := fun A s sc rest ι μ E Q hs hA hI hne kont kx => by
  refine wpAny_Call_NameR (name_glob CO hs hI hk (.inr hv) hd ?_)
  rw [backTo_plain hns]
  refine callWith_type rfl (Calls.evalArgs_plain (Calls.spliced_cons (wpAny_mono (then_ he hs hA hI hne (Q := fun v s₁ => wpAny (model C.prog C.w) A (spliced []) (fun vs s₂ => wpAny (model C.prog C.w) A (call (.type "range") ([] ++ (v :: vs))) (fun x s₁ => wpAny (model C.prog C.w) A (pyIter x) Q E s₁) E s₂) E s₁) fun v μ₁ ι₁ y s₁ e1 g1 r1 hne1 => ?_) (fun _ _ p => p) fun e s₁ p => kx e s₁ p)))
  refine Calls.spliced_nil ?_
  cases v with
  | int b =>
    obtain ⟨t⟩ := r1.int_inv
    by_cases hc : -(2 ^ 62) ≤ (0 : Int) ∧ (0 : Int) < 2 ^ 62 ∧ -(2 ^ 62) ≤ b ∧ b < 2 ^ 62
    · refine call_range_1 ?_
      exact range_ N hA g1 hc (by unfold iRange1; rw [e1]; exact if_pos hc) kont
    · exact absurd (if_neg hc) hne1
  | _ => exact absurd rfl hne1
/-! the statement -/
noncomputable def dFor (src : DI) (put : Rho → MV → Rho) (f : DS) : DS := fun ρ μ => (src ρ μ).bind fun s μ => loopM s.G put f s.its ρ μ
theorem s_for {target iter : Expr} {body : List Stmt} {pos : Pos} {put : Rho → MV → Rho} {fi : DI} {f : DS} (hi : ISound C n sg iter target sg put fi) (hb : SSound C true n sg body f) (hfr : sg.fr = true) (hfs : ∀ env x, foldedSetIterable iter env x = pure x) :
    S1Sound C true n sg (.For target iter body [] pos) (dFor fi put f) := fun A s sc rest ι μ hs hA hI hne => by
  refine wpAny_For (hi A s sc rest ι μ _ _ hs hA hI (bind_ne hne) (fun src μ₁ ι₁ it s₁ hs' St e1 g1 K1 K2 hst P => ?_) fun e s₁ p => .of p) (hfs _)
  have E1 : dFor fi put f sc.ρ μ = loopM src.G put f src.its sc.ρ μ₁ := by unfold dFor; first | (rw [e1]; done) | (rw [e1]; rfl)
  rw [E1] at hne
  have hL : topL (sc :: rest) = some sc.env.locals := by rw [topL, if_pos (hs.fr.trans hfr)]
  exact loop_ P hb hs hA hL g1.inv K1 K2 hst g1.pre g1.sh E1.symm (by rw [E1]; exact hne)
end
end Mine

set_option linter.unusedVariables false
namespace Mine
open PySem

section
variable {C : Cx} {q : Bool} {n : Nat} {sg : Sg}

/-! while, with a number of turns that is never reached -/
end
end Mine

set_option linter.unusedVariables false
namespace Mine
open PySem

section
variable {C : Cx} {q : Bool} {n : Nat} {sg : Sg}

open Classical in
noncomputable def compM (G : MH → Prop) (put : Rho → MV → Rho) (c e : D) (k : Nat) : List MV → Rho → MH → Out MV
  | [], _, μ => if G μ then .ok (.lst k) μ else .stuck
  | v :: vs, ρ, μ => if G μ then (c (put ρ v) μ).bind fun b μ => match b with
      | .bool true => (e (put ρ v) μ).bind fun x μ => match μ[k]? with
        | some xs => if xs.length ≤ sizeLine then compM G put c e k vs ρ (μ.set k (xs ++ [x])) else .stuck
        | none => .stuck
      | .bool false => compM G put c e k vs ρ μ
      | _ => .stuck
    else .stuck

theorem compM_nil (G : MH → Prop) (put : Rho → MV → Rho) (c e : D) (k : Nat) (ρ : Rho) (μ : MH) : compM G put c e k [] ρ μ = (open Classical in if G μ then .ok (.lst k) μ else .stuck) := (rfl)
theorem compM_cons (G : MH → Prop) (put : Rho → MV → Rho) (c e : D) (k : Nat) (v : MV) (vs : List MV) (ρ : Rho) (μ : MH) : compM G put c e k (v :: vs) ρ μ = (open Classical in if G μ then (c (put ρ v) μ).bind fun b μ => match b with
      | .bool true => (e (put ρ v) μ).bind fun x μ => match μ[k]? with
        | some xs => if xs.length ≤ sizeLine then compM G put c e k vs ρ (μ.set k (xs ++ [x])) else .stuck
        | none => .stuck
      | .bool false => compM G put c e k vs ρ μ
      | _ => .stuck
    else .stuck) := (rfl)
/-- the tests of a comprehension -/
noncomputable def CSound (C : Cx) (n : Nat) (sg : Sg) (ifs : List Expr) (f : D) : Prop :=
  ∀ (A : Around) (s : Shared) (sc : Sc) (rest : List Sc) (ι : List Addr) (μ : MH), SgOk sg sc → AOk true n (sc :: rest) A → Inv C.h₀ (sc :: rest) ι μ s.heap → f sc.ρ μ ≠ .stuck → (∀ v μ', f sc.ρ μ = .ok v μ' → ∃ b, v = .bool b) →
    wpAny (model C.prog C.w) A (forIn ifs true fun c r => if r = true then do let ok ← isTrue c sc.env (eval c sc.env); pure (ForInStep.yield ok) else pure (ForInStep.yield r)) (TPost C ι s (sc :: rest) (f sc.ρ μ)) (XPost C ι s (sc :: rest) (f sc.ρ μ)) s
theorem cs_nil : CSound C n sg [] (dConst (.bool true)) := fun A s sc rest ι μ hs hA hI hne hb => wpAny_tests_nil ⟨μ, ι, rfl, Go.refl hI⟩
theorem cs_one {e : Expr} {f : D} (h : TSound C true n sg e f) : CSound C n sg [e] f := fun A s sc rest ι μ hs hA hI hne hb => wpAny_tests_one (h A s sc rest ι μ hs hA hI hne hb)

theorem append_ {A : Around} {E : Value → Shared → Prop} {s : Shared} {fs : List Sc} {ι : List Addr} {μ : MH} {k : Nat} {a : Addr} {xs : List MV} {x : MV} {cx : Value} {Q : Value → Shared → Prop} (hI : Inv C.h₀ fs ι μ s.heap) (hk : ι[k]? = some a) (ek : μ[k]? = some xs) (hl : xs.length ≤ sizeLine) (r : Rel C.h₀ ι s.heap x cx)
    (kont : ∀ s₁, Go C ι s fs ι (μ.set k (xs ++ [x])) s₁ → Q .none s₁) : wpAny (model C.prog C.w) A (call (.builtin "list.append") [.ref a, cx]) Q E s := by
  obtain ⟨a', vs, m, p1, p2, p3⟩ := hI.hp.at_ k xs ek
  rw [hk] at p1; cases p1
  have hlen := p3.length
  refine call_meets F.slot_list_append ⟨_, p2, rfl⟩ F.entry_list_append (F.args_list_append_2 _ _) (list_append a vs.toArray m cx (by simpa [hlen] using hl)) ⟨p2, ?_⟩
  exact kont _ ((Go.refl hI).upd (us := vs ++ [cx]) hk p2 (by simp) (p3.append (.one r)))

/-- between two turns of a comprehension -/
inductive CompI (C : Cx) (sc : Sc) (rest : List Sc) (ι₀ : List Addr) (s₀ : Shared) (hs : Heap) (St : Nat → List Addr → Heap → Prop) (G : MH → Prop) (i : Nat) (c e : D) (k : Nat) (a : Addr) (its : List MV) (ρ : Rho) (o : Out MV) (m : Nat) (s' : Shared) : Prop
  | mk (j : Nat) (ρ' : Rho) (μ' : MH) (ι' : List Addr) (hm : m = its.length - j) (hj : j ≤ its.length) (sh : ∃ h tk, s' = { s₀ with heap := h, toks := tk }) (pre : ι₀ <+: ι') (hk : ι'[k]? = some a) (inv : Inv C.h₀ (sc.at ρ' :: rest) ι' μ' s'.heap) (keep : Keep hs s'.heap) (st : St j ι' s'.heap) (hρ : ∀ v, putAt i ρ' v = putAt i ρ v) (he : compM G (putAt i) c e k (its.drop j) ρ μ' = o) : CompI C sc rest ι₀ s₀ hs St G i c e k a its ρ o m s'

noncomputable def CompR (C : Cx) (sc : Sc) (rest : List Sc) (ι₀ : List Addr) (s₀ : Shared) (o : Out MV) (L : Addr) (r : Result) (s' : Shared) : Prop := match r with
  | .ok _ => ∃ v μ' ι' ρ', o = .ok v μ' ∧ Go C ι₀ s₀ (sc.at ρ' :: rest) ι' μ' s'
  | .error x => ∃ c μ' ι' ρ', o = .exc c μ' ∧ Go C ι₀ s₀ (sc.at ρ' :: rest) ι' μ' s' ∧ FlyT C c x (rawInt L) s'.heap

theorem compLoop_ {A : Around} {s : Shared} {sc : Sc} {rest : List Sc} {ι : List Addr} {μ : MH} {it : Value} {x : Str} {xp : Pos} {elt iter : Expr} {ifs : List Expr} {scope : Scope} {pos : Pos} {its : List MV} {i : Nat} {G : MH → Prop} {hs : Heap} {St : Nat → List Addr → Heap → Prop} {c e : D} {k : Nat} {a : Addr} {s₀ : Shared} {ι₀ : List Addr} {L : Addr} {ρ : Rho} {o : Out MV}
    (P : Stepper C A sg it (.Name x xp) its (putAt i) G hs St) (hc : CSound C n sg ifs c) (he : ESound C true n sg elt e) (hsg : SgOk sg sc) (hA : AOk true n (sc :: rest) A) (hL : topL (sc :: rest) = some L) (hI : Inv C.h₀ (sc :: rest) ι μ s.heap) (hK : Keep s₀.heap hs) (hK' : Keep hs s.heap) (hst : St 0 ι s.heap) (hpre : ι₀ <+: ι) (hka : ι[k]? = some a) (hsh : ∃ h tk, s = { s₀ with heap := h, toks := tk })
    (hρ : ∀ v, putAt i sc.ρ v = putAt i ρ v) (ho : compM G (putAt i) c e k its ρ μ = o) (hne : o ≠ .stuck) :
    codeAny (model C.prog C.w) A (.compLoop (.ListComp elt [⟨.Name x xp, iter, ifs, 0⟩] scope pos) 0 it (.ref a) sc.env) (CompR C sc rest ι₀ s₀ o L) s := by
  refine codeAny_loop rfl (CompI C sc rest ι₀ s₀ hs St G i c e k a its ρ o) (fun m s' hIn => ?_) its.length ⟨0, sc.ρ, μ, ι, by omega, by omega, hsh, hpre, hka, hI, hK', hst, hρ, by rw [List.drop_zero]; exact ho⟩
  obtain ⟨j, ρ', μ', ι', rfl, hj, hsh', hpre', hka', hI', hKs, hst', hρ', hcm⟩ := hIn
  show wpAny _ A ((compTurn (.ListComp elt [⟨.Name x xp, iter, ifs, 0⟩] scope pos) 0 it (.ref a) sc.env).onRaise (fun x => do noteFrame x sc.env; theTreesLotGoes x)) _ _ s'
  refine wpAny_noted ?_
  rw [compTurn_list]
  refine wpAny_bind (wpAny_standAt ?_)
  have gone : ∀ s₂ fs ι₂ μ₂, (∃ h tk, s₂ = { s' with heap := h, toks := tk }) → ι' <+: ι₂ → Inv C.h₀ fs ι₂ μ₂ s₂.heap → Keep hs s₂.heap → Go C ι₀ s₀ fs ι₂ μ₂ s₂ := fun s₂ fs ι₂ μ₂ hsh₂ hp₂ hI₂ hK₂ => by
    obtain ⟨h1, t1, rfl⟩ := hsh'
    obtain ⟨h2, t2, rfl⟩ := hsh₂
    exact ⟨⟨h2, t2, rfl⟩, hpre'.trans hp₂, hI₂, hK.trans hK₂⟩
  have shape : ∀ {s₂ : Shared}, (∃ h tk, s₂ = { s' with heap := h, toks := tk }) → ∃ h tk, s₂ = { s₀ with heap := h, toks := tk } := fun {s₂} hsh₂ => by
    obtain ⟨h1, t1, rfl⟩ := hsh'
    obtain ⟨h2, t2, rfl⟩ := hsh₂
    exact ⟨h2, t2, rfl⟩
  -- an exception within a turn
  have out : ∀ (s₁ : Shared) (ρ₁ : Rho) (ι₁ : List Addr) (μ₁ : MH) (cc : Str) (x : Value), Go C ι₀ s₀ (sc.at ρ₁ :: rest) ι₁ μ₁ s₁ → Fly C cc x s₁.heap → o = .exc cc μ₁ →
      notedBy (model C.prog C.w) A sc.env (fun e s' => CompR C sc rest ι₀ s₀ o L (.error e) s') x s₁ := by
    intro s₁ ρ₁ ι₁ μ₁ cc x g1 fl ho
    have hA3 : AOk true n (sc.at ρ₁ :: rest) A := hA.at ρ₁
    have hL3 : topL (sc.at ρ₁ :: rest) = some L := hL
    refine note_ (sc := sc.at ρ₁) (rest := rest) hA3.frames hA3.stk hL3 g1.inv fl fun s₄ g4 f4 => ?_
    exact ⟨cc, μ₁, ι₁, ρ₁, ho, g1.trans g4, f4⟩
  by_cases hlt : j < its.length
  · have hd : its.drop j = its[j] :: its.drop (j + 1) := List.drop_eq_getElem_cons hlt
    rw [hd, compM_cons] at hcm
    by_cases hG : G μ'
    · rw [if_pos hG] at hcm
      refine wpAny_bind (wpAny_mono (P.item j its[j] s' (sc.at ρ') rest ι' μ' (fun s₂ => (∃ h tk, s₂ = { s' with heap := h, toks := tk }) ∧ Inv C.h₀ (sc.at (putAt i ρ' its[j]) :: rest) ι' μ' s₂.heap ∧ Keep hs s₂.heap ∧ St (j + 1) ι' s₂.heap)
          (notedBy (model C.prog C.w) A sc.env (fun e s' => CompR C sc rest ι₀ s₀ o L (.error e) s')) (notedBy (model C.prog C.w) A sc.env (fun e s' => CompR C sc rest ι₀ s₀ o L (.error e) s')) (notedBy (model C.prog C.w) A sc.env (fun e s' => CompR C sc rest ι₀ s₀ o L (.error e) s'))
          (List.getElem?_eq_getElem hlt) (hsg.at _) hI' hG hKs hst' fun s₂ hsh₂ hI₂ hK₂ hst₂ => ⟨hsh₂, hI₂, hK₂, hst₂⟩) (fun r s₁ hr => ?_) fun _ _ x => x)
      cases r with
      | none => exact hr.elim
      | some xv =>
        refine wpAny_bind (wpAny_mono hr (fun _ s₂ hr₂ => wpAny_bind (wpAny_mono hr₂ (fun _ s₃ hr₃ => ?_) fun _ _ x => x)) fun _ _ x => x)
        obtain ⟨hsh₃, hI₃, hK₃, hst₃⟩ := hr₃
        rw [hρ'] at hI₃
        have hne1 : c (putAt i ρ its[j]) μ' ≠ .stuck := fun e2 => hne (by rw [← hcm]; exact congrArg (fun z : Out MV => z.bind _) e2)
        refine wpAny_bind (wpAny_mono (hc A s₃ (sc.at (putAt i ρ its[j])) rest ι' μ' (hsg.at _) (hA.at _) hI₃ hne1 fun v μ₁ ev => ?_) (fun ok s₄ p => ?_) fun x s₄ p => ?_)
        · have ev' : c (putAt i ρ its[j]) μ' = .ok v μ₁ := ev
          have := (congrArg (fun z : Out MV => z.bind fun b μ => match b with
            | .bool true => (e (putAt i ρ its[j]) μ).bind fun x μ => match μ[k]? with
              | some xs => if xs.length ≤ sizeLine then compM G (putAt i) c e k (its.drop (j + 1)) ρ (μ.set k (xs ++ [x])) else .stuck
              | none => .stuck
            | .bool false => compM G (putAt i) c e k (its.drop (j + 1)) ρ μ
            | _ => .stuck) ev').symm.trans hcm
          cases v with
          | bool b => exact ⟨b, rfl⟩
          | _ => exact absurd this.symm hne
        · obtain ⟨μ₄, ι₄, e4, g4⟩ := p
          have e4' : c (putAt i ρ its[j]) μ' = .ok (.bool ok) μ₄ := e4
          have hcm4 := (congrArg (fun z : Out MV => z.bind fun b μ => match b with
            | .bool true => (e (putAt i ρ its[j]) μ).bind fun x μ => match μ[k]? with
              | some xs => if xs.length ≤ sizeLine then compM G (putAt i) c e k (its.drop (j + 1)) ρ (μ.set k (xs ++ [x])) else .stuck
              | none => .stuck
            | .bool false => compM G (putAt i) c e k (its.drop (j + 1)) ρ μ
            | _ => .stuck) e4').symm.trans hcm
          have hsh₄ : ∃ h tk, s₄ = { s' with heap := h, toks := tk } := by
            obtain ⟨h3, t3, rfl⟩ := hsh₃
            obtain ⟨h4, t4, e5⟩ := g4.sh
            exact ⟨h4, t4, e5⟩
          have hK₄ : Keep hs s₄.heap := hK₃.trans g4.keep
          have hka₄ : ι₄[k]? = some a := by
            obtain ⟨t, rfl⟩ := g4.pre
            rw [List.getElem?_append_left (List.getElem?_eq_some_iff.mp hka').1]; exact hka'
          have hst₄ : St (j + 1) ι₄ s₄.heap := P.keep _ _ _ _ _ hst₃ g4.pre g4.keep
          have hpp : ∀ v, putAt i (putAt i ρ its[j]) v = putAt i ρ v := fun v => by
            funext z; simp only [putAt, Rho.set]; split <;> rfl
          cases ok with
          | false =>
            have hcm5 : compM G (putAt i) c e k (its.drop (j + 1)) ρ μ₄ = o := hcm4
            simp only [Bool.false_eq_true, if_false]
            exact wpAny_pure ⟨rfl, its.length - (j + 1), by omega, j + 1, putAt i ρ its[j], μ₄, ι₄, rfl, hlt, shape hsh₄, hpre'.trans g4.pre, hka₄, g4.inv, hK₄, hst₄, hpp, hcm5⟩
          | true =>
            have hcm5 : ((e (putAt i ρ its[j]) μ₄).bind fun x μ => match μ[k]? with
              | some xs => if xs.length ≤ sizeLine then compM G (putAt i) c e k (its.drop (j + 1)) ρ (μ.set k (xs ++ [x])) else .stuck
              | none => .stuck) = o := hcm4
            simp only [if_true]
            have hne5 : e (putAt i ρ its[j]) μ₄ ≠ .stuck := fun e2 => hne (by rw [← hcm5]; exact congrArg (fun z : Out MV => z.bind _) e2)
            refine wpAny_bind (wpAny_bind (wpAny_mono (he A s₄ (sc.at (putAt i ρ its[j])) rest ι₄ μ₄ (hsg.at _) (hA.at _) g4.inv hne5) (fun xv' s₅ p => ?_) fun x s₅ p => ?_))
            · obtain ⟨v5, μ₅, ι₅, e5, g5, r5⟩ := p
              have e5' : e (putAt i ρ its[j]) μ₄ = .ok v5 μ₅ := e5
              have hcm6 : (match μ₅[k]? with
                | some xs => if xs.length ≤ sizeLine then compM G (putAt i) c e k (its.drop (j + 1)) ρ (μ₅.set k (xs ++ [v5])) else .stuck
                | none => .stuck) = o := (congrArg (fun z : Out MV => z.bind fun x μ => match μ[k]? with
                | some xs => if xs.length ≤ sizeLine then compM G (putAt i) c e k (its.drop (j + 1)) ρ (μ.set k (xs ++ [x])) else .stuck
                | none => .stuck) e5').symm.trans hcm5
              have hka₅ : ι₅[k]? = some a := by
                obtain ⟨t, rfl⟩ := g5.pre
                rw [List.getElem?_append_left (List.getElem?_eq_some_iff.mp hka₄).1]; exact hka₄
              cases ek : μ₅[k]? with
              | none => rw [ek] at hcm6; exact absurd hcm6.symm hne
              | some xs =>
                rw [ek] at hcm6
                by_cases hl : xs.length ≤ sizeLine
                · have hcm7 : compM G (putAt i) c e k (its.drop (j + 1)) ρ (μ₅.set k (xs ++ [v5])) = o := by simpa [hl] using hcm6
                  refine wpAny_bind (append_ g5.inv hka₅ ek hl r5 fun s₆ g6 => wpAny_pure (wpAny_pure ?_))
                  have hsh₆ : ∃ h tk, s₆ = { s' with heap := h, toks := tk } := by
                    obtain ⟨h4, t4, rfl⟩ := hsh₄
                    obtain ⟨h5, t5, rfl⟩ := g5.sh
                    obtain ⟨h6, t6, e7⟩ := g6.sh
                    exact ⟨h6, t6, e7⟩
                  exact ⟨rfl, its.length - (j + 1), by omega, j + 1, putAt i ρ its[j], _, ι₅, rfl, hlt, shape hsh₆, (hpre'.trans g4.pre).trans g5.pre, hka₅, g6.inv, (hK₄.trans g5.keep).trans g6.keep, P.keep _ _ _ _ _ (P.keep _ _ _ _ _ hst₄ g5.pre g5.keep) g6.pre g6.keep, hpp, hcm7⟩
                · exact absurd (by simpa [hl] using hcm6.symm) hne
            · obtain ⟨cc, μ₅, ι₅, e5, g5, f5⟩ := p
              have e5' : e (putAt i ρ its[j]) μ₄ = .exc cc μ₅ := e5
              refine out s₅ (putAt i ρ its[j]) ι₅ μ₅ cc x (gone s₅ _ ι₅ μ₅ ?_ (g4.pre.trans g5.pre) g5.inv (hK₄.trans g5.keep)) f5 ?_
              · obtain ⟨h4, t4, rfl⟩ := hsh₄
                obtain ⟨h5, t5, e7⟩ := g5.sh
                exact ⟨h5, t5, e7⟩
              · exact hcm5.symm.trans (congrArg (fun z : Out MV => z.bind _) e5')
        · obtain ⟨cc, μ₄, ι₄, e4, g4, f4⟩ := p
          have e4' : c (putAt i ρ its[j]) μ' = .exc cc μ₄ := e4
          refine out s₄ (putAt i ρ its[j]) ι₄ μ₄ cc x (gone s₄ _ ι₄ μ₄ ?_ g4.pre g4.inv (hK₃.trans g4.keep)) f4 ?_
          · obtain ⟨h3, t3, rfl⟩ := hsh₃
            obtain ⟨h4, t4, e7⟩ := g4.sh
            exact ⟨h4, t4, e7⟩
          · exact hcm.symm.trans (congrArg (fun z : Out MV => z.bind _) e4')
    · rw [if_neg hG] at hcm; exact absurd hcm.symm hne
  · have hil : j = its.length := by omega
    subst hil
    rw [List.drop_length, compM_nil] at hcm
    by_cases hG : G μ'
    · rw [if_pos hG] at hcm
      refine wpAny_bind (wpAny_mono (P.done s' (sc.at ρ') rest ι' μ' (fun s₂ => CompR C sc rest ι₀ s₀ o L (.ok .next) s₂) _ (hsg.at _) hI' hG hKs hst' fun s₂ hsh₂ hI₂ hK₂ => ?_) (fun r s₁ hr => ?_) fun _ _ x => x)
      rotate_left 1
      · cases r with
        | none => exact wpAny_pure hr
        | some x => exact hr.elim
      · exact ⟨_, μ', ι', ρ', hcm.symm, gone s₂ _ ι' μ' hsh₂ (List.prefix_refl _) hI₂ hK₂⟩
    · rw [if_neg hG] at hcm; exact absurd hcm.symm hne
end
end Mine

set_option linter.unusedVariables false
namespace Mine
open PySem

/-- the names of a block within a scope -/
noncomputable def relab (names : List (Str × NameKind)) (sg : Sg) : List (Str × NameKind) := names.map fun (n, k) => if (k == .free && sg.names.lookup n == some .cell) then (n, .cell) else (n, k)

/-- a comprehension's scope fits -/
structure CompOk (sg sg' : Sg) (scope : Scope) (x : Str) (i : Nat) : Prop where
  names : sg'.names = relab scope.names sg
  fr : sg'.fr = false
  kind : scope.kind = .function
  cell : ∀ y ∈ scope.names, y.2 ≠ .cell
  own : ∀ y ∈ scope.names, y.2 = .local → scope.names.lookup y.1 = some .local
  V : VarsOk sg'.vars
  hx : (x, i) ∈ sg'.vars
  xl : sg'.names.lookup x = some .local
  vars : ∀ p ∈ sg'.vars, p = (x, i) ∨ (p ∈ sg.vars ∧ (p.1, NameKind.free) ∈ scope.names ∧ sg.names.lookup p.1 = some .cell ∧ sg'.names.lookup p.1 = some .cell)
  free : ∀ y ∈ scope.names, y.2 = .free → sg.names.lookup y.1 = some .cell ∧ ∃ p ∈ sg.vars, p.1 = y.1

noncomputable def closeL (cells : List (Str × Addr)) : List (Str × NameKind) → List (Str × Addr) → List (Str × Addr)
  | [], cs => cs
  | (n, k) :: r, cs => closeL cells r (if k == .free then (n, (cells.lookup n).getD 0) :: cs else cs)

theorem closure_go {env : Env} : ∀ (names : List (Str × NameKind)) (cs : List (Str × Addr)), (∀ p ∈ names, p.2 = .free → ∃ c, env.cells.lookup p.1 = some c) →
    (forIn names cs fun (x : Str × NameKind) (r : List (Str × Addr)) => match x with
      | (name, kind) => if (kind == NameKind.free) = true then do let y ← cellOf env name; (pure (ForInStep.yield ((name, y) :: r)) : Sem _) else pure (ForInStep.yield r)) = pure (closeL env.cells names cs)
  | [], cs, h => rfl
  | (n, k) :: r, cs, h => by
    rw [List.forIn_cons]
    dsimp only
    rw [closeL]
    by_cases hk : (k == NameKind.free) = true
    · obtain ⟨c, hc⟩ := h (n, k) List.mem_cons_self (by simpa using hk)
      simp only [if_pos hk, cellOf, hc, Option.getD_some, pure_bind]
      exact closure_go r _ fun p hp => h p (List.mem_cons_of_mem _ hp)
    · simp only [if_neg hk, pure_bind]
      exact closure_go r _ fun p hp => h p (List.mem_cons_of_mem _ hp)
theorem closure_eq {env : Env} {scope : Scope} (h : ∀ p ∈ scope.names, p.2 = .free → ∃ c, env.cells.lookup p.1 = some c) : closureFor scope env = pure (closeL env.cells scope.names []) := by
  unfold closureFor
  simp only [closure_go scope.names [] h, pure_bind]

theorem closeL_mem {cells : List (Str × Addr)} : ∀ {names : List (Str × NameKind)} {cs : List (Str × Addr)} {p : Str × Addr}, p ∈ closeL cells names cs → p ∈ cs ∨ ((p.1, NameKind.free) ∈ names ∧ p.2 = (cells.lookup p.1).getD 0)
  | [], cs, p, h => .inl h
  | (n, k) :: r, cs, p, h => by
    rw [closeL] at h
    rcases closeL_mem h with h | ⟨h1, h2⟩
    · by_cases hk : (k == NameKind.free) = true
      · rw [if_pos hk] at h
        rcases List.mem_cons.mp h with rfl | h
        · refine .inr ⟨?_, rfl⟩
          have : k = NameKind.free := by simpa using hk
          rw [this]; exact List.mem_cons_self
        · exact .inl h
      · rw [if_neg hk] at h; exact .inl h
    · exact .inr ⟨List.mem_cons_of_mem _ h1, h2⟩
theorem closeL_has {cells : List (Str × Addr)} {y : Str} : ∀ {names : List (Str × NameKind)} {cs : List (Str × Addr)}, ((y, NameKind.free) ∈ names ∨ ∃ c, (y, c) ∈ cs) → ∃ c, (y, c) ∈ closeL cells names cs
  | [], cs, h => by rcases h with h | h; · cases h
                    · exact h
  | (n, k) :: r, cs, h => by
    rw [closeL]
    refine closeL_has ?_
    rcases h with h | ⟨c, h⟩
    · rcases List.mem_cons.mp h with h | h
      · cases h; exact .inr ⟨_, by simp; exact .inl rfl⟩
      · exact .inl h
    · exact .inr ⟨c, by split; · exact List.mem_cons_of_mem _ h
                        · exact h⟩
theorem lookup_of_mem' : ∀ {l : List (Str × Addr)} {y : Str} {c : Addr}, (y, c) ∈ l → ∃ c', l.lookup y = some c'
  | (n, d) :: r, y, c, h => by
    rw [List.lookup_cons]
    by_cases hn : (y == n) = true
    · rw [hn]; exact ⟨_, rfl⟩
    · have hn' : (y == n) = false := by simpa using hn
      rw [hn']
      rcases List.mem_cons.mp h with h | h
      · cases h; simp at hn
      · exact lookup_of_mem' h
theorem closeL_lookup {cells : List (Str × Addr)} {y : Str} {names : List (Str × NameKind)} {c : Addr} (h : (y, NameKind.free) ∈ names) (hc : cells.lookup y = some c) : (closeL cells names []).lookup y = some c := by
  obtain ⟨c₁, h1⟩ := closeL_has (cells := cells) (cs := []) (.inl h)
  obtain ⟨c₂, h2⟩ := lookup_of_mem' h1
  rcases closeL_mem (mem_of_lookup h2) with h3 | ⟨_, h3⟩
  · cases h3
  · rw [h2]
    have h3' : c₂ = (cells.lookup y).getD 0 := h3
    rw [h3', hc]; rfl

section
variable {h₀ h h' : Heap} {ι : List Addr} {μ : MH} {f g : Sc} {rest : List Sc}
theorem Inv.swapC (I : Inv h₀ (f :: g :: rest) ι μ h) : Inv h₀ (g :: ⟨{ f.env with cells := [] }, [], f.ρ, false⟩ :: rest) ι μ h := by
  obtain ⟨p1, p2⟩ := List.pairwise_cons.mp I.ap
  obtain ⟨p3, p4⟩ := List.pairwise_cons.mp p2
  refine ⟨I.hp, fun k hk => ?_, List.pairwise_cons.mpr ⟨fun k hk => ?_, List.pairwise_cons.mpr ⟨fun k hk => ⟨(p1 k (List.mem_cons_of_mem _ hk)).1, fun e => (by cases e)⟩, p4⟩⟩, fun k hk => ?_⟩
  · rcases List.mem_cons.mp hk with rfl | hk
    · exact I.sc _ (List.mem_cons_of_mem _ List.mem_cons_self)
    · rcases List.mem_cons.mp hk with rfl | hk
      · obtain ⟨m, hm, _⟩ := (I.sc f List.mem_cons_self).loc
        exact ⟨⟨m, hm, fun x i v hx => (by cases hx)⟩, fun x i hx => (by cases hx), fun c hc => (by cases hc)⟩
      · exact I.sc _ (List.mem_cons_of_mem _ (List.mem_cons_of_mem _ hk))
  · rcases List.mem_cons.mp hk with rfl | hk
    · exact ⟨Ne.symm (p1 g List.mem_cons_self).1, fun _ c _ hc => by cases hc⟩
    · exact p3 k hk
  · rcases List.mem_cons.mp hk with rfl | hk
    · exact I.nw _ (List.mem_cons_of_mem _ List.mem_cons_self)
    · rcases List.mem_cons.mp hk with rfl | hk
      · exact ⟨(I.nw f List.mem_cons_self).1, fun c hc => by cases hc⟩
      · exact I.nw _ (List.mem_cons_of_mem _ (List.mem_cons_of_mem _ hk))
theorem Inv.swapBack (hc : f.env.cells = []) (I : Inv h₀ (g :: f :: rest) ι μ h) : Inv h₀ (f :: g :: rest) ι μ h := by
  obtain ⟨p1, p2⟩ := List.pairwise_cons.mp I.ap
  obtain ⟨p3, p4⟩ := List.pairwise_cons.mp p2
  have mem : ∀ k, k ∈ f :: g :: rest → k ∈ g :: f :: rest := fun k hk => by
    simp only [List.mem_cons] at hk ⊢
    rcases hk with h | h | h
    · exact .inr (.inl h)
    · exact .inl h
    · exact .inr (.inr h)
  refine ⟨I.hp, fun k hk => I.sc k (mem k hk), List.pairwise_cons.mpr ⟨fun k hk => ?_, List.pairwise_cons.mpr ⟨fun k hk => p1 k (List.mem_cons_of_mem _ hk), p4⟩⟩, fun k hk => I.nw k (mem k hk)⟩
  rcases List.mem_cons.mp hk with rfl | hk
  · exact ⟨Ne.symm (p1 f List.mem_cons_self).1, fun _ c hcm => by rw [hc] at hcm; cases hcm⟩
  · exact p3 k hk
theorem Inv.letGo (I : Inv h₀ (f :: rest) ι μ h) (hs : Heap.SameBut f.env.locals h h') : Inv h₀ rest ι μ h' ∧ Keep h h' := by
  obtain ⟨m, hm, _⟩ := (I.sc f List.mem_cons_self).loc
  have K : Keep h h' := Keep.but hs (Heap.Ns.notFrozen hm)
  refine ⟨⟨⟨fun b o e => ?_, I.hp.len, I.hp.nd, I.hp.new, fun k xs hk => ?_⟩, fun g hg => ?_, (List.pairwise_cons.mp I.ap).2, fun g hg => I.nw g (List.mem_cons_of_mem _ hg)⟩, K⟩
  · have hne : b ≠ f.env.locals := by
      rintro rfl
      rw [(I.nw f List.mem_cons_self).1] at e; cases e
    exact (hs.2 b hne).trans (I.hp.base b o e)
  · obtain ⟨a, vs, n, e1, e2, e3⟩ := I.hp.at_ k xs hk
    exact ⟨a, vs, n, e1, (hs.2 a (Ne.symm (ns_ne_list hm e2))).trans e2, e3.keep K⟩
  · exact (I.sc g (List.mem_cons_of_mem _ hg)).mono (List.prefix_refl _) K (fun m' hn => hn.sameBut hs (Ne.symm ((List.pairwise_cons.mp I.ap).1 g hg).1)) fun c ov _ hc => hc.sameBut hs (cell_ne_ns hc hm)
end

/-- the scope of a comprehension at work -/
noncomputable def scC (scope : Scope) (sg' : Sg) (i : Nat) (sc : Sc) (L : Addr) : Sc := ⟨compEnvC scope (closeL sc.env.cells scope.names []) L sc.env, sg'.vars, fun j => if j = i then none else sc.ρ j, false⟩

theorem relabel_names {sg : Sg} {sc : Sc} (hs : SgOk sg sc) (scope : Scope) : (relabel scope sc.env).names = relab scope.names sg := by
  unfold relabel relab
  refine List.map_congr_left fun p _ => ?_
  have h1 : (sc.env.scope.kind == ScopeKind.function) = true := by rw [hs.kind]; rfl
  have h2 := hs.kindOf p.1
  dsimp only
  rw [h1, h2, Bool.and_true]

theorem Inv.enterC {h₀ h h' : Heap} {ι : List Addr} {μ : MH} {sc : Sc} {rest : List Sc} {sg sg' : Sg} {scope : Scope} {x : Str} {i : Nat} {L : Addr} (I : Inv h₀ (sc :: rest) ι μ h) (hs : SgOk sg sc) (K : CompOk sg sg' scope x i) {m : Str → Option Value} (hns : h'.Ns L m) (hL : h.get? L = none)
    (hx : ∀ a o, h.get? a = some o → h'.get? a = some o) : Inv h₀ (scC scope sg' i sc L :: sc :: rest) ι μ h' := by
  have I' := I.ext hx
  have S := I'.sc sc List.mem_cons_self
  have hkind : ∀ y, (scC scope sg' i sc L).env.kindOf y = sg'.names.lookup y := fun y => by
    show (relabel scope sc.env).names.lookup y = _
    rw [relabel_names hs, K.names]
  have hfree : ∀ y, (y, NameKind.free) ∈ scope.names → ∃ c, sc.env.cells.lookup y = some c := fun y hy => by
    obtain ⟨h1, p, h2, h3⟩ := K.free _ hy rfl
    obtain ⟨c, ov, e1, _⟩ := S.cel p.1 p.2 (by rw [hs.vars]; exact h2) (by rw [hs.kindOf, h3]; exact h1)
    exact ⟨c, by rw [← e1, h3]⟩
  have hcl : ∀ c ∈ (closeL sc.env.cells scope.names []).map (·.2), c ∈ sc.env.cells.map (·.2) := fun c hc => by
    obtain ⟨p, hp, rfl⟩ := List.mem_map.mp hc
    rcases closeL_mem hp with hp | ⟨h1, h2⟩
    · cases hp
    · obtain ⟨c, hc⟩ := hfree _ h1
      rw [hc] at h2
      have h2' : p.2 = c := h2
      rw [h2']
      exact List.mem_map.mpr ⟨_, mem_of_lookup hc, rfl⟩
  refine ⟨I'.hp, fun g hg => ?_, List.pairwise_cons.mpr ⟨fun g hg => ⟨?_, fun e => by cases e⟩, I'.ap⟩, fun g hg => ?_⟩
  · rcases List.mem_cons.mp hg with rfl | hg
    · refine ⟨⟨_, hns, fun y j v hy hk hv => ?_⟩, fun y j hy hk => ?_, fun c hc => S.all c (hcl c hc)⟩
      · rw [hkind] at hk
        rcases K.vars _ hy with e | ⟨_, _, _, e⟩
        · cases e
          have : (if i = i then (none : Option MV) else sc.ρ i) = some v := hv
          rw [if_pos rfl] at this; cases this
        · rw [e] at hk; cases hk
      · rw [hkind] at hk
        rcases K.vars _ hy with e | ⟨h1, h2, h3, _⟩
        · cases e; rw [K.xl] at hk; cases hk
        · obtain ⟨c, ov, e1, e2, e3⟩ := S.cel y j (by rw [hs.vars]; exact h1) (by rw [hs.kindOf]; exact h3)
          refine ⟨c, ov, closeL_lookup h2 e1, e2, fun v hv => e3 v ?_⟩
          have hv' : (if j = i then (none : Option MV) else sc.ρ j) = some v := hv
          split at hv'
          · cases hv'
          · exact hv'
    · exact I'.sc g hg
  · obtain ⟨m', hm', _⟩ := (I.sc g hg).loc
    obtain ⟨o, _, _, ho, _⟩ := hm'
    rintro e
    have e' : L = g.env.locals := e
    rw [← e', hL] at ho; cases ho
  · rcases List.mem_cons.mp hg with rfl | hg
    · refine ⟨?_, fun c hc => (I.nw sc List.mem_cons_self).2 c (hcl c hc)⟩
      show h₀.get? L = none
      cases e : h₀.get? L with
      | none => rfl
      | some o => have := I.hp.base L o e; rw [hL] at this; cases this
    · exact I.nw g hg
end Mine

set_option linter.unusedVariables false
namespace Mine
open PySem

section
variable {C : Cx} {q : Bool} {n : Nat} {sg : Sg}

theorem compM_ok {G : MH → Prop} {put : Rho → MV → Rho} {c e : D} {k : Nat} : ∀ {its : List MV} {ρ : Rho} {μ : MH} {v : MV} {μ' : MH}, compM G put c e k its ρ μ = .ok v μ' → v = .lst k
  | [], ρ, μ, v, μ', h => by
    rw [compM_nil] at h
    split at h
    · cases h; rfl
    · cases h
  | u :: us, ρ, μ, v, μ', h => by
    rw [compM_cons] at h
    split at h
    · cases h1 : c (put ρ u) μ with
      | ok b μ₁ =>
        rw [h1, Out.bind_ok] at h
        have h' := h
        clear h h1
        cases b with
        | bool b => cases b with
          | true =>
            cases h2 : e (put ρ u) μ₁ with
            | ok y μ₂ =>
              dsimp only at h'
              rw [h2, Out.bind_ok] at h'
              have h'' := h'
              split at h''
              · split at h''
                · exact compM_ok h''
                · cases h''
              · cases h''
            | exc cc μ₂ => dsimp only at h'; rw [h2] at h'; cases h'
            | stuck => dsimp only at h'; rw [h2] at h'; cases h'
          | false => exact compM_ok h'
        | _ => cases h'
      | exc cc μ₁ => rw [h1] at h; cases h
      | stuck => rw [h1] at h; cases h
    · cases h

noncomputable def dComp (src : DI) (c e : D) (i : Nat) : D := fun ρ μ => (src ρ μ).bind fun s μ => compM s.G (putAt i) c e μ.length s.its ρ (μ ++ [[]])

theorem comp_core {A : Around} {E : Value → Shared → Prop} {s₀ s₂ : Shared} {sc : Sc} {rest : List Sc} {ι₀ ι : List Addr} {μ : MH} {it : Value} {x : Str} {xp : Pos} {elt iter : Expr} {ifs : List Expr} {scope : Scope} {pos : Pos} {its : List MV} {i : Nat} {G : MH → Prop} {hs : Heap} {St : Nat → List Addr → Heap → Prop} {c e : D} {o : Out MV} {sg' : Sg} {RR : Value → Addr → Result → Shared → Prop} {Lt : Addr}
    (P : Stepper C A sg' it (.Name x xp) its (putAt i) G hs St) (hc : CSound C n sg' ifs c) (he : ESound C true n sg' elt e) (K : CompOk sg sg' scope x i) (hsg : SgOk sg sc) (hA : AOk true n (sc :: rest) A) (hL : topL (sc :: rest) = some Lt) (hI : Inv C.h₀ (sc :: rest) ι μ s₂.heap) (hK : Keep s₀.heap hs) (hK' : Keep hs s₂.heap) (hst : St 0 ι s₂.heap) (hpre : ι₀ <+: ι) (hsh : ∃ h tk, s₂ = { s₀ with heap := h, toks := tk })
    (ho : compM G (putAt i) c e μ.length its sc.ρ (μ ++ [[]]) = o) (hne : o ≠ .stuck)
    (hok : ∀ a L s' μ' ι' ρ' fl, o = .ok (.lst μ.length) μ' → ι'[μ.length]? = some a → Go C ι₀ s₀ ((scC scope sg' i sc L).at ρ' :: sc :: rest) ι' μ' s' → RR (.ref a) L (.ok fl) s')
    (herr : ∀ a L s' cc μ' ι' ρ' y, o = .exc cc μ' → Go C ι₀ s₀ ((scC scope sg' i sc L).at ρ' :: sc :: rest) ι' μ' s' → FlyT C cc y (rawInt Lt) s'.heap → RR (.ref a) L (.error y) s') :
    wpAny (model C.prog C.w) A (newList []) (fun acc s₃ => wpAny (model C.prog C.w) A (newFunctionEnv scope sc.env.globals (closeL sc.env.cells scope.names []) [] sc.env.qual none .none (some sc.env)) (fun cenv s₄ =>
      codeAny (model C.prog C.w) A (.compStart (.ListComp elt [⟨.Name x xp, iter, ifs, 0⟩] scope pos) 0 it acc { cenv with scope := relabel scope sc.env }) (RR acc cenv.locals) s₄) E s₃) E s₂ := by
  refine wpAny_newObj_type (wpAny_newFunctionEnv K.cell (by intro y hy; simp at hy) (fun h₁ hns₁ hsb₁ => ?_) K.kind)
  dsimp only at hns₁ hsb₁ ⊢
  have I2 := hI.newList (xs := []) (vs := []) .nil
  generalize hH2 : s₂.heap.push { cls := .type "list", dict := none, data := .seq ([] : List Value).toArray } = H2 at hns₁ hsb₁ I2 ⊢
  have hlt : ∀ b o, H2.get? b = some o → h₁.get? b = some o := fun b o e2 => (hsb₁.2 b (Nat.ne_of_lt (Heap.lt_size e2))).trans (Heap.get?_push_of_some _ e2)
  have K2 : Keep s₂.heap H2 := by rw [← hH2]; exact Keep.push _ _
  have K3 : Keep H2 h₁ := Keep.of_ext hlt
  have I3 := I2.enterC hsg K hns₁ (none_at_size _) hlt
  have hpre2 : ι <+: ι ++ [s₂.heap.objs.size] := List.prefix_append ..
  have hka : (ι ++ [s₂.heap.objs.size])[μ.length]? = some s₂.heap.objs.size := by rw [← hI.hp.len]; simp
  have hA' : AOk true n (scC scope sg' i sc H2.objs.size :: sc :: rest) A := by
    refine ⟨?_, hA.depth, hA.units, hA.hand, hA.guards, ⟨?_, ?_, hA.stk⟩, .inr ?_⟩
    · rw [hA.frames]; rfl
    · show sc.env.frame = topL (scC scope sg' i sc H2.objs.size :: sc :: rest)
      rw [hA.stk.1]; rfl
    · exact K.kind
    · show (topL (sc :: rest)).isSome = true
      rw [hL]; rfl
  have hsg' : SgOk sg' (scC scope sg' i sc H2.objs.size) := ⟨(relabel_names hsg scope).trans K.names.symm, K.kind, rfl, K.fr.symm, hsg.gl, hsg.bl, fun e => by cases e⟩
  have loop : ∀ s₃ : Shared, s₃ = { s₂ with heap := h₁, toks := s₂.toks + ([] : List (Str × Value)).length } →
      codeAny (model C.prog C.w) A (.compLoop (.ListComp elt [⟨.Name x xp, iter, ifs, 0⟩] scope pos) 0 it (.ref s₂.heap.objs.size) (scC scope sg' i sc H2.objs.size).env)
        (RR (.ref s₂.heap.objs.size) H2.objs.size) s₃ := by
    rintro s₃ rfl
    refine codeAny_mono (compLoop_ (s₀ := s₀) (ι₀ := ι₀ ++ (ι ++ [s₂.heap.objs.size]).drop ι₀.length) (L := Lt) (ρ := sc.ρ) P hc he hsg' hA' hL I3 hK ((hK'.trans K2).trans K3) (P.keep _ _ _ _ _ hst hpre2 (K2.trans K3)) ?_ hka ?_ ?_ ho hne) fun r s' hr => ?_
    · obtain ⟨t, rfl⟩ := hpre
      simp
    · obtain ⟨h2, t2, e2⟩ := hsh
      exact ⟨h₁, s₂.toks + 0, by rw [e2]; rfl⟩
    · intro v
      funext z
      simp only [putAt, Rho.set, scC]
      split
      · rfl
      · rfl
    · have hpp : ι₀ <+: ι₀ ++ (ι ++ [s₂.heap.objs.size]).drop ι₀.length := List.prefix_append ..
      have hpe : ι₀ ++ (ι ++ [s₂.heap.objs.size]).drop ι₀.length = ι ++ [s₂.heap.objs.size] := by
        obtain ⟨t, rfl⟩ := hpre
        simp
      have wk : ∀ {fs : List Sc} {ι' : List Addr} {μ' : MH} {s' : Shared}, Go C (ι₀ ++ (ι ++ [s₂.heap.objs.size]).drop ι₀.length) s₀ fs ι' μ' s' → Go C ι₀ s₀ fs ι' μ' s' := fun g => ⟨g.sh, hpp.trans g.pre, g.inv, g.keep⟩
      cases r with
      | ok fl =>
        obtain ⟨v, μ', ι', ρ', e1, g1⟩ := hr
        have hv := compM_ok (ho.trans e1)
        subst hv
        refine hok _ _ s' μ' ι' ρ' fl e1 ?_ (wk g1)
        have hp := g1.pre
        rw [hpe] at hp
        obtain ⟨t, rfl⟩ := hp
        rw [List.getElem?_append_left (List.getElem?_eq_some_iff.mp hka).1]; exact hka
      | error y =>
        obtain ⟨cc, μ', ι', ρ', e1, g1, f1⟩ := hr
        exact herr _ _ s' cc μ' ι' ρ' y e1 (wk g1) f1
  exact codeAny_compStart_list (loop _ rfl) (P.self (ι ++ [s₂.heap.objs.size]) _ _ _ (P.keep _ _ _ _ _ hst hpre2 (K2.trans K3)) (loop _ rfl))

theorem flyT_but {c : Str} {y fl : Value} {h h' : Heap} {L : Addr} {m : Str → Option Value} (f : FlyT C c y fl h) (hm : h.Ns L m) (hs : Heap.SameBut L h h') : FlyT C c y fl h' := by
  obtain ⟨a, oe, vs, T, oT, ts, h1, h2, h3, h4, h4', h5, h6, h7, h8, h9, h10, h11, h12, h13⟩ := f.it
  have ne : ∀ b o us, h.get? b = some o → o.data = .fields us → b ≠ L := fun b o us hb hd q => by
    subst q
    obtain ⟨o', es, ep, ho', hd', _⟩ := hm
    rw [hb] at ho'; cases ho'; rw [hd] at hd'; cases hd'
  exact ⟨a, oe, vs, T, oT, ts, h1, h2, (hs.2 a (ne a oe vs h3 h5)).trans h3, h4, h4', h5, h6, h7, h8, h9, (hs.2 T (ne T oT ts h10 h12)).trans h10, h11, h12, h13⟩

theorem pass_ {α : Type} {A : Around} {s : Shared} {fs : List Sc} {ι : List Addr} {μ : MH} {c : Str} {y fl : Value} {env : Env} {w : String} {Q : α → Shared → Prop} {E : Value → Shared → Prop} (hI : Inv C.h₀ fs ι μ s.heap) (f : FlyT C c y fl s.heap)
    (k : ∀ s₁, Go C ι s fs ι μ s₁ → Fly C c y s₁.heap → E y s₁) : wpAny (model C.prog C.w) A (passOn w y env : Sem α) Q E s := by
  obtain ⟨a, oe, vs, T, oT, ts, rfl, h2, h3, h4, h4', h5, h6, h7, h8⟩ := f.it
  unfold passOn
  refine wpAny_bind (wpAny_field h3 h5 h7 ?_)
  rw [if_neg (by simp)]
  refine wpAny_bind (flight_ hI f fun s₁ g1 f1 => ?_)
  exact wpAny_throw (k s₁ g1 f1.fly)

theorem comp_closure {sc : Sc} {rest : List Sc} {ι : List Addr} {μ : MH} {h h₀ : Heap} {sg sg' : Sg} {scope : Scope} {x : Str} {i : Nat} (hI : Inv h₀ (sc :: rest) ι μ h) (hs : SgOk sg sc) (K : CompOk sg sg' scope x i) : closureFor scope sc.env = pure (closeL sc.env.cells scope.names []) := by
  refine closure_eq fun p hp hf => ?_
  obtain ⟨h1, r, h2, h3⟩ := K.free p hp hf
  obtain ⟨c, ov, e1, _⟩ := (hI.sc sc List.mem_cons_self).cel r.1 r.2 (by rw [hs.vars]; exact h2) (by rw [hs.kindOf, h3]; exact h1)
  exact ⟨c, by rw [← e1, h3]⟩

theorem snd_comp {elt iter : Expr} {x : Str} {xp pos : Pos} {ifs : List Expr} {scope : Scope} {i : Nat} {c e : D} {src : DI} {sg' : Sg} (hi : ISound C n sg iter (.Name x xp) sg' (putAt i) src) (hc : CSound C n sg' ifs c) (he : ESound C true n sg' elt e) (K : CompOk sg sg' scope x i) (hfs : ∀ env x, foldedSetIterable iter env x = pure x) :
    ESound C true n sg (.ListComp elt [⟨.Name x xp, iter, ifs, 0⟩] scope pos) (dComp src c e i) := fun A s sc rest ι μ hs hA hI hne => by
  obtain ⟨Lt, hL⟩ : ∃ L, topL (sc :: rest) = some L := by
    rcases hA.top with h | h
    · cases h
    · exact Option.isSome_iff_exists.mp h
  rw [eval_ListComp]
  refine wpAny_comprehension_free (use := none) rfl (hfs _) (comp_closure hI hs K) K.kind K.own ?_
  refine hi A s sc rest ι μ _ _ hs hA hI (bind_ne hne) (fun sr μ₁ ι₁ it s₁ hs' St e1 g1 K1 K2 hst P => ?_) fun y s₁ p => p.bind
  have E1 : dComp src c e i sc.ρ μ = compM sr.G (putAt i) c e μ₁.length sr.its sc.ρ (μ₁ ++ [[]]) := by unfold dComp; first | (rw [e1]; done) | (rw [e1]; rfl)
  refine comp_core (RR := fun acc L => compPost (model C.prog C.w) A (XPost C ι s (sc :: rest) (dComp src c e i sc.ρ μ)) none (EPost C ι s (sc :: rest) (dComp src c e i sc.ρ μ)) acc L) P hc he K hs hA hL g1.inv K1 K2 hst g1.pre g1.sh E1.symm hne ?_ ?_
  · intro a L s' μ' ι' ρ' fl e2 hk g2
    obtain ⟨m, hm, _⟩ := (g2.inv.sc _ List.mem_cons_self).loc
    refine ⟨m, hm, fun h' hsb => ?_⟩
    obtain ⟨I3, K3⟩ := g2.inv.letGo hsb
    obtain ⟨h2, t2, rfl⟩ := g2.sh
    exact ⟨_, μ', ι', e2, ⟨⟨_, _, rfl⟩, g2.pre, I3, g2.keep.trans K3⟩, .lst hk⟩
  · intro a L s' cc μ' ι' ρ' y e2 g2 f2
    obtain ⟨m, hm, _⟩ := (g2.inv.sc _ List.mem_cons_self).loc
    refine ⟨m, hm, fun h' hsb cenv hce => ?_⟩
    obtain ⟨I3, K3⟩ := g2.inv.letGo hsb
    obtain ⟨h2, t2, rfl⟩ := g2.sh
    refine pass_ (s := { s with heap := h', toks := t2 }) I3 (flyT_but f2 hm hsb) fun s₃ g3 f3 => ?_
    have g23 : Go C ι s (sc :: rest) ι' μ' { s with heap := h', toks := t2 } := ⟨⟨_, _, rfl⟩, g2.pre, I3, g2.keep.trans K3⟩
    exact ⟨cc, μ', ι', e2, g23.trans g3, f3⟩

theorem s_assignComp {elt iter : Expr} {x y : Str} {xp yp pos spos : Pos} {ifs : List Expr} {scope : Scope} {i j : Nat} {c e : D} {src : DI} {sg' : Sg} (hi : ISound C n sg iter (.Name x xp) sg' (putAt i) src) (hc : CSound C n sg' ifs c) (he : ESound C true n sg' elt e) (K : CompOk sg sg' scope x i) (hfs : ∀ env x, foldedSetIterable iter env x = pure x)
    (V : VarsOk sg.vars) (hy : (y, j) ∈ sg.vars) (hk : sg.names.lookup y = some .local) (hsw : ∀ env : Env, env.scope.names = sg.names → env.scope.kind = .function → swapsWith (.ListComp elt [⟨.Name x xp, iter, ifs, 0⟩] scope pos) (some (.Name y yp)) spos.line env = pure true) :
    S1Sound C true n sg (.Assign [.Name y yp] (.ListComp elt [⟨.Name x xp, iter, ifs, 0⟩] scope pos) spos) (dAssign j (dComp src c e i)) := fun A s sc rest ι μ hs hA hI hne => by
  obtain ⟨Lt, hL⟩ : ∃ L, topL (sc :: rest) = some L := by
    rcases hA.top with h | h
    · cases h
    · exact Option.isSome_iff_exists.mp h
  have hne1 : dComp src c e i sc.ρ μ ≠ .stuck := bind_ne hne
  rw [exec_Assign_Name_used _ _ _ _ (hsw _ hs.names hs.kind)]
  refine wpAny_bind (wpAny_standAt (wpAny_bind ?_))
  show wpAny _ A (do let _ ← comprehension (.ListComp elt [⟨.Name x xp, iter, ifs, 0⟩] scope pos) scope sc.env _ (newList []) false (eval iter sc.env) (some (assign (.Name y yp) sc.env))) _ _ s
  refine wpAny_bind (wpAny_mono (wpAny_comprehension_free (use := some (assign (.Name y yp) sc.env)) (Q := fun _ s' => SPost C ι s sc rest (dAssign j (dComp src c e i) sc.ρ μ) .next s') (E := XPost C ι s (sc :: rest) (dComp src c e i sc.ρ μ)) rfl (hfs _) (comp_closure hI hs K) K.kind K.own ?_) (fun _ s' hq => wpAny_pure (wpAny_pure hq)) fun z s' p => SXPost.of p)
  refine hi A s sc rest ι μ _ _ hs hA hI (bind_ne hne1) (fun sr μ₁ ι₁ it s₁ hs' St e1 g1 K1 K2 hst P => ?_) fun y s₁ p => p.bind
  have E1 : dComp src c e i sc.ρ μ = compM sr.G (putAt i) c e μ₁.length sr.its sc.ρ (μ₁ ++ [[]]) := by unfold dComp; first | (rw [e1]; done) | (rw [e1]; rfl)
  refine comp_core (RR := fun acc L => compPost (model C.prog C.w) A (XPost C ι s (sc :: rest) (dComp src c e i sc.ρ μ)) (some (assign (.Name y yp) sc.env)) (fun _ s' => SPost C ι s sc rest (dAssign j (dComp src c e i) sc.ρ μ) .next s') acc L) P hc he K hs hA hL g1.inv K1 K2 hst g1.pre g1.sh E1.symm hne1 ?_ ?_
  · intro a L s' μ' ι' ρ' fl e2 hka g2
    have I3 := g2.inv.swapC
    obtain ⟨h2, t2, rfl⟩ := g2.sh
    refine wpAny_assign_Name (store_ (s := s) (ι := ι) hs V hy (.inl hk) ⟨⟨h2, t2, rfl⟩, g2.pre, I3, g2.keep⟩ (.lst hka) fun s₃ g3 K3 => ?_)
    have I4 := g3.inv.swapBack rfl
    obtain ⟨m, hm, _⟩ := (I4.sc _ List.mem_cons_self).loc
    refine ⟨m, hm, fun h' hsb => ?_⟩
    obtain ⟨I5, K5⟩ := I4.letGo hsb
    obtain ⟨h3, t3, rfl⟩ := g3.sh
    exact ⟨.next, sc.ρ.set j (.lst μ₁.length), μ', ι', by unfold dAssign; first | (rw [e2]; done) | (rw [e2]; rfl), .next, ⟨⟨_, _, rfl⟩, g3.pre, I5, g3.keep.trans K5⟩⟩
  · intro a L s' cc μ' ι' ρ' z e2 g2 f2
    obtain ⟨m, hm, _⟩ := (g2.inv.sc _ List.mem_cons_self).loc
    refine ⟨m, hm, fun h' hsb cenv hce => ?_⟩
    obtain ⟨I3, K3⟩ := g2.inv.letGo hsb
    obtain ⟨h2, t2, rfl⟩ := g2.sh
    refine pass_ (s := { s with heap := h', toks := t2 }) I3 (flyT_but f2 hm hsb) fun s₃ g3 f3 => ?_
    have g23 : Go C ι s (sc :: rest) ι' μ' { s with heap := h', toks := t2 } := ⟨⟨_, _, rfl⟩, g2.pre, I3, g2.keep.trans K3⟩
    exact ⟨cc, μ', ι', e2, g23.trans g3, f3⟩
end
end Mine

set_option linter.unusedVariables false
namespace Mine
open PySem

section
variable {C : Cx} {q : Bool} {n : Nat} {sg : Sg}

/-- a < b < c -/
noncomputable def dChain (g1 g2 : MV → MV → MH → Out MV) (fl fm fr : D) : D := fun ρ μ => (fl ρ μ).bind fun a μ => (fm ρ μ).bind fun b μ => (g1 a b μ).bind fun c μ => match c with
  | .bool true => (fr ρ μ).bind fun d μ => g2 b d μ
  | .bool false => .ok (.bool false) μ
  | _ => .stuck

theorem chain_ {l m r : Expr} {op1 op2 : CmpOp} {fl fm fr : D} {g1 g2 : MV → MV → MH → Out MV} (hl : ESound C q n sg l fl) (hm : ESound C q n sg m fm) (hr : ESound C q n sg r fr) (ho1 : Op2 C q n (compareOp op1) g1) (ho2 : Op2 C q n (compareOp op2) g2)
    {A : Around} {s : Shared} {sc : Sc} {rest : List Sc} {ι : List Addr} {μ : MH} (hs : SgOk sg sc) (hA : AOk q n (sc :: rest) A) (hI : Inv C.h₀ (sc :: rest) ι μ s.heap) (hne : dChain g1 g2 fl fm fr sc.ρ μ ≠ .stuck) {o : Out MV} (heq : dChain g1 g2 fl fm fr sc.ρ μ = o) :
    wpAny (model C.prog C.w) A (eval l sc.env) (fun a s₁ => wpAny (model C.prog C.w) A (eval m sc.env) (fun b s₂ => wpAny (model C.prog C.w) A (compareOp op1 a b) (fun c s₃ => wpAny (model C.prog C.w) A (truthy c) (fun t s₄ =>
      if t then wpAny (model C.prog C.w) A (eval r sc.env) (fun d s₅ => wpAny (model C.prog C.w) A (compareOp op2 b d) (EPost C ι s (sc :: rest) o) (XPost C ι s (sc :: rest) o) s₅) (XPost C ι s (sc :: rest) o) s₄ else EPost C ι s (sc :: rest) o c s₄ ∧ TPost C ι s (sc :: rest) o false s₄)
      (XPost C ι s (sc :: rest) o) s₃) (XPost C ι s (sc :: rest) o) s₂) (XPost C ι s (sc :: rest) o) s₁) (XPost C ι s (sc :: rest) o) s := by
  rw [heq] at hne
  unfold dChain at heq
  have x1 : (fl sc.ρ μ).bind (fun a μ => (fm sc.ρ μ).bind fun b μ => (g1 a b μ).bind fun c μ => match c with
    | .bool true => (fr sc.ρ μ).bind fun d μ => g2 b d μ
    | .bool false => .ok (.bool false) μ
    | _ => .stuck) ≠ .stuck := by rw [heq]; exact hne
  rw [← heq]
  refine then_ hl hs hA hI x1 fun a μ₁ ι₁ x s₁ e1 gg1 r1 hne1 => ?_
  simp only [e1, Out.bind_ok] at heq ⊢
  refine wpAny_mono (then_ hm hs hA gg1.inv hne1 (Q := fun b s₂ => _) fun b μ₂ ι₂ y s₂ e2 gg2 r2 hne2 => ?_) (fun _ _ p => p) fun e s₂ p => p.after gg1
  simp only [e2, Out.bind_ok]
  have hne3 := bind_ne hne2
  refine wpAny_mono (ho1 A s₂ (sc :: rest) ι₂ μ₂ a b x y hA gg2.inv (r1.mono gg2.pre gg2.keep) r2 hne3) (fun c s₃ p => ?_) fun z s₃ p => p.bind.after (gg1.trans gg2)
  obtain ⟨cv, μ₃, ι₃, e3, gg3, r3⟩ := p
  simp only [e3, Out.bind_ok] at hne2 ⊢
  have G := (gg1.trans gg2).trans gg3
  cases cv with
  | bool t =>
    obtain rfl := r3.bool_inv
    refine wpAny_truthy_bool ?_
    cases t with
    | false => exact ⟨⟨.bool false, μ₃, ι₃, rfl, G, .bool _⟩, ⟨μ₃, ι₃, rfl, G⟩⟩
    | true =>
      simp only [if_true]
      refine wpAny_mono (then_ hr hs hA gg3.inv hne2 (Q := fun d s₅ => _) fun d μ₄ ι₄ z s₄ e4 gg4 r4 hne4 => ?_) (fun _ _ p => p) fun e s₂ p => p.after G
      simp only [e4, Out.bind_ok]
      exact wpAny_mono (ho2 A s₄ (sc :: rest) ι₄ μ₄ b d y z hA gg4.inv (r2.mono (gg3.trans gg4).pre (gg3.trans gg4).keep) r4 hne4) (fun _ _ p => p.after (G.trans gg4)) fun _ _ p => p.after (G.trans gg4)
  | _ => exact absurd rfl hne2

theorem snd_chain {l m r : Expr} {op1 op2 : CmpOp} {pos : Pos} {fl fm fr : D} {g1 g2 : MV → MV → MH → Out MV} (hl : ESound C q n sg l fl) (hm : ESound C q n sg m fm) (hr : ESound C q n sg r fr) (ho1 : Op2 C q n (compareOp op1) g1) (ho2 : Op2 C q n (compareOp op2) g2) (hlm : lastMarks [op1, op2] [m, r] = false) :
    ESound C q n sg (.Compare l [op1, op2] [m, r] pos) (dChain g1 g2 fl fm fr) := fun A s sc rest ι μ hs hA hI hne => by
  refine PyProof.Rows.Compare_chain (wpAny_mono (chain_ hl hm hr ho1 ho2 hs hA hI hne rfl) (fun a s₁ h₁ => PyProof.Rows.chain_link (wpAny_mono h₁ (fun b s₂ h₂ => wpAny_mono h₂ (fun c s₃ h₃ => wpAny_mono h₃ (fun t s₄ h₄ => ?_) fun _ _ p => p) fun _ _ p => p) fun _ _ p => p)) fun _ _ p => p) hlm
  cases t with
  | true => exact PyProof.Rows.chain_last h₄
  | false => exact h₄.1
theorem tst_chain {l m r : Expr} {op1 op2 : CmpOp} {pos : Pos} {fl fm fr : D} {g1 g2 : MV → MV → MH → Out MV} (hl : ESound C q n sg l fl) (hm : ESound C q n sg m fm) (hr : ESound C q n sg r fr) (ho1 : Op2 C q n (compareOp op1) g1) (ho2 : Op2 C q n (compareOp op2) g2) (hlm : lastMarks [op1, op2] [m, r] = false) :
    TSound C q n sg (.Compare l [op1, op2] [m, r] pos) (dChain g1 g2 fl fm fr) := fun A s sc rest ι μ hs hA hI hne hb => by
  refine PyProof.Rows.isTrue_chain (wpAny_mono (chain_ hl hm hr ho1 ho2 hs hA hI hne rfl) (fun a s₁ h₁ => PyProof.Rows.test_link (wpAny_mono h₁ (fun b s₂ h₂ => wpAny_mono h₂ (fun c s₃ h₃ => wpAny_mono h₃ (fun t s₄ h₄ => ?_) fun _ _ p => p) fun _ _ p => p) fun _ _ p => p)) fun _ _ p => p) hlm
  cases t with
  | true => exact PyProof.Rows.test_last (wpAny_mono h₄ (fun d s₅ h₅ => wpAny_mono h₅ (fun c s₆ p => truthy_post p hb) fun _ _ p => p) fun _ _ p => p)
  | false => exact h₄.2
end
end Mine

set_option linter.unusedVariables false
namespace Mine
open PySem

section
variable {C : Cx} {q : Bool} {n : Nat} {sg : Sg}

theorem OpL.mono {n' : Nat} {t : List Value → Sem Value} {f : List MV → MH → Out MV} (h : OpL C q n t f) (hn : n ≤ n') : OpL C q n' t f := fun A s fs ι μ a x hA hI hr hne => h A s fs ι μ a x (hA.mono hn id) hI hr hne

/-- a def of the program stands under its name -/
noncomputable def FnIs (C : Cx) (x : Str) (body : List Stmt) (ps : List Str) (sg : Sg) : Prop := ∃ a fd, C.mg x = some (.ref a) ∧ FnOk C a fd body ps sg
/-- a call of the name does what the meaning says -/
noncomputable def CallOk (C : Cx) (x : Str) (n : Nat) (g : List MV → MH → Out MV) : Prop := ∃ a o fd, C.mg x = some (.ref a) ∧ C.h₀.get? a = some o ∧ o.data = .func fd ∧ OpL C true n (fun vs => call (.ref a) vs) g

theorem callOk_of (CO : CxOk C) {x : Str} {body : List Stmt} {ps : List Str} {f : DS} (F : FnIs C x body ps sg) (hb : SSound C true n sg body f) : CallOk C x (n + 1) (dDef ps.length f) := by
  obtain ⟨a, fd, h1, K⟩ := F
  obtain ⟨o, h2, h3⟩ := K.ob
  exact ⟨a, o, fd, h1, h2, h3, def_sound CO K hb⟩

theorem snd_callF (CO : CxOk C) {x : Str} {m : Nat} {e : Expr} {es : List Expr} {np pos : Pos} {fa : DL} {g : List MV → MH → Out MV} (K : CallOk C x m g) (hm : m ≤ n)
    (hk : sg.names.lookup x = some .globalImplicit) (hd : (x == ("__debug__" : Str)) = false) (hL : LSound C true n sg (e :: es) fa) (hns : NoStar (e :: es)) :
    ESound C true n sg (.Call (.Name x np) (e :: es) [] pos) (dCall g fa) := by
  obtain ⟨a, o, fd, h1, h2, h3, h4⟩ := K
  exact snd_call CO (h4.mono hm) hk h1 hd h2 h3 hL hns

noncomputable def compSg (scope : Scope) (sg : Sg) (vars : List (Str × Nat)) : Sg := ⟨relab scope.names sg, vars, false⟩
theorem snd_comp' (vars : List (Str × Nat)) {elt iter : Expr} {x : Str} {xp pos : Pos} {ifs : List Expr} {scope : Scope} {i : Nat} {c e : D} {src : DI} (hi : ISound C n sg iter (.Name x xp) (compSg scope sg vars) (putAt i) src) (hc : CSound C n (compSg scope sg vars) ifs c) (he : ESound C true n (compSg scope sg vars) elt e) (K : CompOk sg (compSg scope sg vars) scope x i) (hfs : ∀ env x, foldedSetIterable iter env x = pure x) :
    ESound C true n sg (.ListComp elt [⟨.Name x xp, iter, ifs, 0⟩] scope pos) (dComp src c e i) := snd_comp hi hc he K hfs
theorem s_assignComp' (vars : List (Str × Nat)) {elt iter : Expr} {x y : Str} {xp yp pos spos : Pos} {ifs : List Expr} {scope : Scope} {i j : Nat} {c e : D} {src : DI} (hi : ISound C n sg iter (.Name x xp) (compSg scope sg vars) (putAt i) src) (hc : CSound C n (compSg scope sg vars) ifs c) (he : ESound C true n (compSg scope sg vars) elt e) (K : CompOk sg (compSg scope sg vars) scope x i) (hfs : ∀ env x, foldedSetIterable iter env x = pure x)
    (V : VarsOk sg.vars) (hy : (y, j) ∈ sg.vars) (hk : sg.names.lookup y = some .local) (hsw : ∀ env : Env, env.scope.names = sg.names → env.scope.kind = .function → swapsWith (.ListComp elt [⟨.Name x xp, iter, ifs, 0⟩] scope pos) (some (.Name y yp)) spos.line env = pure true) :
    S1Sound C true n sg (.Assign [.Name y yp] (.ListComp elt [⟨.Name x xp, iter, ifs, 0⟩] scope pos) spos) (dAssign j (dComp src c e i)) := s_assignComp hi hc he K hfs V hy hk hsw
end

/-! side conditions, by looking -/
theorem VarsOk.of {vars : List (Str × Nat)} (h1 : (vars.map (·.1)).Nodup) (h2 : (vars.map (·.2)).Nodup) : VarsOk vars := by
  induction vars with
  | nil => intro x i y j hx; cases hx
  | cons p r ih =>
    rw [List.map_cons, List.nodup_cons] at h1 h2
    have ih' := ih h1.2 h2.2
    intro x i y j hx hy
    rcases List.mem_cons.mp hx with ex | hx
    · rcases List.mem_cons.mp hy with ey | hy
      · rw [← ex] at ey; cases ey; simp
      · refine ⟨fun e => ?_, fun e => ?_⟩
        · subst e; exact absurd (List.mem_map.mpr ⟨_, hy, rfl⟩) (by rw [← ex] at h1; exact h1.1)
        · subst e; exact absurd (List.mem_map.mpr ⟨_, hy, rfl⟩) (by rw [← ex] at h2; exact h2.1)
    · rcases List.mem_cons.mp hy with ey | hy
      · refine ⟨fun e => ?_, fun e => ?_⟩
        · subst e; exact absurd (List.mem_map.mpr ⟨_, hx, rfl⟩) (by rw [← ey] at h1; exact h1.1)
        · subst e; exact absurd (List.mem_map.mpr ⟨_, hx, rfl⟩) (by rw [← ey] at h2; exact h2.1)
      · exact ih' x i y j hx hy

/-- what must be looked at for a comprehension -/
noncomputable def compOkB (sg : Sg) (scope : Scope) (vars : List (Str × Nat)) (x : Str) (i : Nat) : Bool :=
  scope.kind == .function && (scope.names.all fun y => y.2 != .cell) && (scope.names.all fun y => y.2 != .local || scope.names.lookup y.1 == some .local) &&
  decide ((vars.map (·.1)).Nodup) && decide ((vars.map (·.2)).Nodup) && decide ((x, i) ∈ vars) && (relab scope.names sg).lookup x == some .local &&
  (vars.all fun p => p == (x, i) || (decide (p ∈ sg.vars) && decide ((p.1, NameKind.free) ∈ scope.names) && sg.names.lookup p.1 == some .cell && (relab scope.names sg).lookup p.1 == some .cell)) &&
  (scope.names.all fun y => y.2 != .free || (sg.names.lookup y.1 == some .cell && sg.vars.any fun p => p.1 == y.1))
theorem compOk_of {sg : Sg} {scope : Scope} {vars : List (Str × Nat)} {x : Str} {i : Nat} (h : compOkB sg scope vars x i = true) : CompOk sg (compSg scope sg vars) scope x i := by
  simp only [compOkB, Bool.and_eq_true, decide_eq_true_eq, beq_iff_eq, List.all_eq_true, Bool.or_eq_true, bne_iff_ne, List.any_eq_true] at h
  obtain ⟨⟨⟨⟨⟨⟨⟨⟨h1, h2⟩, h3⟩, h4⟩, h5⟩, h6⟩, h7⟩, h8⟩, h9⟩ := h
  exact ⟨rfl, rfl, h1, h2, fun y hy e => (h3 y hy).resolve_left (fun q => q e), VarsOk.of h4 h5, h6, h7, fun p hp => (h8 p hp).imp id fun ⟨⟨⟨a, b⟩, c⟩, d⟩ => ⟨a, b, c, d⟩, fun y hy e => (h9 y hy).resolve_left (fun q => q e)⟩

theorem swap_yes {sg : Sg} {elt : Expr} {gs : List Comprehension} {scope : Scope} {pos yp : Pos} {y : Str} {l : Nat} (h : (sg.names.lookup y == some .local && yp.line == pos.line && !(scope.names.any fun (n, k) => n == y && (k == .local || k == .cell))) = true) :
    ∀ env : Env, env.scope.names = sg.names → env.scope.kind = .function → swapsWith (.ListComp elt gs scope pos) (some (.Name y yp)) l env = pure true := fun env h1 h2 => by
  unfold swapsWith Env.blockKind Env.kindOf
  simp only [h1, h2]
  simp only [Bool.and_eq_true] at h
  rw [show (Expr.ListComp elt gs scope pos).pos = pos from rfl]
  simp only [h.1.1, h.1.2, h.2]
  rfl
/-! where the program's defs lie -/
noncomputable def fnAt (p : Program) (k : Nat) : Option Stmt := (p.main.body.drop k).head?
noncomputable def bodyAt (p : Program) (k : Nat) : List Stmt := match fnAt p k with | some (.FunctionDef _ _ body ..) => body | _ => []
noncomputable def namesAt (p : Program) (k : Nat) : List (Str × NameKind) := match fnAt p k with | some (.FunctionDef _ _ _ _ _ _ scope ..) => scope.names | _ => []
end Mine

set_option linter.unusedVariables false
namespace Mine
open PySem PySem.W PyProof.Rows

/-! the program's defs as the heap holds them -/
noncomputable def objAt (K : Frag) (a : Addr) : Obj := (K.lookup a).getD { cls := .none, data := .plain }
noncomputable def fdAt (K : Frag) (a : Addr) (d : FuncData) : FuncData := match (objAt K a).data with | .func fd => fd | _ => d
noncomputable def fnB (K : Frag) (x : Str) (a : Addr) (ps : List Str) (sg : Sg) (d : FuncData) : Bool :=
  let fd := fdAt K a d
  (match nsIn K mainGlobals x with | some (some (.ref b)) => b == a | _ => false) && (K.lookup a).isSome && (match (objAt K a).data with | .func _ => true | _ => false) && codeIn K fd.code fd.qualname && fd.closure.isEmpty && fd.scope.names == sg.names && sg.fr &&
  fd.globals == mainGlobals && fd.builtins == builtinsNs && !fd.scope.isCoroutine && !fd.scope.isGenerator && fd.scope.kind == .function &&
  ((List.range ps.length).all fun j => match ps[j]? with | some y => decide ((y, j) ∈ sg.vars) | none => true) && decide ((cellsFrom 0 sg.names []).map (·.1)).Nodup && decide (sg.vars.map (·.1)).Nodup && decide (sg.vars.map (·.2)).Nodup &&
  sg.vars.all fun p => sg.names.lookup p.1 == some .local || (sg.names.lookup p.1 == some .cell && ((cellsFrom 0 sg.names []).lookup p.1).isSome)

theorem isSome_lookup {l : List (Str × Addr)} {x : Str} : (l.lookup x).isSome = (l.map (·.1)).any (fun y => x == y) := by
  induction l with
  | nil => rfl
  | cons p r ih =>
    obtain ⟨y, c⟩ := p
    rw [List.lookup_cons, List.map_cons, List.any_cons]
    cases h : x == y <;> simp [ih]

theorem fnIs_of {C : Cx} {K : Frag} (X : K.In C.h₀) (G : C.h₀.Ns mainGlobals C.mg) {x : Str} (a : Addr) {body : List Stmt} {ps : List Str} {sg : Sg} (d : FuncData) (h : fnB K x a ps sg d = true) (hb : (fdAt K a d).body = .stmts body)
    (hbind : ∀ vals : List Value, vals.length = ps.length → bindArgs (fdAt K a d) ⟨vals, []⟩ = pure (ps.zip vals)) : FnIs C x body ps sg := by
  simp only [fnB, Bool.and_eq_true, decide_eq_true_eq, beq_iff_eq, List.all_eq_true, Bool.or_eq_true, List.isEmpty_iff, Bool.not_eq_true', List.mem_range] at h
  obtain ⟨⟨⟨⟨⟨⟨⟨⟨⟨⟨⟨⟨⟨⟨⟨⟨h1, h2⟩, h3⟩, h4⟩, h5⟩, h6⟩, h7⟩, h8⟩, h9⟩, h10⟩, h11⟩, h12⟩, h13⟩, h14⟩, h15⟩, h16⟩, h17⟩ := h
  have hmg : C.mg x = some (.ref a) := by
    refine mg_of X G ?_
    split at h1
    · rename_i b hb'; rw [hb', beq_iff_eq.mp h1]
    · cases h1
  obtain ⟨o, ho⟩ := Option.isSome_iff_exists.mp h2
  have hobj : objAt K a = o := by simp [objAt, ho]
  have hdata : o.data = .func (fdAt K a d) := by
    rw [hobj] at h3
    unfold fdAt
    rw [hobj]
    split at h3
    · rename_i fd e; simp only [e]
    · cases h3
  refine ⟨a, fdAt K a d, hmg, ⟨⟨o, X _ _ ho, hdata⟩, codeRec_of X h4, hb, h5, h6, h7, h8, h9, h10, h11, h12, hbind, VarsOk.of h15 h16, fun j y hy => ?_, h14, fun y i hy => ?_⟩⟩
  · have := h13 j (List.getElem?_eq_some_iff.mp hy).1
    rw [hy] at this
    exact of_decide_eq_true this
  · rcases h17 _ hy with e | ⟨e1, e2⟩
    · exact .inl e
    · refine .inr ⟨e1, fun k => ?_⟩
      rw [isSome_lookup] at e2 ⊢
      rw [cf_names sg.names k 0 [] [] rfl]
      exact e2

noncomputable def addrIn (K : Frag) (x : Str) : Addr := match nsIn K mainGlobals x with | some (some (.ref b)) => b | _ => 0
theorem fnIs_look {C : Cx} {K : Frag} (X : K.In C.h₀) (G : C.h₀.Ns mainGlobals C.mg) {x : Str} {body : List Stmt} {ps : List Str} {sg : Sg} (h : fnB K x (addrIn K x) ps sg default = true) (hb : (fdAt K (addrIn K x) default).body = .stmts body)
    (hbind : ∀ vals : List Value, vals.length = ps.length → bindArgs (fdAt K (addrIn K x) default) ⟨vals, []⟩ = pure (ps.zip vals)) : FnIs C x body ps sg := fnIs_of X G _ _ h hb hbind

/-! the end -/
theorem well_ints {P : Params} {h : Heap} : ∀ {vs : List Value} {ns : List Int}, WellAll P h vs (ofPys (ns.map .int)) → vs.length = ns.length ∧ ∀ (i : Nat) (k : Int), ns[i]? = some k → ∃ t, vs[i]? = some (.int k t)
  | vs, [], w => by cases w; exact ⟨rfl, fun i k h => by simp at h⟩
  | vs, n :: ns, w => by
    cases w with
    | cons w1 w2 =>
      cases w1
      rename_i t
      obtain ⟨h1, h2⟩ := well_ints w2
      refine ⟨by simp [h1], fun i k hk => ?_⟩
      cases i with
      | zero => simp at hk; subst hk; exact ⟨t, rfl⟩
      | succ i => simp at hk; obtain ⟨t', e⟩ := h2 i k hk; exact ⟨t', by simpa using e⟩

theorem law_end {p : Program} {w : World} {s₁ : Shared} {mg mb : Str → Option Value} {fa l : Addr} {c : ClaimW} {cl : Str → Option Addr} {mean : ExcName → Option Value} {args : List WData} {ns : List Int} {P : Params} {n : Nat} {g : List MV → MH → Out MV} {x : Str}
    (K : CallOk ⟨p, w, s₁.heap, mg, mb⟩ x n g) (hn : n ≤ 400) (hmg : mg x = some (.ref fa)) (hw : Well P s₁.heap (.ref l) (ofPy (.list (ns.map .int)))) (hg : s₁.gens = #[]) (hlaw : ∃ μ, g [.scr ns] [] = .ok (.bool true) μ)
    (hr : ∀ cls, c.raises args cls = false) (hp : c.post args (.bool true) args = true) :
    wpAny (model p w) callerA ((fun f vs => call f vs) (.ref fa) [.ref l]) (fun v s' => GoodWG c cl mean args s₁ (.ok (.ret v)) s') (fun e s' => GoodWG c cl mean args s₁ (.error e) s') s₁ := by
  obtain ⟨a, o, fd, h1, h2, h3, h4⟩ := K
  have ha : a = fa := by
    have h1' : mg x = some (.ref a) := h1
    rw [hmg] at h1'; cases h1'; rfl
  subst ha
  obtain ⟨μ, hμ⟩ := hlaw
  cases hw with
  | list hl ha =>
    rename_i vs
    obtain ⟨e1, e2⟩ := well_ints ha
    have hI : Inv s₁.heap [] [] [] s₁.heap := ⟨⟨fun _ _ e => e, rfl, List.nodup_nil, fun a h => by (cases h), fun k xs h => by simp at h⟩, fun f h => by (cases h), List.Pairwise.nil, fun f h => by (cases h)⟩
    have hA : AOk true n [] callerA := ⟨rfl, by show 1 + claimMargin + n < recursionLimit; simp only [claimMargin, recursionLimit]; omega, by show 4 + 20 * n + 60 < cLine; simp only [cLine]; omega, fun _ => rfl, rfl, trivial, .inl rfl⟩
    refine wpAny_mono (h4 callerA s₁ [] [] [] [.scr ns] [.ref l] hA hI (.one (.scr (n := 0) hl e1 e2)) (by rw [hμ]; exact fun e => by cases e)) (fun v s' p => ?_) fun e s' p => ?_
    · obtain ⟨v', μ', ι', e3, g3, r3⟩ := p
      rw [hμ] at e3
      cases e3
      obtain rfl := r3.bool_inv
      obtain ⟨h', tk, rfl⟩ := g3.sh
      refine GoodW.toG ⟨.inl ⟨_, .bool true, [], rfl, hr, .bool _, hp, fun _ => ⟨List.nodup_nil, fun a h => by cases h⟩⟩, fun b o hb => g3.inv.hp.base b o hb, rfl, hg⟩
    · obtain ⟨cc, μ', ι', e3, _⟩ := p
      rw [hμ] at e3
      cases e3

theorem cxOk_of {q : Program} {loose : List Str} {mean : ExcName → Option Value} {p : Program} {w : World} {mg mb : Str → Option Value} {h : Heap} (T : Top q loose mean mg mb h) : CxOk ⟨p, w, h, mg, mb⟩ := ⟨T.g, T.b, T.nolimit, T.nodigits⟩
theorem gint_of {C : Cx} {K : Frag} (X : K.In C.h₀) (G : C.h₀.Ns mainGlobals C.mg) {x : Str} {i : Int} (h : (match nsIn K mainGlobals x with | some (some (.int j _)) => j == i | _ => false) = true) : ∃ t, C.mg x = some (.int i t) := by
  split at h
  · rename_i j t e
    rw [← beq_iff_eq.mp h]; exact ⟨t, mg_of X G e⟩
  · cases h
theorem gstr_of {C : Cx} {K : Frag} (X : K.In C.h₀) (G : C.h₀.Ns mainGlobals C.mg) {x : Str} {i : Str} (h : (match nsIn K mainGlobals x with | some (some (.str j _)) => j == i | _ => false) = true) : ∃ t, C.mg x = some (.str i t) := by
  split at h
  · rename_i j t e
    rw [← beq_iff_eq.mp h]; exact ⟨t, mg_of X G e⟩
  · cases h
theorem builtin_of {C : Cx} {K : Frag} (X : K.In C.h₀) (G : C.h₀.Ns mainGlobals C.mg) {q : Program} {loose : List Str} {mean : ExcName → Option Value} (T : Top q loose mean C.mg C.mb C.h₀) {x : Str} {v : Value} (h : (match nsIn K mainGlobals x with | some none => true | _ => false) = true) (hv : bootBuiltins x = some v) (hn : x ≠ "__name__") : C.mg x = none ∧ C.mb x = some v := by
  split at h
  · rename_i e
    exact ⟨mg_none_of X G e, (T.builtins x hn).trans hv⟩
  · cases h
end Mine

set_option linter.unusedVariables false
set_option maxRecDepth 100000
namespace Mine
open PySem PySem.W PyProof.Rows

section
variable {prog : Program} {w : World} {A : Around} {E : Value → Shared → Prop} {s : Shared} {K : Frag} {x D : Addr} {ox : Obj} {B newId : String} {bmB : List Value} {mg : Str → Option Value} {nm : Str}

theorem exc_class {Q : Option Value → Shared → Prop} (FB : ExcAttrBase B bmB) (O : OwnClsQ nm D bmB newId mg s.heap) (X : K.In s.heap) (I : InstAt s.heap x ox D none)
    (hga : findIn K (.ref D) "__getattribute__" = some (some (.builtin "BaseException.__getattribute__"))) (hno : findIn K (.ref D) "__getattr__" = some none)
    (hf : findObj K D none "__class__" = some (.bind (.builtin "getset_descriptor.__get__") (.builtin "object.__class__"))) (hm : mroIn K D (.type "object") = some true)
    (h : Q (some (.ref D)) { s with toks := s.toks + 1 }) : wpAny (model prog w) A (getAttr? (.ref x) "__class__") Q E s := by
  obtain ⟨bm, N, nm', q, bs, hdct, sn, sub, ab, col, dd, k0, k1, k2, k3, k5, mN, hC, hN, hq, T⟩ := O.obj
  obtain ⟨hh, g, d, t, os⟩ := s
  have L0 := I.type (M := model prog w)
  have L1 := looks_findIn (M := model prog w) X hga
  have L2 := looks_findIn (M := model prog w) X hno
  have L3 := looks_find (M := model prog w) X I hf
  have f3 := FB.ga.bind (.ref x)
  unfold getAttr? getAttrBy? getAttrBy
  refine wpAny_bind (wpAny_mkText (wpAny_bind (wpAny_attempt (wpAny_holding (wpAny_bind (L0.at (wpAny_bind (L1.at ?_))))))))
  dsimp only
  have hx2 : (Value.builtin "BaseException.__getattribute__" == Value.builtin "object.__getattribute__") = false := by decide +kernel
  rw [hx2, Bool.and_false]
  simp only [Bool.false_eq_true, if_false]
  unfold getAttrByItsOwn hookBefore
  refine wpAny_bind ?_
  simp only [onTheHeap, if_true]
  refine L2.at ?_
  refine wpAny_bind (wpAny_attempt (wpAny_holding ?_))
  unfold callGetattribute boundAndCalled
  simp only [Bool.false_and, Bool.false_eq_true, if_false]
  rw [f3]
  refine wpAny_bind (wpAny_pure ?_)
  dsimp only [List.cons_append, List.nil_append]
  refine wpAny_call (codeAny_call_builtin FB.ga.plain F.entry_bexc_ga (wpAny_check_ga_own FB hC T I.at_ I.cls ?_))
  unfold Builtin.«object.__getattribute__»
  refine wpAny_bind (wpAny_pure ?_)
  refine wpAny_bind (wpAny_pure ?_)
  refine wpAny_bind (L0.at ?_)
  refine wpAny_bind (L3.at ?_)
  show wpAny _ _ (holding [Value.builtin "object.__class__"] (call (.builtin "getset_descriptor.__get__") [.builtin "object.__class__", .ref x, .ref D]) >>= ret) _ _ _
  refine wpAny_bind (wpAny_holding (wpAny_call (class_get (s := ⟨hh, g, d, t + 1, os⟩) X I hm ?_)))
  exact wpAny_pure (wpAny_pure (wpAny_pure h))
end

/-! the program's own exceptions -/
noncomputable def valueBm : List Value := [.type "ValueError", .type "Exception", .type "BaseException", .type "object"]
/-- c is d or below it (all classes of ours lie under WebError, and that under ValueError) -/
noncomputable def subX (c d : Str) : Bool := c == d || d == Str.ofString "WebError" || d == Str.ofString "ValueError"
noncomputable def clsV (K : Frag) (d : Str) : Value := if d == Str.ofString "ValueError" then .type "ValueError" else .ref (addrIn K d)
noncomputable def excB (K : Frag) (cs : List Str) : Bool :=
  (cs.all fun c =>
    (match nsIn K mainGlobals c with | some (some (.ref _)) => true | _ => false) && (clsIn K (addrIn K c)).isSome && findIn K (.ref (addrIn K c)) "__getattribute__" == some (some (.builtin "BaseException.__getattribute__")) && findIn K (.ref (addrIn K c)) "__getattr__" == some none &&
    (match findObj K (addrIn K c) none "__class__" with | some (.bind (.builtin a) (.builtin b)) => a == "getset_descriptor.__get__" && b == "object.__class__" | _ => false) && mroIn K (addrIn K c) (.type "object") == some true) &&
  cs.all fun c => (Str.ofString "ValueError" :: cs).all fun d => exmOne K (.ref (addrIn K c)) (clsV K d) == some (subX c d) && kitOne K (.ref (addrIn K c)) (clsV K d) == some (subX c d)
structure ExcEnv (C : Cx) (cs : List Str) : Prop where
  ex : ∃ K : Frag, K.In C.h₀ ∧ excB K cs = true ∧ ∀ c ∈ cs, OwnClsQ c (addrIn K c) valueBm "ValueError.__new__" C.mg C.h₀

theorem excEnv_of {C : Cx} {cs : List Str} {K : Frag} {q : Program} {loose : List Str} {mean : ExcName → Option Value} (T : Top q loose mean C.mg C.mb C.h₀) (X : K.In C.h₀) (h : excB K cs = true) (hs : ∀ c ∈ cs, specOf q c = some ("ValueError.__new__", valueBm)) : ExcEnv C cs := by
  refine ⟨K, X, h, fun c hc => ?_⟩
  obtain ⟨D, O, _⟩ := T.ownAt (hs c hc)
  have h' := h
  simp only [excB, Bool.and_eq_true, List.all_eq_true] at h'
  have hn := (h'.1 c hc).1.1.1.1.1
  split at hn
  · rename_i b hb
    have hm := mg_of X T.g hb
    have e : D = b := by have := O.bound; rw [hm] at this; cases this; rfl
    have ea : addrIn K c = b := by simp only [addrIn, hb]
    rw [ea, ← e]; exact O
  · cases hn

theorem clsAt_inj {h : Heap} {c : Str} {a b : Addr} (x : ClsAt h c a) (y : ClsAt h c b) : a = b := by
  obtain ⟨m, h1, h2⟩ := x
  obtain ⟨m', h3, h4⟩ := y
  have g1 := Claim2Try.globalOf_of_ns h1 c
  have g2 := Claim2Try.globalOf_of_ns h3 c
  rw [h2] at g1; rw [h4] at g2; rw [g1] at g2; cases g2; rfl

noncomputable def isiX (cs : List Str) (d : Str) (v : MV) (μ : MH) : Out MV := match v with | .exc c => if c ∈ cs then .ok (.bool (subX c d)) μ else .stuck | _ => .stuck

section
variable {C : Cx} {q : Bool} {n : Nat} {sg : Sg} {cs : List Str}

theorem kitx_exc {K : Frag} {c : Str} (X : K.In C.h₀) (h : excB K cs = true) (hc : c ∈ cs) (O : OwnClsQ c (addrIn K c) valueBm "ValueError.__new__" C.mg C.h₀) {a : Addr} :
    KitX K (.ref a) (.ref (addrIn K c)) (fun h => C.h₀.StaysIn h ∧ ∃ ox, InstAt h a ox (addrIn K c) none) := by
  simp only [excB, Bool.and_eq_true, List.all_eq_true, beq_iff_eq] at h
  obtain ⟨⟨⟨⟨⟨h1, h2⟩, h3⟩, h4⟩, h5⟩, h6⟩ := h.1 c hc
  have h5' : findObj K (addrIn K c) none "__class__" = some (.bind (.builtin "getset_descriptor.__get__") (.builtin "object.__class__")) := by
    split at h5
    · rename_i x y e
      simp only [Bool.and_eq_true, beq_iff_eq] at h5
      rw [e, h5.1, h5.2]
    · cases h5
  refine ⟨fun M h X' ⟨_, ox, I⟩ => I.type, fun M h X' ⟨_, ox, I⟩ => ?_, fun h tp dd its n sl X' htp => ?_, fun X' ⟨hb, ox, I⟩ k => exc_class F.attrBase_ValueError (O.keeps hb) X' I h3 h4 h5' h6 k⟩
  · obtain ⟨cd, hcd⟩ := Option.isSome_iff_exists.mp h2
    unfold clsIn at hcd
    split at hcd
    · rename_i c' d' cd' sl' ho
      intro A' Q' E' s' k q
      unfold isType loadHead
      exact wpAny_bind (wpAny_loadPart (k _ _ (X' _ _ ho)) (wpAny_pure q))
    · cases hcd
  · obtain ⟨cd, hcd⟩ := Option.isSome_iff_exists.mp h2
    refine Bool.eq_false_iff.mpr fun q => ?_
    have e : addrIn K c = tp := Value.ref.inj (beq_iff_eq.mp q)
    rw [e] at hcd
    unfold clsIn at hcd
    split at hcd
    · rename_i c' d' cd' sl' ho
      have z := (X' _ _ ho).symm.trans htp
      cases z
    · cases hcd

theorem snd_isiX (CO : CxOk C) (X : ExcEnv C cs) {x t : Str} {e : Expr} {np tp pos : Pos} {f : D} (he : ESound C q n sg e f) (hst : ∀ env, starEach [e, .Name t tp] env = [(false, eval e env), (false, eval (.Name t tp) env)])
    (hk : sg.names.lookup x = some .globalImplicit) (hv : C.mg x = none ∧ C.mb x = some (.builtin "isinstance")) (hd : (x == ("__debug__" : Str)) = false)
    (hk' : sg.names.lookup t = some .globalImplicit) (hd' : (t == ("__debug__" : Str)) = false) (ht : (t ∈ cs ∧ (t == Str.ofString "ValueError") = false) ∨ (t = Str.ofString "ValueError" ∧ C.mg t = none ∧ C.mb t = some (.type "ValueError"))) :
    ESound C q n sg (.Call (.Name x np) [e, .Name t tp] [] pos) (dOp1 (isiX cs t) f) := fun A s sc rest ι μ hs hA hI hne => by
  have hns : NoStar [e, .Name t tp] := hst
  obtain ⟨K, KX, hB, hO⟩ := X.ex
  have hB' := hB
  simp only [excB, Bool.and_eq_true, List.all_eq_true, beq_iff_eq] at hB'
  have htv : (C.mg t = some (clsV K t) ∨ (C.mg t = none ∧ C.mb t = some (clsV K t))) ∧ t ∈ Str.ofString "ValueError" :: cs := by
    rcases ht with ⟨h1, h2⟩ | ⟨h1, h2, h3⟩
    · refine ⟨.inl ?_, List.mem_cons_of_mem _ h1⟩
      unfold clsV; rw [h2]; exact (hO t h1).bound
    · refine ⟨.inr ⟨h2, ?_⟩, by rw [h1]; exact List.mem_cons_self⟩
      unfold clsV; rw [h1, beq_self_eq_true]; rw [← h1]; exact h3
  refine wpAny_Call_NameR (name_glob CO hs hI hk (.inr hv) hd ?_)
  refine Calls.callWith_builtin (by rw [backTo_plain hns]; simp) ?_
  rw [backTo_plain hns]
  refine Calls.evalArgs_plain (Calls.spliced_cons (then_ he hs hA hI hne fun v μ₁ ι₁ y s₁ e1 g1 r1 hne1 => ?_))
  refine Calls.spliced_cons (name_glob CO hs g1.inv hk' htv.1 hd' (Calls.spliced_nil ?_))
  have E : dOp1 (isiX cs t) f sc.ρ μ = isiX cs t v μ₁ := by unfold dOp1; first | (rw [e1]; done) | (rw [e1]; rfl)
  rw [E]
  cases r1 with
  | exc hcl hnew ha hc hdict hdata =>
    rename_i a k o vs c
    by_cases hcm : c ∈ cs
    · have E2 : isiX cs t (.exc c) μ₁ = .ok (.bool (subX c t)) μ₁ := if_pos hcm
      rw [E2]
      have O := hO c hcm
      have hk2 : k = addrIn K c := clsAt_inj hcl ⟨C.mg, CO.g, O.bound⟩
      subst hk2
      have X1 : K.In s₁.heap := fun b o e => g1.inv.hp.base b o (KX b o e)
      refine kia_one (kitx_exc KX hB hcm O) X1 ⟨g1.inv.hp.base, o, ⟨ha, hc, by simp [notCls, hdata], by rw [hdict]; trivial⟩⟩ (hB'.2 c hcm t htv.2).2 (by intro q; cases q) fun tk => ?_
      exact (EPost.same (tk := tk) g1.inv (.bool _)).after g1
    · exact absurd (if_neg hcm) hne1
  | _ => exact absurd rfl hne1

/-! raise X(..) -/
noncomputable def dRaise (c : Str) (f : D) : DS := fun ρ μ => (f ρ μ).bind fun _ μ => .exc c μ
theorem s_raise (CO : CxOk C) (X : ExcEnv C cs) {x : Str} {e : Expr} {np cpos pos : Pos} {f : D} (hx : x ∈ cs) (he : ESound C true n sg e f) (hns : NoStar [e]) (hk : sg.names.lookup x = some .globalImplicit) (hd : (x == ("__debug__" : Str)) = false) :
    S1Sound C true n sg (.Raise (some (.Call (.Name x np) [e] [] cpos)) none pos) (dRaise x f) := fun A s sc rest ι μ hs hA hI hne => by
  obtain ⟨K, KX, hB, hO⟩ := X.ex
  have O := hO x hx
  obtain ⟨tl, N, nm, q, bs, hdct, sn, sub, ab, col, dd, k0, k1, k2, k3, k5, mN, hC, hN, hni, T⟩ := O.own.obj
  refine wpAny_Raise_call_subT (C := addrIn K x) (nm := nm) (q := q) (N := N) (bs := bs) (bm := tl) (hdct := hdct) (sn := sn) (sub := sub) (ab := ab) (col := col) (dd := dd) (k0 := k0) (k1 := k1) (k2 := k2) (k3 := k3) (k5 := k5)
    F.excBase_ValueError (mN := mN) (T.hasType F.excBase_ValueError.hasBase) (hA.hand rfl) (by rw [backTo_plain hns]; rfl) hni (name_glob CO hs hI hk (.inl O.bound) hd ⟨rfl, ?_⟩)
  rw [backTo_plain hns]
  refine Calls.evalArgs_plain (Calls.spliced_cons (thenS he hs hA hI hne fun v μ₁ ι₁ y s₁ e1 g1 r1 hne1 => Calls.spliced_nil ?_))
  have hb := g1.inv.hp.base
  refine ⟨rfl, by show 1 ≤ sizeLine; decide, hb _ _ hC, hN.keeps hb, T.keeps hb, fun h' e hm => ?_⟩
  obtain ⟨tt, t1, t2, t3⟩ := hm.there
  have hnew : C.h₀.get? e = none := by
    cases hq : C.h₀.get? e with
    | none => rfl
    | some o => have := hb e o hq; rw [hm.new] at this; cases this
  have hgo : Go C ι s (sc.at sc.ρ :: rest) ι₁ μ₁ { s₁ with heap := h' } := by
    obtain ⟨h1, tk, rfl⟩ := g1.sh
    exact ⟨⟨_, _, rfl⟩, g1.pre, g1.inv.ext hm.keeps, g1.keep.trans (Keep.of_ext hm.keeps)⟩
  exact ⟨x, μ₁, ι₁, sc.ρ, by unfold dRaise; first | (rw [e1]; done) | (rw [e1]; rfl), hgo, ⟨e, _, _, rfl, hnew, t1, ⟨addrIn K x, ⟨C.mg, CO.g, O.bound⟩, rfl⟩, rfl, rfl, ⟨by show 4 < 6; decide, fun _ => rfl⟩, .inl rfl⟩⟩
end
end Mine

set_option linter.unusedVariables false
namespace Mine
open PySem PySem.W PyProof.Rows

section
variable {C : Cx} {q : Bool} {n : Nat} {sg : Sg} {cs : List Str}

/-- the suite of a try: an exception finds the names as they were -/
noncomputable def XSound (C : Cx) (n : Nat) (sg : Sg) (b : List Stmt) (f : DS) : Prop :=
  ∀ (A : Around) (s : Shared) (sc : Sc) (rest : List Sc) (ι : List Addr) (μ : MH), SgOk sg sc → AOk true n (sc :: rest) A → Inv C.h₀ (sc :: rest) ι μ s.heap → f sc.ρ μ ≠ .stuck →
    wpAny (model C.prog C.w) A (execs b sc.env) (SPost C ι s sc rest (f sc.ρ μ)) (XPost C ι s (sc :: rest) (f sc.ρ μ)) s

theorem xs_expr {e : Expr} {pos : Pos} {f : D} (he : ESound C true n sg e f) (hsw : ∀ env, swapsWith e none pos.line env = pure false) : XSound C n sg [.Expr e pos] (dExpr f) := fun A s sc rest ι μ hs hA hI hne => by
  refine wpAny_execs_cons (wpAny_Expr_any (then_ he hs hA hI hne fun v μ₁ ι₁ x s₁ e1 g1 r1 hne1 => ?_) (by unfold interactive; rw [hs.kind]; rfl) (hsw _))
  exact wpAny_execs_nil ⟨.next, sc.ρ, μ₁, ι₁, by unfold dExpr; first | (rw [e1]; done) | (rw [e1]; rfl), .next, g1⟩
theorem xs_ret {e : Expr} {pos : Pos} {f : D} (he : ESound C true n sg e f) : XSound C n sg [.Return (some e) pos] (dRet f) := fun A s sc rest ι μ hs hA hI hne => by
  refine wpAny_execs_cons (wpAny_Return_some (then_ he hs hA hI hne fun v μ₁ ι₁ x s₁ e1 g1 r1 hne1 => ?_))
  exact ⟨.ret v, sc.ρ, μ₁, ι₁, by unfold dRet; first | (rw [e1]; done) | (rw [e1]; rfl), .ret r1, g1⟩
/-- an exception is handled: what the handler's own run may count on -/
theorem AOk.mark {fs : List Sc} {A : Around} (x : AOk q n fs A) (e : Value) : AOk false n fs (A.mark (some e)) := ⟨x.frames, x.depth, x.units, fun h => (by cases h), x.guards, x.stk, x.top⟩

noncomputable def clrAt (i : Nat) (ρ : Rho) : Rho := fun j => if j = i then none else ρ j
/-- a local name is unbound -/
theorem Inv.clear {h₀ h h' : Heap} {ι : List Addr} {μ : MH} {f : Sc} {rest : List Sc} {x : Str} {i : Nat} {v : Option Value} {m : Str → Option Value} (I : Inv h₀ (f :: rest) ι μ h) (V : VarsOk f.vars) (hx : (x, i) ∈ f.vars)
    (hm : h.Ns f.env.locals m) (hm' : h'.Ns f.env.locals (fun y => if y = x then v else m y)) (hs : Heap.SameBut f.env.locals h h') : Inv h₀ (f.at (clrAt i f.ρ) :: rest) ι μ h' ∧ Keep h h' := by
  have K : Keep h h' := Keep.but hs (Heap.Ns.notFrozen hm)
  refine ⟨⟨⟨fun b o e => ?_, I.hp.len, I.hp.nd, I.hp.new, fun k xs hk => ?_⟩, fun g hg => ?_, ?_, ?_⟩, K⟩
  · have hne : b ≠ f.env.locals := by
      rintro rfl
      rw [(I.nw f List.mem_cons_self).1] at e; cases e
    exact (hs.2 b hne).trans (I.hp.base b o e)
  · obtain ⟨a, vs, n, e1, e2, e3⟩ := I.hp.at_ k xs hk
    exact ⟨a, vs, n, e1, (hs.2 a (Ne.symm (ns_ne_list hm e2))).trans e2, e3.keep K⟩
  · rcases List.mem_cons.mp hg with rfl | hg
    · have S := I.sc f List.mem_cons_self
      obtain ⟨m₁, hm₁, hl⟩ := S.loc
      refine ⟨⟨_, hm', fun y j u hy hk hu => ?_⟩, fun y j hy hk => ?_, fun c hc => ?_⟩
      · have hji : j ≠ i := by
          rintro rfl
          have : (if j = j then (none : Option MV) else f.ρ j) = some u := hu
          rw [if_pos rfl] at this; cases this
        have hu' : f.ρ j = some u := by
          have : (if j = i then (none : Option MV) else f.ρ j) = some u := hu
          rwa [if_neg hji] at this
        have hyx : y ≠ x := fun e => hji ((V y j x i hy hx).mp e)
        obtain ⟨cv, e1, r1⟩ := hl y j u hy hk hu'
        have hmm : m₁ = m := by
          funext z
          obtain ⟨o1, es1, ep1, ho1, hd1, hu1, hf1⟩ := hm₁
          obtain ⟨o2, es2, ep2, ho2, hd2, hu2, hf2⟩ := hm
          rw [ho1] at ho2; cases ho2
          rw [hd1] at hd2; cases hd2
          exact (hf1 z).symm.trans (hf2 z)
        refine ⟨cv, ?_, r1.keep K⟩
        rw [if_neg hyx, ← hmm]; exact e1
      · obtain ⟨c, ov, e1, e2, e3⟩ := S.cel y j hy hk
        refine ⟨c, ov, e1, e2.sameBut hs (cell_ne_ns e2 hm), fun u hu => ?_⟩
        have hu' : f.ρ j = some u := by
          have : (if j = i then (none : Option MV) else f.ρ j) = some u := hu
          split at this
          · cases this
          · exact this
        obtain ⟨cv, e4, r4⟩ := e3 u hu'
        exact ⟨cv, e4, r4.keep K⟩
      · obtain ⟨ov, h1⟩ := S.all c hc
        exact ⟨ov, h1.sameBut hs (cell_ne_ns h1 hm)⟩
    · exact (I.sc g (List.mem_cons_of_mem _ hg)).mono (List.prefix_refl _) K (fun m' hn => hn.sameBut hs (Ne.symm ((List.pairwise_cons.mp I.ap).1 g hg).1)) fun c ov _ hc => hc.sameBut hs (cell_ne_ns hc hm)
  · exact List.pairwise_cons.mpr ⟨(List.pairwise_cons.mp I.ap).1, (List.pairwise_cons.mp I.ap).2⟩
  · intro g hg
    rcases List.mem_cons.mp hg with rfl | hg
    · exact I.nw f List.mem_cons_self
    · exact I.nw g (List.mem_cons_of_mem _ hg)

/-- an exception has come out of the suite: noted, and the handler's class is tested -/
theorem caught_ (CO : CxOk C) (X : ExcEnv C cs) {A : Around} {s s₁ : Shared} {sc : Sc} {rest : List Sc} {ι ι₁ : List Addr} {μ₁ : MH} {c d : Str} {e : Value} {np pos : Pos} {name : Option Str} {body : List Stmt} {Q : Flow → Shared → Prop} {E : Value → Shared → Prop}
    (hs : SgOk sg sc) (hA : AOk true n (sc :: rest) A) (g1 : Go C ι s (sc :: rest) ι₁ μ₁ s₁) (f1 : Fly C c e s₁.heap) (hc : c ∈ cs) (hdc : d ∈ cs) (hdv : (d == Str.ofString "ValueError") = false) (hk : sg.names.lookup d = some .globalImplicit) (hd : (d == ("__debug__" : Str)) = false)
    (hit : ∀ s₂, subX c d = true → Go C ι s (sc :: rest) ι₁ μ₁ s₂ → FlyT C c e .none s₂.heap → codeAny (model C.prog C.w) (A.mark (some e)) (.handlers e [.ExceptHandler none name body pos] sc.env) (fun r s₂ => match r with
          | .ok f => (match name with
            | none => Q f s₂
            | some n => wpAny (model C.prog C.w) A (do bindName sc.env n .none; unbindBehindTheSuite sc.env n pos) (fun _ s₃ => Q f s₃) E s₂)
          | .error x => cameBackBy (model C.prog C.w) A sc.env E x s₂) s₂)
    (miss : ∀ s₂, subX c d = false → Go C ι s (sc :: rest) ι₁ μ₁ s₂ → Fly C c e s₂.heap → E e s₂) :
    wpAny (model C.prog C.w) A (noteFrame e sc.env) (fun _ s₂ => wpAny (model C.prog C.w) A (setFlight e none) (fun _ s₃ => wpAny (model C.prog C.w) A (handleBy e sc.env [.ExceptHandler (some (.Name d np)) name body pos]) Q E s₃) E s₂) E s₁ := by
  obtain ⟨L, hL⟩ : ∃ L, topL (sc :: rest) = some L := by
    rcases hA.top with h | h
    · cases h
    · exact Option.isSome_iff_exists.mp h
  obtain ⟨K, KX, hB, hO⟩ := X.ex
  have hB' := hB
  simp only [excB, Bool.and_eq_true, List.all_eq_true, beq_iff_eq] at hB'
  refine note_ hA.frames hA.stk hL g1.inv f1 fun s₂ g2 f2 => ?_
  refine flight_ g2.inv f2 fun s₃ g3 f3 => ?_
  have G3 := (g1.trans g2).trans g3
  obtain ⟨a, oe, vs, T, oT, ts, rfl, x2, x3, ⟨kc, xk, x4⟩, x4', x5, x6, x7, x8⟩ := f3.it
  have O := hO c hc
  have hkc : kc = addrIn K c := clsAt_inj xk ⟨C.mg, CO.g, O.bound⟩
  subst hkc
  have hm := (hB'.2 c hc d (List.mem_cons_of_mem _ hdc)).1
  have hclsV : clsV K d = .ref (addrIn K d) := by unfold clsV; rw [hdv]; rfl
  rw [hclsV] at hm
  refine wpAny_handleBy_cons (codeAny_handlers_test (name_glob CO hs g3.inv hk (.inl (hO d hdc).bound) hd ?_)) (by intro q; cases q)
  have X3 : K.In s₃.heap := fun b o e => g3.inv.hp.base b o (KX b o e)
  have LT : Looks (model C.prog C.w) s₃.heap (typeOf (.ref a)) (.ref (addrIn K c)) := x4 ▸ (Looks.ld x3).andThen .now
  refine (exm_one X3 LT hm).here ?_
  cases hb : subX c d with
  | true => exact hit s₃ hb G3 f3
  | false =>
    refine wpAny_handleBy_nil ?_
    exact pass_ g3.inv f3 fun s₄ g4 f4 => miss s₄ hb (G3.trans g4) f4

/-- except D as x: (the suite of the handler raises nothing) -/
noncomputable def dTryAs (cs : List Str) (d : Str) (i : Nat) (f h : DS) : DS := fun ρ μ => match f ρ μ with
  | .ok r μ => .ok r μ
  | .exc c μ => if c ∈ cs then (if subX c d then (match h (ρ.set i (.exc c)) μ with | .ok r μ => .ok (r.1, clrAt i r.2) μ | _ => .stuck) else .exc c μ) else .stuck
  | .stuck => .stuck
theorem s_tryAs (CO : CxOk C) (X : ExcEnv C cs) {body : List Stmt} {b₀ : Stmt} {suite : List Stmt} {d x : Str} {i : Nat} {np hpos pos : Pos} {f h : DS} (hb : XSound C n sg body f) (hh : SSound C false n sg (b₀ :: suite) h) (V : VarsOk sg.vars) (hx : (x, i) ∈ sg.vars) (hxk : sg.names.lookup x = some .local)
    (hdc : d ∈ cs) (hdv : (d == Str.ofString "ValueError") = false) (hk : sg.names.lookup d = some .globalImplicit) (hd : (d == ("__debug__" : Str)) = false) :
    S1Sound C true n sg (.Try body [.ExceptHandler (some (.Name d np)) (some x) (b₀ :: suite) hpos] [] [] pos) (dTryAs cs d i f h) := fun A s sc rest ι μ hs hA hI hne => by
  have hne1 : f sc.ρ μ ≠ .stuck := fun e => hne (by unfold dTryAs; first | (rw [e]; done) | (rw [e]; rfl))
  refine wpAny_Try_except (wpAny_mono (hb A s sc rest ι μ hs hA hI hne1) (fun fl s₁ p => ?_) fun e s₁ p => ?_)
  · obtain ⟨F, ρ', μ₁, ι₁, e1, r1, g1⟩ := p
    have E1 : dTryAs cs d i f h sc.ρ μ = .ok (F, ρ') μ₁ := by unfold dTryAs; first | (rw [e1]; done) | (rw [e1]; rfl)
    rw [E1]
    cases r1 with
    | next => exact wpAny_execs_nil ⟨.next, ρ', μ₁, ι₁, rfl, .next, g1⟩
    | brk => exact ⟨.brk, ρ', μ₁, ι₁, rfl, .brk, g1⟩
    | ret r => exact ⟨.ret _, ρ', μ₁, ι₁, rfl, .ret r, g1⟩
  · obtain ⟨c, μ₁, ι₁, e1, g1, f1⟩ := p
    have hc : c ∈ cs := by
      by_cases hc : c ∈ cs
      · exact hc
      · exact absurd (by simp [dTryAs, e1, hc]) hne
    refine caught_ CO X hs hA g1 f1 hc hdc hdv hk hd (fun s₂ hsub g2 f2 => ?_) fun s₂ hsub g2 f2 => ?_
    · have E1 : dTryAs cs d i f h sc.ρ μ = match h (sc.ρ.set i (.exc c)) μ₁ with | .ok r μ => .ok (r.1, clrAt i r.2) μ | _ => .stuck := by simp [dTryAs, e1, hc, hsub]
      rw [E1] at hne ⊢
      have f2' := f2
      obtain ⟨a, oe, vs, T, oT, ts, rfl, x2, x3, ⟨kc, xk, x4⟩, x4', x5, x6, x7, x8⟩ := f2.it
      refine codeAny_handlers_suite_as (flight_ g2.inv f2' fun s₃ g3 f3 => ?_)
      have G3 := g2.trans g3
      obtain ⟨a', oe', vs', T', oT', ts', ea, y2, y3, ⟨kc', yk, y4⟩, y4', y5, _⟩ := f3.it
      cases ea
      refine store_ hs V hx (.inl hxk) G3 (.exc yk y2 y3 y4 y4' y5) fun s₄ g4 K4 => ?_
      have hne2 : h (sc.ρ.set i (.exc c)) μ₁ ≠ .stuck := fun e => hne (by rw [e])
      refine wpAny_mono (hh (A.mark (some (.ref a))) s₄ (sc.at (sc.ρ.set i (.exc c))) rest ι₁ μ₁ (hs.at _) ((hA.mark _).at _) g4.inv hne2) (fun fl s₅ p => ?_) fun y s₅ p => ?_
      · obtain ⟨F, ρ₅, μ₅, ι₅, e5, r5, g5⟩ := p
        have e5' : h (sc.ρ.set i (.exc c)) μ₁ = .ok (F, ρ₅) μ₅ := e5
        have hI5 : Inv C.h₀ (sc.at ρ₅ :: rest) ι₅ μ₅ s₅.heap := g5.inv
        obtain ⟨m, hm, _⟩ := (hI5.sc _ List.mem_cons_self).loc
        refine wpAny_nameGoes_keeps (env := sc.env) ((hs.kindOf x).trans hxk) hm (by rw [hs.kind]; rfl) fun h' v hn hsb => ?_
        obtain ⟨I6, K6⟩ := hI5.clear (f := sc.at ρ₅) (x := x) (i := i) (by show VarsOk sc.vars; rw [hs.vars]; exact V) (by show (x, i) ∈ sc.vars; rw [hs.vars]; exact hx) hm hn hsb
        have G5 : Go C ι s (sc.at ρ₅ :: rest) ι₅ μ₅ s₅ := g4.trans g5
        obtain ⟨h5, t5, rfl⟩ := G5.sh
        refine ⟨F, clrAt i ρ₅, μ₅, ι₅, by rw [e5'], ?_, ⟨⟨_, _, rfl⟩, G5.pre, I6, G5.keep.trans K6⟩⟩
        cases r5 with
        | next => exact .next
        | brk => exact .brk
        | ret r => exact .ret (r.keep K6)
      · obtain ⟨c', μ₅, ι₅, ρ₅, e5, _⟩ := p
        have e5' : h (sc.ρ.set i (.exc c)) μ₁ = .exc c' μ₅ := e5
        exact absurd (by rw [e5']) hne
    · exact ⟨c, μ₁, ι₁, sc.ρ, by simp [dTryAs, e1, hc, hsub], g2, f2⟩

/-- except D: -/
noncomputable def dTry (cs : List Str) (d : Str) (f h : DS) : DS := fun ρ μ => match f ρ μ with
  | .ok r μ => .ok r μ
  | .exc c μ => if c ∈ cs then (if subX c d then h ρ μ else .exc c μ) else .stuck
  | .stuck => .stuck
end
end Mine

set_option linter.unusedVariables false
namespace Mine
open PySem PySem.W PyProof.Rows

/-! what the head has to look at, as one value -/
structure FS where
  x : Str
  k : Nat
  ps : List Str
  sg : Sg
abbrev V4 := Value → Value → Value → Value → Sem (List (Str × Value))
noncomputable def bind4 (K : Frag) (f : FS) : V4 := fun a b c d => bindArgs (fdAt K (addrIn K f.x) default) ⟨[a, b, c, d].take f.ps.length, []⟩
noncomputable def bindV (f : FS) : V4 := fun a b c d => pure (f.ps.zip ([a, b, c, d].take f.ps.length))
noncomputable def lookB (K : Frag) (fs : List FS) (gi : List (Str × Int)) (bs cs : List Str) : Bool :=
  fs.all (fun f => fnB K f.x (addrIn K f.x) f.ps f.sg default) && gi.all (fun p => match nsIn K mainGlobals p.1 with | some (some (.int j _)) => j == p.2 | _ => false) && bs.all (fun x => match nsIn K mainGlobals x with | some none => true | _ => false) && excB K cs
noncomputable def obsK (fs : List FS) (gi : List (Str × Int)) (bs cs : List Str) (K : Frag) : Bool × List FuncBody × List V4 := (lookB K fs gi bs cs, fs.map fun f => (fdAt K (addrIn K f.x) default).body, fs.map (bind4 K))
noncomputable def valK (p : Program) (fs : List FS) : Bool × List FuncBody × List V4 := (true, fs.map fun f => .stmts (bodyAt p f.k), fs.map bindV)
noncomputable def fragOf (as : List Addr) (h : Heap) : Frag := as.filterMap fun a => (h.get? a).map fun o => (a, o)
theorem fragOf_in {h : Heap} : ∀ as : List Addr, (fragOf as h).In h
  | [], a, o, e => by cases e
  | b :: as, a, o, e => by
    unfold fragOf at e
    rw [List.filterMap_cons] at e
    cases hb : h.get? b with
    | none => rw [hb] at e; exact fragOf_in as a o e
    | some ob =>
      rw [hb] at e
      by_cases hab : a = b
      · subst hab; simp at e; rw [← e]; exact hb
      · have : (a == b) = false := by simpa using hab
        simp [List.lookup_cons, this] at e
        exact fragOf_in as a o e
section
variable {C : Cx} {K : Frag} {p : Program} {fs : List FS} {gi : List (Str × Int)} {bs cs : List Str}
theorem look_of (e : obsK fs gi bs cs K = valK p fs) : lookB K fs gi bs cs = true := congrArg (·.1) e
theorem fnIs_hook (e : obsK fs gi bs cs K = valK p fs) (X : K.In C.h₀) (G : C.h₀.Ns mainGlobals C.mg) (i : Nat) {f : FS} (hf : fs[i]? = some f) (h4 : f.ps.length ≤ 4) : FnIs C f.x (bodyAt p f.k) f.ps f.sg := by
  have hm := List.mem_of_getElem? hf
  have hl := look_of e
  unfold lookB at hl
  rw [Bool.and_eq_true, Bool.and_eq_true, Bool.and_eq_true] at hl
  have h1 := List.all_eq_true.mp hl.1.1.1 f hm
  have h2 : fs.map (fun f => (fdAt K (addrIn K f.x) default).body) = fs.map fun f => FuncBody.stmts (bodyAt p f.k) := congrArg (·.2.1) e
  have h3 : fs.map (bind4 K) = fs.map bindV := congrArg (·.2.2) e
  refine fnIs_look X G h1 (List.map_inj_left.mp h2 f hm) fun vals hv => ?_
  have h5 := List.map_inj_left.mp h3 f hm
  have h6 : ∀ a b c d, bindArgs (fdAt K (addrIn K f.x) default) ⟨[a, b, c, d].take f.ps.length, []⟩ = pure (f.ps.zip ([a, b, c, d].take f.ps.length)) := fun a b c d => congrFun (congrFun (congrFun (congrFun h5 a) b) c) d
  obtain ⟨a, b, c, d, hq⟩ : ∃ a b c d, vals = [a, b, c, d].take f.ps.length := by
    rw [← hv] at h4 ⊢
    rcases vals with _ | ⟨a, _ | ⟨b, _ | ⟨c, _ | ⟨d, _ | ⟨e, l⟩⟩⟩⟩⟩
    · exact ⟨.none, .none, .none, .none, rfl⟩
    · exact ⟨a, .none, .none, .none, rfl⟩
    · exact ⟨a, b, .none, .none, rfl⟩
    · exact ⟨a, b, c, .none, rfl⟩
    · exact ⟨a, b, c, d, rfl⟩
    · exact absurd h4 (by simp only [List.length_cons]; omega)
  rw [hq]; exact h6 a b c d
theorem gint_hook (e : obsK fs gi bs cs K = valK p fs) (X : K.In C.h₀) (G : C.h₀.Ns mainGlobals C.mg) (i : Nat) {x : Str} {z : Int} (hf : gi[i]? = some (x, z)) : ∃ t, C.mg x = some (.int z t) := by
  have hl := look_of e
  unfold lookB at hl
  rw [Bool.and_eq_true, Bool.and_eq_true, Bool.and_eq_true] at hl
  exact gint_of X G (List.all_eq_true.mp hl.1.1.2 _ (List.mem_of_getElem? hf))
theorem builtin_hook {q : Program} {loose : List Str} {mean : ExcName → Option Value} (e : obsK fs gi bs cs K = valK p fs) (X : K.In C.h₀) (T : Top q loose mean C.mg C.mb C.h₀) (i : Nat) {x : Str} {v : Value} (hf : bs[i]? = some x) (hv : bootBuiltins x = some v) (hn : x ≠ "__name__") : C.mg x = none ∧ C.mb x = some v := by
  have hl := look_of e
  unfold lookB at hl
  rw [Bool.and_eq_true, Bool.and_eq_true, Bool.and_eq_true] at hl
  exact builtin_of X T.g T (List.all_eq_true.mp hl.1.2 _ (List.mem_of_getElem? hf)) hv hn
theorem exc_hook {q : Program} {loose : List Str} {mean : ExcName → Option Value} (e : obsK fs gi bs cs K = valK p fs) (X : K.In C.h₀) (T : Top q loose mean C.mg C.mb C.h₀) (hs : ∀ c ∈ cs, specOf q c = some ("ValueError.__new__", valueBm)) : ExcEnv C cs := by
  have hl := look_of e
  unfold lookB at hl
  rw [Bool.and_eq_true, Bool.and_eq_true, Bool.and_eq_true] at hl
  exact excEnv_of T X hl.2 hs
end
end Mine

set_option linter.unusedVariables false
set_option maxRecDepth 100000
namespace Mine
open PySem PyProof.Rows Builtin.Str

section
variable {C : Cx} {q : Bool} {n : Nat} {sg : Sg}

/-! texts: not in, items, slices -/
noncomputable def notInStrM : MV → MV → MH → Out MV
  | .str a, .str b, μ => .ok (.bool (!Txt.contains b a)) μ
  | _, _, _ => .stuck
theorem op_notInStr : Op2 C q n (compareOp .NotIn) notInStrM := fun A s fs ι μ a b x y hA hI ra rb hne => by
  cases a with
  | str i => cases b with
    | str j =>
      obtain ⟨t⟩ := ra.str_inv
      obtain ⟨u⟩ := rb.str_inv
      exact SB.notContains (EPost.here hI (.bool _))
    | _ => exact absurd rfl hne
  | _ => exact absurd rfl hne

noncomputable def idxS : MV → MV → MH → Out MV
  | .str x, .int i, μ => if (fitsSsize i && (Txt.charAt x i).isSome) = true then .ok (.str (Txt.item x i)) μ else .stuck
  | _, _, _ => .stuck
theorem op_idxS {value slice : Expr} (hs : ∀ o i, subscripted slice false o i = operate [o, i] (getItem o i)) : Op2 C q n (PyProof.Rows.subscriptTail value slice) idxS := fun A s fs ι μ a b x y hA hI ra rb hne => by
  cases b with
  | int i => cases a with
    | str z =>
      obtain ⟨t⟩ := ra.str_inv
      obtain ⟨u⟩ := rb.int_inv
      by_cases hc : (fitsSsize i && (Txt.charAt z i).isSome) = true
      · have e : idxS (.str z) (.int i) μ = .ok (.str (Txt.item z i)) μ := if_pos hc
        rw [e]
        exact PyProof.Rows.tail_any (typeIs_str _ _ _) F.slot_str_getitem.lookup (SB.getItem (Bool.and_eq_true_iff.mp hc).1 (Bool.and_eq_true_iff.mp hc).2 (EPost.same hI (.str _ _))) (hs _ _)
      · exact absurd (if_neg hc) hne
    | _ => exact absurd rfl hne
  | _ => cases a <;> exact absurd rfl hne
theorem snd_idxS {v i : Expr} {pos : Pos} {fv fi : D} (hv : ESound C q n sg v fv) (hi : ESound C q n sg i fi) (hs : ∀ o j, subscripted i false o j = operate [o, j] (getItem o j)) : ESound C q n sg (.Subscript v i pos) (dBin idxS fv fi) :=
  fun A s sc rest ι μ hsg hA hI hne => PyProof.Rows.Subscript_ (two_ hv hi (op_idxS hs) hsg hA hI hne)

noncomputable def cutFromS : MV → MV → MH → Out MV
  | .str x, .int a, μ => if x.length ≤ sizeLine then .ok (.str (Txt.slice x (some a) none)) μ else .stuck
  | _, _, _ => .stuck
noncomputable def cutToS : MV → MV → MH → Out MV
  | .str x, .int a, μ => if x.length ≤ sizeLine then .ok (.str (Txt.slice x none (some a))) μ else .stuck
  | _, _, _ => .stuck
theorem cutS_ {value slice : Expr} {A : Around} {s : Shared} {fs : List Sc} {ι : List Addr} {μ : MH} {x : Str} {t : Tok} {lo hi : Option (Int × Tok)} (hs : ∀ o i, subscripted slice false o i = operate [i, o] (getItem o i)) (hI : Inv C.h₀ fs ι μ s.heap) (hsz : x.length ≤ sizeLine) :
    wpAny (model C.prog C.w) A (PyProof.Rows.subscriptTail value slice (.str x t) (.ref s.heap.objs.size)) (EPost C ι s fs (.ok (.str (Txt.slice x (lo.map Prod.fst) (hi.map Prod.fst))) μ)) (XPost C ι s fs (.ok (MV.str (Txt.slice x (lo.map Prod.fst) (hi.map Prod.fst))) μ)) { s with heap := s.heap.push { cls := .type "slice", data := .fields #[partValue lo, partValue hi, .none] } } := by
  have g0 : Go C ι s fs ι μ { s with heap := s.heap.push { cls := .type "slice", data := .fields #[partValue lo, partValue hi, .none] } } := ⟨⟨_, _, rfl⟩, List.prefix_refl _, hI.push _, Keep.push _ _⟩
  exact PyProof.Rows.tail_any (typeIs_str _ _ _) F.slot_str_getitem.lookup (wpAny_getItem_str_slice (l := lo) (u := hi) (st := none) ⟨_, Heap.get?_push_size _ rfl, rfl, rfl⟩ rfl
    (post_val_or_str ⟨Nat.le_trans (Txt.slice_le x _ _) hsz, fun t' k => (EPost.same g0.inv (.str _ _)).after g0⟩)) (hs _ _)

theorem snd_fromS {v a : Expr} {p pos : Pos} {fv fa : D} (hv : ESound C q n sg v fv) (ha : ESound C q n sg a fa) : ESound C q n sg (.Subscript v (.Slice (some a) none none p) pos) (dBin cutFromS fv fa) := fun A s sc rest ι μ hs hA hI hne => by
  refine PyProof.Rows.Subscript_ (then_ hv hs hA hI hne fun w μ₁ ι₁ x s₁ e1 g1 r1 hne1 => ?_)
  have E1 : dBin cutFromS fv fa sc.ρ μ = (fa sc.ρ μ₁).bind fun b μ => cutFromS w b μ := by unfold dBin; first | (rw [e1]; done) | (rw [e1]; rfl)
  rw [E1]
  refine wpAny_Slice ?_
  rw [evalPart_some]
  refine wpAny_mono (then_ ha hs hA g1.inv hne1 (Q := fun y s₂ => wpAny (model C.prog C.w) A (evalPart none sc.env) (fun u s₂ => wpAny (model C.prog C.w) A (evalPart none sc.env) (fun st s₃ =>
      wpAny (model C.prog C.w) A (PyProof.Rows.subscriptTail v (.Slice (some a) none none p) x (.ref s₃.heap.objs.size)) (EPost C ι s (sc :: rest) ((fa sc.ρ μ₁).bind fun b μ => cutFromS w b μ)) (XPost C ι s (sc :: rest) ((fa sc.ρ μ₁).bind fun b μ => cutFromS w b μ)) { s₃ with heap := s₃.heap.push { cls := .type "slice", data := .fields #[y, u, st] } }) (XPost C ι s (sc :: rest) ((fa sc.ρ μ₁).bind fun b μ => cutFromS w b μ)) s₂) (XPost C ι s (sc :: rest) ((fa sc.ρ μ₁).bind fun b μ => cutFromS w b μ)) s₂) fun b μ₂ ι₂ y s₂ e2 g2 r2 hne2 => ?_) (fun _ _ p => p) fun e s₂ p => p.after g1
  rw [evalPart_none]
  refine wpAny_pure (wpAny_pure ?_)
  have E2 : ((fa sc.ρ μ₁).bind fun b μ => cutFromS w b μ) = cutFromS w b μ₂ := by simp only [e2, Out.bind_ok]
  rw [E2]
  cases b with
  | int i =>
    obtain ⟨t⟩ := r2.int_inv
    cases w with
    | str z =>
      obtain ⟨u⟩ := r1.str_inv
      by_cases hl : z.length ≤ sizeLine
      · have e : cutFromS (.str z) (.int i) μ₂ = .ok (.str (Txt.slice z (some i) none)) μ₂ := if_pos hl
        rw [e]
        exact wpAny_mono (cutS_ (C := C) (lo := some (i, t)) (hi := none) (fun _ _ => rfl) g2.inv hl) (fun z s₃ p => p.after (g1.trans g2)) fun z s₃ p => p.after (g1.trans g2)
      · exact absurd (if_neg hl) hne2
    | _ => exact absurd rfl hne2
  | _ => cases w <;> exact absurd rfl hne2
theorem snd_uptoS {v a : Expr} {p pos : Pos} {fv fa : D} (hv : ESound C q n sg v fv) (ha : ESound C q n sg a fa) : ESound C q n sg (.Subscript v (.Slice none (some a) none p) pos) (dBin cutToS fv fa) := fun A s sc rest ι μ hs hA hI hne => by
  refine PyProof.Rows.Subscript_ (then_ hv hs hA hI hne fun w μ₁ ι₁ x s₁ e1 g1 r1 hne1 => ?_)
  have E1 : dBin cutToS fv fa sc.ρ μ = (fa sc.ρ μ₁).bind fun b μ => cutToS w b μ := by unfold dBin; first | (rw [e1]; done) | (rw [e1]; rfl)
  rw [E1]
  refine wpAny_Slice ?_
  rw [evalPart_some, evalPart_none]
  refine wpAny_pure ?_
  refine wpAny_mono (then_ ha hs hA g1.inv hne1 (Q := fun y s₂ => wpAny (model C.prog C.w) A (pure Value.none) (fun st s₃ =>
      wpAny (model C.prog C.w) A (PyProof.Rows.subscriptTail v (.Slice none (some a) none p) x (.ref s₃.heap.objs.size)) (EPost C ι s (sc :: rest) ((fa sc.ρ μ₁).bind fun b μ => cutToS w b μ)) (XPost C ι s (sc :: rest) ((fa sc.ρ μ₁).bind fun b μ => cutToS w b μ)) { s₃ with heap := s₃.heap.push { cls := .type "slice", data := .fields #[.none, y, st] } }) (XPost C ι s (sc :: rest) ((fa sc.ρ μ₁).bind fun b μ => cutToS w b μ)) s₂) fun b μ₂ ι₂ y s₂ e2 g2 r2 hne2 => ?_) (fun _ _ p => p) fun e s₂ p => p.after g1
  refine wpAny_pure ?_
  have E2 : ((fa sc.ρ μ₁).bind fun b μ => cutToS w b μ) = cutToS w b μ₂ := by simp only [e2, Out.bind_ok]
  rw [E2]
  cases b with
  | int i =>
    obtain ⟨t⟩ := r2.int_inv
    cases w with
    | str z =>
      obtain ⟨u⟩ := r1.str_inv
      by_cases hl : z.length ≤ sizeLine
      · have e : cutToS (.str z) (.int i) μ₂ = .ok (.str (Txt.slice z none (some i))) μ₂ := if_pos hl
        rw [e]
        exact wpAny_mono (cutS_ (C := C) (lo := none) (hi := some (i, t)) (fun _ _ => rfl) g2.inv hl) (fun z s₃ p => p.after (g1.trans g2)) fun z s₃ p => p.after (g1.trans g2)
      · exact absurd (if_neg hl) hne2
    | _ => exact absurd rfl hne2
  | _ => cases w <;> exact absurd rfl hne2

/-! methods of texts -/
noncomputable def dMeth (g : Str → MV → MH → Out MV) (fo fe : D) : D := fun ρ μ => (fo ρ μ).bind fun o μ => match o with
  | .str x => (fe ρ μ).bind fun v μ => g x v μ
  | _ => .stuck
/-- the run of a text's method with one argument -/
noncomputable def Meth (C : Cx) (id : String) (B : Builtin) (g : Str → MV → MH → Out MV) : Prop :=
  ∀ (A : Around) (s : Shared) (fs : List Sc) (ι : List Addr) (μ : MH) (x : Str) (t : Tok) (b : MV) (y : Value) (Q E : Value → Shared → Prop), Inv C.h₀ fs ι μ s.heap → Rel C.h₀ ι s.heap b y → g x b μ ≠ .stuck →
    (∀ v s', EPost C ι s fs (g x b μ) v s' → Q v s') → argsOk id ⟨[.str x t, y], []⟩ ∧ ∃ S, Meets (B ⟨[.str x t, y], []⟩) S ∧ S A (wants Q E) s
theorem snd_meth {nm : Str} {id : String} {B : Builtin} {o e : Expr} {apos pos : Pos} {fo fe : D} {g : Str → MV → MH → Out MV} (slot : Slot "str" nm id) (ty : typeOf (.builtin id) = pure (.type "method_descriptor")) (entry : entryFor table id = some B) (hg : Meth C id B g)
    (ho : ESound C q n sg o fo) (he : ESound C q n sg e fe) (hbase : ∀ env, attributeBase o nm env (eval o env) = eval o env) (hline : (apos.endLine == pos.line) = true) (hns : NoStar [e]) :
    ESound C q n sg (.Call (.Attribute o nm apos) [e] [] pos) (dMeth g fo fe) := fun A s sc rest ι μ hs hA hI hne => by
  refine Call_method1 (hbase _) (hns _) hline (then_ ho hs hA hI hne fun w μ₁ ι₁ x s₁ e1 g1 r1 hne1 => ?_)
  cases w with
  | str z =>
    have E1 : dMeth g fo fe sc.ρ μ = (fe sc.ρ μ₁).bind fun b μ => g z b μ := by unfold dMeth; first | (rw [e1]; done) | (rw [e1]; rfl)
    rw [E1]
    obtain ⟨t⟩ := r1.str_inv
    refine ⟨"str", id, F.plainAttrs_str, slot, ty, typeIs_str _ _ _, (fun _ e => nomatch e), method1_meets slot entry ?_⟩
    refine wpAny_mono (then_ he hs hA g1.inv hne1 (Q := fun v s₂ => s₂.TypeIs (.str z t) "str" ∧ argsOk id ⟨[.str z t, v], []⟩ ∧ ∃ S, Meets (B ⟨[.str z t, v], []⟩) S ∧ S A (wants (EPost C ι s (sc :: rest) ((fe sc.ρ μ₁).bind fun b μ => g z b μ)) (XPost C ι s (sc :: rest) ((fe sc.ρ μ₁).bind fun b μ => g z b μ))) s₂) fun b μ₂ ι₂ y s₂ e2 g2 r2 hne2 => ?_) (fun _ _ p => p) fun e s₂ p => p.after g1
    have E2 : ((fe sc.ρ μ₁).bind fun b μ => g z b μ) = g z b μ₂ := by simp only [e2, Out.bind_ok]
    rw [E2]
    exact ⟨typeIs_str _ _ _, hg A s₂ (sc :: rest) ι₂ μ₂ z t b y _ _ g2.inv r2 hne2 fun v s' p => p.after (g1.trans g2)⟩
  | _ => exact absurd rfl hne1

noncomputable def startsM (x : Str) : MV → MH → Out MV
  | .str y, μ => .ok (.bool (Txt.startswith x y)) μ
  | _, _ => .stuck
theorem meth_starts : Meth C "str.startswith" Builtin.«str.startswith» startsM := fun A s fs ι μ x t b y Q E hI hr hne k => by
  cases b with
  | str z =>
    obtain ⟨u⟩ := hr.str_inv
    exact ⟨F.args_str_startswith_2 _ _, _, (gives_str_startswith x z t u).meets, k _ _ (EPost.here hI (.bool _))⟩
  | _ => exact absurd rfl hne

noncomputable def splitM (x : Str) : MV → MH → Out MV
  | .str y, μ => if (y.length == 0) = false ∧ x.length ≤ sizeLine ∧ (partsBetween x (occurrences x y 0 x.length (x.length + 1)) y.length).length ≤ sizeLine then .ok (.lst μ.length) (μ ++ [(Txt.split x y).map .str]) else .stuck
  | _, _ => .stuck
theorem relAll_strs {h₀ h : Heap} {ι : List Addr} : ∀ l : List (Str × Tok), RelAll h₀ ι h ((l.map (·.1)).map .str) (strValues l)
  | [] => .nil
  | p :: l => .cons (.str _ _) (relAll_strs l)
theorem meth_split : Meth C "str.split" Builtin.«str.split» splitM := fun A s fs ι μ x t b y Q E hI hr hne k => by
  cases b with
  | str z =>
    obtain ⟨u⟩ := hr.str_inv
    by_cases hc : (z.length == 0) = false ∧ x.length ≤ sizeLine ∧ (partsBetween x (occurrences x z 0 x.length (x.length + 1)) z.length).length ≤ sizeLine
    · obtain ⟨hy, hx, hn⟩ := hc
      have e : splitM x (.str z) μ = .ok (.lst μ.length) (μ ++ [(Txt.split x z).map .str]) := if_pos ⟨hy, hx, hn⟩
      rw [e] at k
      have hq : ∀ (l : List (Str × Tok)) (tk : Nat), l.map (·.1) = Txt.split x z → Q (.ref s.heap.objs.size) { s with heap := s.heap.push { cls := .type "list", data := .seq (strValues l).toArray }, toks := tk } := fun l tk hl => by
        refine k _ _ ?_
        rw [← hl]
        have g0 : Go C ι s fs ι μ { s with toks := tk } := (Go.refl hI).toks tk
        exact (EPost.list g0.inv (relAll_strs l)).after g0
      refine ⟨F.args_str_split_2 _ _, ?_⟩
      cases h1 : (decide (x.length < z.length) || decide (strKind x < strKind z))
      · cases hf : (occurrences x z 0 x.length (x.length + 1)).isEmpty
        · refine ⟨_, meets_str_split_sep x z t u h1 hy hf hx hn, ?_⟩
          show wants Q E _ { s with toks := _, heap := s.heap.push { cls := .type "list", data := .seq (strsFrom s.toks (partsBetween x (occurrences x z 0 x.length (x.length + 1)) z.length)).toArray } }
          rw [strsFrom_eq]
          exact hq (numbered s.toks _) _ ((numbered_texts _ _).trans ((if_neg (ne_true_of_eq_false h1)).trans (if_neg (ne_true_of_eq_false hf))).symm)
        · exact ⟨_, meets_str_split_not_found x z t u h1 hy hf, hq [(x, t)] s.toks ((if_neg (ne_true_of_eq_false h1)).trans (if_pos hf)).symm⟩
      · exact ⟨_, meets_str_split_cannot_occur x z t u h1, hq [(x, t)] s.toks (if_pos h1).symm⟩
    · exact absurd (if_neg hc) hne
  | _ => exact absurd rfl hne

noncomputable def strsOf : List MV → Option (List Str)
  | [] => some []
  | .str x :: r => (strsOf r).map (x :: ·)
  | _ :: _ => none
theorem strsOf_map : ∀ xs : List Str, strsOf (xs.map .str) = some xs
  | [] => rfl
  | x :: xs => by show (strsOf (xs.map .str)).map (x :: ·) = _; rw [strsOf_map xs]; rfl
theorem strsOf_vals {h₀ h : Heap} {ι : List Addr} : ∀ {xs : List MV} {vs : List Value} {ts : List Str}, RelAll h₀ ι h xs vs → strsOf xs = some ts → ∃ l, vs = strValues l ∧ l.map (·.1) = ts
  | [], vs, ts, r, e => by
    obtain rfl := r.nil_inv
    cases e
    exact ⟨[], rfl, rfl⟩
  | x :: xs, vs, ts, r, e => by
    obtain ⟨v, us, rfl, r1, rs⟩ := r.cons_inv
    cases x with
    | str z =>
      have e' : (strsOf xs).map (z :: ·) = some ts := e
      cases h : strsOf xs with
      | none => rw [h] at e'; cases e'
      | some ts' =>
        rw [h] at e'; cases e'
        obtain ⟨l, rfl, hl⟩ := strsOf_vals rs h
        obtain ⟨t⟩ := r1.str_inv
        exact ⟨(z, t) :: l, rfl, by rw [List.map_cons, hl]⟩
    | _ => cases e
noncomputable def joinM (x : Str) : MV → MH → Out MV
  | .lst k, μ => match (μ[k]?).bind strsOf with
    | some ts => if JoinOk x ts = true then .ok (.str (Txt.join x ts)) μ else .stuck
    | none => .stuck
  | _, _ => .stuck
theorem joinM_lst (x : Str) (k : Nat) (μ : MH) : joinM x (.lst k) μ = (match (μ[k]?).bind strsOf with | some ts => if JoinOk x ts = true then .ok (.str (Txt.join x ts)) μ else .stuck | none => .stuck) := (rfl)
theorem meth_join : Meth C "str.join" Builtin.«str.join» joinM := fun A s fs ι μ x t b y Q E hI hr hne k => by
  cases b with
  | lst j =>
    obtain ⟨a, hk⟩ := hr.lst_inv
    rw [joinM_lst] at hne k
    cases e1 : μ[j]? with
    | none => rw [e1] at hne; exact absurd rfl hne
    | some xs =>
      cases e2 : strsOf xs with
      | none => rw [e1] at hne; exact absurd (by show (match strsOf xs with | some ts => if JoinOk x ts = true then Out.ok (MV.str (Txt.join x ts)) μ else .stuck | none => .stuck) = _; rw [e2]) hne
      | some ts =>
        have E2 : (match (μ[j]?).bind strsOf with | some ts => if JoinOk x ts = true then Out.ok (MV.str (Txt.join x ts)) μ else .stuck | none => .stuck) = (if JoinOk x ts = true then Out.ok (MV.str (Txt.join x ts)) μ else .stuck) := by
          rw [e1]; show (match strsOf xs with | some ts => if JoinOk x ts = true then Out.ok (MV.str (Txt.join x ts)) μ else .stuck | none => .stuck) = _; rw [e2]
        rw [E2] at hne k
        by_cases hok : JoinOk x ts = true
        · rw [if_pos hok] at k
          obtain ⟨a', vs, m, p1, p2, p3⟩ := hI.hp.at_ j xs e1
          rw [hk] at p1; cases p1
          obtain ⟨l, rfl, hl⟩ := strsOf_vals p3 e2
          subst hl
          have hok' := hok
          unfold JoinOk at hok'
          rw [Bool.not_eq_true'] at hok'
          exact ⟨F.args_str_join_2 _ _, _, meets_str_join_list x t _ l hok', p2.isList, post_join l ⟨joinFit_length hok', fun t' tk => k _ _ (EPost.same hI (.str _ _))⟩⟩
        · exact absurd (if_neg hok) hne
  | _ => exact absurd rfl hne

/-! str(..), int(..) -/
noncomputable def strOfM : List MV → MH → Out MV
  | [.str x], μ => .ok (.str x) μ
  | [.int i], μ => if i.natAbs.log2 < 1920 then .ok (.str (Str.ofString (toString i))) μ else .stuck
  | _, _ => .stuck
theorem op_strOf : OpL C q n (fun vs => call (.type "str") vs) strOfM := fun A s fs ι μ args xs hA hI hr hne => by
  cases args with
  | nil => exact absurd rfl hne
  | cons w l => cases l with
    | cons _ _ => cases w <;> exact absurd rfl hne
    | nil =>
      obtain ⟨x, rfl, r⟩ := hr.one_inv
      cases w with
      | str z =>
        obtain ⟨t⟩ := r.str_inv
        exact P.str_of_str (EPost.here hI (.str _ _))
      | int i =>
        obtain ⟨t⟩ := r.int_inv
        by_cases hl : i.natAbs.log2 < 1920
        · have e : strOfM [.int i] μ = .ok (.str (Str.ofString (toString i))) μ := if_pos hl
          rw [e]
          exact P.str_of_int hl (EPost.same hI (.str _ _))
        · exact absurd (if_neg hl) hne
      | _ => exact absurd rfl hne
noncomputable def intStrM : List MV → MH → Out MV
  | [.str x], μ => if x.length ≤ 640 then (match PySem.intText? x with | some i => .ok (.int i) μ | none => .stuck) else .stuck
  | _, _ => .stuck
theorem op_intStr : OpL C q n (fun vs => call (.type "int") vs) intStrM := fun A s fs ι μ args xs hA hI hr hne => by
  cases args with
  | nil => exact absurd rfl hne
  | cons w l => cases l with
    | cons _ _ => cases w <;> exact absurd rfl hne
    | nil =>
      obtain ⟨x, rfl, r⟩ := hr.one_inv
      cases w with
      | str z =>
        obtain ⟨t⟩ := r.str_inv
        by_cases hl : z.length ≤ 640
        · have e : intStrM [.str z] μ = (match PySem.intText? z with | some i => .ok (.int i) μ | none => .stuck) := if_pos hl
          cases hi : PySem.intText? z with
          | none => exact absurd (by rw [e, hi]) hne
          | some i =>
            rw [hi] at e
            rw [e]
            exact W.KIN.call_text hi hl (EPost.same hI (.int _ _))
        · exact absurd (if_neg hl) hne
      | _ => exact absurd rfl hne

/-! for sign in text -/
noncomputable def signsL (x : Str) : List MV := x.cps.toList.map fun c => .str ⟨#[c]⟩
theorem signsL_len (x : Str) : (signsL x).length = x.cps.size := by simp [signsL]
noncomputable def StrSt (I : Addr) (ty : String) (x : Str) (t : Tok) (i : Nat) (ι : List Addr) (h : Heap) : Prop := h.IsStrIter I ty x t i
theorem stepper_str {A : Around} {x : Str} {i : Nat} {p : Pos} {I : Addr} {z : Str} {t : Tok} {ty : String} {hs : Heap} (W : Walks C.prog C.w A I [I] [I] z.cps.size (SignAt z) (fun i h => h.IsStrIter I ty z t i)) (hty : ty ≠ "traceback") (N : NameOk sg x i) (hI0 : C.h₀.get? I = none) (hIs : hs.get? I = none) :
    Stepper C A sg (.ref I) (.Name x p) (signsL z) (putAt i) (fun _ => True) hs (StrSt I ty z t) where
  keep := fun j ι ι' h h' ⟨o, ho, hc, hd⟩ hp K => ⟨o, K.fro _ _ ho (frozen_iter hc hd hty), hc, hd⟩
  self := fun ι s Q E hst h => W.self 0 s Q E hst h
  item := fun j v s sc rest ι μ Q E₁ E₂ E₃ hv hsg hI hG hK hit kont => by
    have hj : j < z.cps.size := by rw [← signsL_len]; exact (List.getElem?_eq_some_iff.mp hv).1
    refine W.item j s _ _ hj hit fun cv h' tk hP hit' hW => ?_
    obtain ⟨c, u, hc, rfl⟩ := hP
    have ev : v = .str ⟨#[c]⟩ := by
      simp [signsL, List.getElem?_map, hc] at hv
      exact hv.symm
    subst ev
    have hI' : Inv C.h₀ (sc :: rest) ι μ h' := hI.butW (W := [I]) (fun b hb => by rw [List.mem_singleton.mp hb]; exact hI0) (fun b hb o ho => by
      rw [List.mem_singleton.mp hb] at ho
      obtain ⟨o', ho', hc', hd'⟩ := hit
      rw [ho'] at ho; cases ho
      exact ⟨⟨_, hc'⟩, _, hd'⟩) hW
    have hK' : Keep hs h' := hK.butW (W := [I]) (fun b hb => by rw [List.mem_singleton.mp hb]; exact hIs) hW
    exact step_name (s := s) N hsg hI' hK' (.str _ u) ⟨_, _, rfl⟩ fun s' hsh hI'' hK'' K => kont s' hsh hI'' hK'' (let ⟨o, ho, hc, hd⟩ := hit'; ⟨o, K.fro _ _ ho (frozen_iter hc hd hty), hc, hd⟩)
  done := fun s sc rest ι μ Q E hsg hI hG hK hit kont => by
    rw [signsL_len] at hit
    refine W.done s _ _ hit fun h' tk hW => ?_
    refine kont _ ⟨_, _, rfl⟩ (hI.butW (W := [I]) (fun b hb => by rw [List.mem_singleton.mp hb]; exact hI0) (fun b hb o ho => by
      rw [List.mem_singleton.mp hb] at ho
      obtain ⟨o', ho', hc', hd'⟩ := hit
      rw [ho'] at ho; cases ho
      exact ⟨⟨_, hc'⟩, _, hd'⟩) hW) (hK.butW (W := [I]) (fun b hb => by rw [List.mem_singleton.mp hb]; exact hIs) hW)
noncomputable def iStr (f : D) : DI := fun ρ μ => (f ρ μ).bind fun v μ => match v with
  | .str x => .ok ⟨signsL x, fun _ => True⟩ μ
  | _ => .stuck
theorem is_str {sg' : Sg} {iter : Expr} {x : Str} {i : Nat} {p : Pos} {f : D} (he : ESound C true n sg iter f) (N : NameOk sg' x i) : ISound C n sg iter (.Name x p) sg' (putAt i) (iStr f) := fun A s sc rest ι μ E Q hs hA hI hne kont kx => by
  refine wpAny_mono (then_ he hs hA hI hne (Q := fun x s₁ => wpAny (model C.prog C.w) A (pyIter x) Q E s₁) fun v μ₁ ι₁ x s₁ e1 g1 r1 hne1 => ?_) (fun _ _ p => p) fun e s₁ p => kx e s₁ p
  cases v with
  | str z =>
    obtain ⟨t⟩ := r1.str_inv
    have E1 : iStr f sc.ρ μ = .ok ⟨signsL z, fun _ => True⟩ μ₁ := by unfold iStr; rw [e1]; rfl
    have g2 : ∀ o : Obj, Go C ι s (sc :: rest) ι₁ μ₁ { s₁ with heap := s₁.heap.push o } := fun o => by
      obtain ⟨h1, t1, rfl⟩ := g1.sh
      exact ⟨⟨_, _, rfl⟩, g1.pre, g1.inv.push _, g1.keep.trans (Keep.push _ _)⟩
    cases ha : z.cps.all (· < 128)
    · exact wpAny_pyIter_wide ha (kont _ _ _ _ _ s₁.heap (StrSt s₁.heap.objs.size "str_iterator" z t) E1 (g2 _) g1.keep (Keep.push _ _) ⟨_, Heap.get?_push_size _ rfl, rfl, rfl⟩ (stepper_str (Walks.strWide (hA.hand rfl) _ z t) (by decide) N (base_above g1.inv.hp.base (Nat.le_refl _)) (none_at_size _)))
    · exact wpAny_pyIter_ascii ha (kont _ _ _ _ _ s₁.heap (StrSt s₁.heap.objs.size "str_ascii_iterator" z t) E1 (g2 _) g1.keep (Keep.push _ _) ⟨_, Heap.get?_push_size _ rfl, rfl, rfl⟩ (stepper_str (Walks.strAscii (hA.hand rfl) _ z t) (by decide) N (base_above g1.inv.hp.base (Nat.le_refl _)) (none_at_size _)))
  | _ => exact absurd rfl hne1

/-- a text of the module -/
theorem snd_Split {o e : Expr} {apos pos : Pos} {fo fe : D} (ho : ESound C q n sg o fo) (he : ESound C q n sg e fe) (hbase : ∀ env, attributeBase o (Str.ofString "split") env (eval o env) = eval o env) (hline : (apos.endLine == pos.line) = true) (hns : NoStar [e]) :
    ESound C q n sg (.Call (.Attribute o (Str.ofString "split") apos) [e] [] pos) (dMeth splitM fo fe) := snd_meth F.slot_str_split F.type_str_split F.entry_str_split meth_split ho he hbase hline hns
theorem snd_Join {o e : Expr} {apos pos : Pos} {fo fe : D} (ho : ESound C q n sg o fo) (he : ESound C q n sg e fe) (hbase : ∀ env, attributeBase o (Str.ofString "join") env (eval o env) = eval o env) (hline : (apos.endLine == pos.line) = true) (hns : NoStar [e]) :
    ESound C q n sg (.Call (.Attribute o (Str.ofString "join") apos) [e] [] pos) (dMeth joinM fo fe) := snd_meth F.slot_str_join F.type_str_join F.entry_str_join meth_join ho he hbase hline hns
theorem snd_Starts {o e : Expr} {apos pos : Pos} {fo fe : D} (ho : ESound C q n sg o fo) (he : ESound C q n sg e fe) (hbase : ∀ env, attributeBase o (Str.ofString "startswith") env (eval o env) = eval o env) (hline : (apos.endLine == pos.line) = true) (hns : NoStar [e]) :
    ESound C q n sg (.Call (.Attribute o (Str.ofString "startswith") apos) [e] [] pos) (dMeth startsM fo fe) := snd_meth F.slot_str_startswith F.type_str_startswith F.entry_str_startswith meth_starts ho he hbase hline hns
end
end Mine

set_option linter.unusedVariables false
set_option maxRecDepth 100000
namespace Mine
open PySem PySem.W PyProof.Rows

/-! raise X(..) while an exception is handled -/
section
variable {prog : Program} {w : World} {A : Around} {E : Value → Shared → Prop}
theorem entry_unchain : entryFor table "proto.unchain" = some Builtin.«proto.unchain» := entryFor_of_tree (by kernel_rfl)
theorem raiseNew_some {α : Type} {s : Shared} {e h : Addr} {oe oh : Obj} {ve vh : Array Value} {Q : α → Shared → Prop} (hh : A.handled = some (.ref h)) (hne : h ≠ e) (he : s.heap.get? e = some oe) (hd : oe.data = .fields ve) (h2 : 2 < ve.size)
    (ho : s.heap.get? h = some oh) (hod : oh.data = .fields vh) (hc : vh[2]? = some .none) (k : E (.ref e) { s with heap := s.heap.update e (Obj.mapFields (·.setIfInBounds 2 (.ref h))) }) :
    wpAny (model prog w) A (raiseNew (.ref e) : Sem α) Q E s := by
  unfold raiseNew
  refine wpAny_bind (wpAny_handled ?_)
  rw [hh]
  have hn : (Value.ref h != Value.ref e) = true := by simpa using hne
  simp only [hn, if_true]
  refine wpAny_bind (wpAny_holding (wpAny_runValue (codeAny_builtin entry_unchain ?_)))
  refine wpAny_bind (wpAny_field ho hod hc ?_)
  refine wpAny_pure ?_
  unfold updateField
  refine wpAny_bind (wpAny_bind (wpAny_load he ?_))
  rw [hd]
  simp only [h2, if_true]
  exact wpAny_update he (wpAny_throw k)
end

section
variable {prog : Program} {w : World} {A : Around} {E : Value → Shared → Prop} {s : Shared} {env : Env}
variable {nm q : Str} {C N : Addr} {bs bm bmB : List Value} {hdct : Bool} {sn : List Str} {sub : List Value} {ab : Bool} {col : Option Bool} {dd : Option Addr} {k0 k1 k2 k3 k5 : Option Value} {B newId initId : String}

theorem raiseStmt_handled {x : Sem Value} {Q : Flow → Shared → Prop} {h : Addr} (hbase : bm.contains (.type "BaseException") = true) (hh : A.handled = some (.ref h))
    (hx : wpAny (model prog w) A x (fun v s₁ => ∃ e t oh vh, v = .ref e ∧ s₁.heap.get? C = some (excClassObj nm q C N bs bm hdct sn sub ab col dd k0 k1 k2 k3 k5 newId) ∧
      s₁.heap.get? e = some { cls := .ref C, data := .fields #[.ref t, .none, .none, .none, .bool false, .none] } ∧ h ≠ e ∧ s₁.heap.get? h = some oh ∧ oh.data = .fields vh ∧ vh[2]? = some .none ∧
      E (.ref e) { s₁ with heap := s₁.heap.update e (Obj.mapFields (·.setIfInBounds 2 (.ref h))) }) E s) :
    wpAny (model prog w) A (raiseStmt env (some x) none) Q E s := by
  have hcB : (Value.ref C :: bm).contains (.type "BaseException") = true := by rw [List.contains_cons, hbase, Bool.or_true]
  unfold raiseStmt
  refine wpAny_bind (wpAny_mono hx (fun v s₁ h₁ => ?_) fun _ _ x => x)
  obtain ⟨e, t, oh, vh, rfl, hC, he, hne, ho, hod, hc, hE⟩ := h₁
  obtain ⟨hp, g, d, tk, os⟩ := s₁
  repeat (first | with_reducible refine wpAny_loadPart_at he ?_ | with_reducible refine wpAny_loadPart_at hC ?_ | (with_reducible refine wpAny_isSubtype_exc hC ?_; rw [hcB]) | wp_step)
  exact raiseNew_some hh hne he rfl (by show 2 < 6; decide) ho hod hc hE

theorem raise_handled (F : ExcBaseFacts B newId initId bmB) {mN : Str → Option Value} {x : Str} {np cpos pos : Pos} {args : List Expr} {Q : Flow → Shared → Prop} {h : Addr}
    (hbase : bm.contains (.type "BaseException") = true) (hh : A.handled = some (.ref h)) (hplain : (backTo cpos (starEach args env)).any (·.1) = false) (hni : mN "__init__" = none)
    (hw : wpAny (model prog w) A (eval (.Name x np) env) (fun f s₁ => f = .ref C ∧ wpAny (model prog w) A (evalArgs (.ref C) true (backTo cpos (starEach args env)) [])
      (fun a s₂ => a.kw = [] ∧ a.pos.length ≤ sizeLine ∧ s₂.heap.get? C = some (excClassObj nm q C N bs bm hdct sn sub ab col dd k0 k1 k2 k3 k5 newId) ∧ s₂.heap.Ns N mN ∧ OwnTail s₂.heap bmB bm ∧
        (∃ oh vh, s₂.heap.get? h = some oh ∧ oh.data = .fields vh ∧ vh[2]? = some .none) ∧
        ∀ h' e, Heap.MadeExcOf s₂.heap h' e (.ref C) a.pos → E (.ref e) { s₂ with heap := h'.update e (Obj.mapFields (·.setIfInBounds 2 (.ref h))) }) E s₁) E s) :
    wpAny (model prog w) A (exec (.Raise (some (.Call (.Name x np) args [] cpos)) none pos) env) Q E s := by
  rw [arm_exec_Raise]
  simp only [evalOpt, Option.map]
  refine wpAny_bind (wpAny_standAt (raiseStmt_handled (C := C) (nm := nm) (q := q) (N := N) (bs := bs) (bm := bm) (hdct := hdct) (sn := sn) (sub := sub) (ab := ab) (col := col) (dd := dd) (k0 := k0) (k1 := k1) (k2 := k2) (k3 := k3) (k5 := k5) (newId := newId) hbase hh (wpAny_bind (wpAny_mono (wpAny_Call_ofName (wpAny_mono hw (fun f s₁ h₁ => ?_) fun _ _ x => x)) (fun v s₃ h₃ => wpAny_bind (wpAny_standAt (wpAny_pure h₃))) fun _ _ x => x))))
  obtain ⟨rfl, h₁⟩ := h₁
  unfold callWith
  refine wpAny_bind (wpAny_holding (wpAny_mono h₁ (fun a s₂ h₂ => wpAny_bind (wpAny_standAt ?_)) fun _ _ x => x))
  obtain ⟨apos, akw⟩ := a
  obtain ⟨hkw, hlen, hC, hn, T, ⟨oh, vh, ho, hod, hc⟩, h₂⟩ := h₂
  obtain rfl : akw = [] := hkw
  obtain ⟨hp, g, d, tk, os⟩ := s₂
  simp only [hplain]
  refine wpAny_bind (wpAny_keeperOf_exc hC ?_)
  refine wpAny_bind (wpAny_call_exc_subT (hrest := hlen) F T hC hn hni fun h' e hm => wpAny_bind (wpAny_holding (wpAny_point (wpAny_pure ?_))))
  obtain ⟨t, ht, _, _⟩ := hm.there
  refine ⟨e, t, oh, vh, rfl, hm.keeps _ _ hC, ht, fun q => ?_, hm.keeps _ _ ho, hod, hc, h₂ h' e hm⟩
  subst q
  have := hm.new
  rw [this] at ho; cases ho
end

section
variable {C : Cx} {n : Nat} {sg : Sg} {cs : List Str}
/-- the suite of a handler that knows what it handles -/
noncomputable def HSound (C : Cx) (n : Nat) (sg : Sg) (c : Str) (b : List Stmt) (f : DS) : Prop :=
  ∀ (A : Around) (s : Shared) (sc : Sc) (rest : List Sc) (ι : List Addr) (μ : MH) (e : Value), SgOk sg sc → AOk false n (sc :: rest) A → A.handled = some e → Fly C c e s.heap → Inv C.h₀ (sc :: rest) ι μ s.heap → f sc.ρ μ ≠ .stuck →
    wpAny (model C.prog C.w) A (execs b sc.env) (SPost C ι s sc rest (f sc.ρ μ)) (SXPost C ι s sc rest (f sc.ρ μ)) s

theorem h_raise (CO : CxOk C) (X : ExcEnv C cs) {c x m : Str} {kk : Nat} {np cp cpos pos : Pos} (hcp : plainC c = true) (hxp : plainC x = false) (hx : x ∈ cs) (hk : sg.names.lookup x = some .globalImplicit) (hd : (x == ("__debug__" : Str)) = false) :
    HSound C n sg c [.Raise (some (.Call (.Name x np) [.Constant (.str m) kk cp] [] cpos)) none pos] (dSeq (dRaise x (dConst (.str m))) dSkip) := fun A s sc rest ι μ y hs hA hh hF hI hne => by
  have hns : NoStar [.Constant (.str m) kk cp] := fun _ => rfl
  obtain ⟨K, KX, hB, hO⟩ := X.ex
  have O := hO x hx
  obtain ⟨tl, N, nm, q, bs, hdct, sn, sub, ab, col, dd, k0, k1, k2, k3, k5, mN, hC, hN, hni, T⟩ := O.own.obj
  obtain ⟨a, oe, vs, rfl, y2, y3, y4, y4', y5, y6, y7⟩ := hF.it
  refine wpAny_execs_cons (raise_handled (C := addrIn K x) (nm := nm) (q := q) (N := N) (bs := bs) (bm := tl) (hdct := hdct) (sn := sn) (sub := sub) (ab := ab) (col := col) (dd := dd) (k0 := k0) (k1 := k1) (k2 := k2) (k3 := k3) (k5 := k5)
    F.excBase_ValueError (mN := mN) (T.hasType F.excBase_ValueError.hasBase) hh (by rw [backTo_plain hns]; rfl) hni (name_glob CO hs hI hk (.inl O.bound) hd ⟨rfl, ?_⟩))
  rw [backTo_plain hns]
  have hb := hI.hp.base
  refine Calls.evalArgs_plain (Calls.spliced_cons (wpAny_Constant_str (Calls.spliced_nil ?_)))
  refine ⟨rfl, by show 1 ≤ sizeLine; decide, hb _ _ hC, hN.keeps hb, T.keeps hb, ⟨oe, vs, y3, y5, y6.cx hcp⟩, fun h' e hm => ?_⟩
  obtain ⟨tt, t1, t2, t3⟩ := hm.there
  have hnew : C.h₀.get? e = none := by
    cases hq : C.h₀.get? e with
    | none => rfl
    | some o => have := hb e o hq; rw [hm.new] at this; cases this
  have I1 : Inv C.h₀ (sc :: rest) ι μ h' := hI.ext hm.keeps
  have K1 : Keep s.heap h' := Keep.of_ext hm.keeps
  have hdf := Obj.data_mapFields (o := { cls := .ref (addrIn K x), data := .fields #[.ref tt, .none, .none, .none, .bool false, .none] }) rfl (·.setIfInBounds 2 (.ref a))
  have hget := Heap.get?_update_self (Obj.mapFields (·.setIfInBounds 2 (.ref a))) t1 (Obj.isFreed_of_fields hdf)
  obtain ⟨I2, K2⟩ := I1.noted (h' := h'.update e (Obj.mapFields (·.setIfInBounds 2 (.ref a)))) [e] (fun b hb => by rw [List.mem_singleton.mp hb]; exact hnew)
    (fun b o hb hne => (Heap.get?_update_other _ _ (Ne.symm fun q => hne (by rw [q]; exact List.mem_singleton.mpr rfl))).trans hb) fun b hb o ho => by
      rw [List.mem_singleton.mp hb] at ho ⊢
      rw [t1] at ho; cases ho
      exact .inr ⟨exc_not_frozen rfl, ⟨_, rfl⟩, _, _, hget, rfl, rfl, hdf⟩
  refine ⟨x, μ, ι, sc.ρ, rfl, ⟨⟨_, _, rfl⟩, List.prefix_refl _, I2, K1.trans K2⟩, ⟨e, _, _, rfl, hnew, hget, ⟨addrIn K x, ⟨C.mg, CO.g, O.bound⟩, rfl⟩, rfl, hdf, ⟨by simp, fun q => by rw [hxp] at q; cases q⟩, .inl rfl⟩⟩

/-- except D: a suite that knows what it handles -/
theorem s_tryH (CO : CxOk C) (X : ExcEnv C cs) {body : List Stmt} {b₀ : Stmt} {suite : List Stmt} {d : Str} {np hpos pos : Pos} {f h : DS} (hb : XSound C n sg body f) (hh : ∀ c ∈ cs, subX c d = true → HSound C n sg c (b₀ :: suite) h)
    (hdc : d ∈ cs) (hdv : (d == Str.ofString "ValueError") = false) (hk : sg.names.lookup d = some .globalImplicit) (hd : (d == ("__debug__" : Str)) = false) :
    S1Sound C true n sg (.Try body [.ExceptHandler (some (.Name d np)) none (b₀ :: suite) hpos] [] [] pos) (dTry cs d f h) := fun A s sc rest ι μ hs hA hI hne => by
  have hne1 : f sc.ρ μ ≠ .stuck := fun e => hne (by unfold dTry; first | (rw [e]; done) | (rw [e]; rfl))
  refine wpAny_Try_except (wpAny_mono (hb A s sc rest ι μ hs hA hI hne1) (fun fl s₁ p => ?_) fun e s₁ p => ?_)
  · obtain ⟨F, ρ', μ₁, ι₁, e1, r1, g1⟩ := p
    have E1 : dTry cs d f h sc.ρ μ = .ok (F, ρ') μ₁ := by unfold dTry; first | (rw [e1]; done) | (rw [e1]; rfl)
    rw [E1]
    cases r1 with
    | next => exact wpAny_execs_nil ⟨.next, ρ', μ₁, ι₁, rfl, .next, g1⟩
    | brk => exact ⟨.brk, ρ', μ₁, ι₁, rfl, .brk, g1⟩
    | ret r => exact ⟨.ret _, ρ', μ₁, ι₁, rfl, .ret r, g1⟩
  · obtain ⟨c, μ₁, ι₁, e1, g1, f1⟩ := p
    have hc : c ∈ cs := by
      by_cases hc : c ∈ cs
      · exact hc
      · exact absurd (by simp [dTry, e1, hc]) hne
    refine caught_ CO X hs hA g1 f1 hc hdc hdv hk hd (fun s₂ hsub g2 f2 => ?_) fun s₂ hsub g2 f2 => ?_
    · have E1 : dTry cs d f h sc.ρ μ = h sc.ρ μ₁ := by simp [dTry, e1, hc, hsub]
      rw [E1] at hne ⊢
      refine codeAny_handlers_suite (flight_ g2.inv f2 fun s₃ g3 f3 => ?_)
      have G3 := g2.trans g3
      refine wpAny_mono (hh c hc hsub (A.mark (some e)) s₃ sc rest ι₁ μ₁ e hs (hA.mark _) rfl f3.fly g3.inv hne) (fun fl s₅ p => p.after (sc := sc) (ρ' := sc.ρ) G3) fun y s₅ p => ?_
      obtain ⟨c', μ₅, ι₅, ρ₅, e5, g5, f5⟩ := p
      have hA5 : AOk true n (sc.at ρ₅ :: rest) A := hA.at ρ₅
      obtain ⟨L, hL⟩ : ∃ L, topL (sc.at ρ₅ :: rest) = some L := by
        rcases hA5.top with h | h
        · cases h
        · exact Option.isSome_iff_exists.mp h
      refine note_ (sc := sc.at ρ₅) (rest := rest) (A := A.mark (some e)) hA5.frames hA5.stk hL g5.inv f5 fun s₆ g6 f6 => ?_
      obtain ⟨a, oe, vs, T, oT, ts, rfl, x2, x3, x4, x4', x5, x6, x7, x8⟩ := f6.it
      unfold cameBackBy
      refine wpAny_bind (wpAny_field x3 x5 x7 ?_)
      rw [if_neg (by simp)]
      refine flight_ g6.inv f6 fun s₇ g7 f7 => ?_
      exact ⟨c', μ₅, ι₅, ρ₅, e5, ((G3.trans g5).trans g6).trans g7, f7.fly⟩
    · exact ⟨c, μ₁, ι₁, sc.ρ, by simp [dTry, e1, hc, hsub], g2, f2⟩
end

/-! a text among the names of the module -/
noncomputable def gsB (K : Frag) (gs : List (Str × Str)) : Bool := gs.all fun p => match nsIn K mainGlobals p.1 with | some (some (.str j _)) => j == p.2 | _ => false
noncomputable def hookS (as : List Addr) (p : Program) (fs : List FS) (gi : List (Str × Int)) (gs : List (Str × Str)) (bs cs : List Str) : Hook :=
  ⟨Bool × (Bool × List FuncBody × List V4), fun s => (gsB (fragOf as s.heap) gs, obsK fs gi bs cs (fragOf as s.heap)), fun _ => (true, valK p fs), fun _ h => ∃ K : Frag, (obsK fs gi bs cs K = valK p fs ∧ gsB K gs = true) ∧ K.In h,
    fun w s e => ⟨_, ⟨congrArg (·.2) e, congrArg (·.1) e⟩, fragOf_in as⟩, fun w h h' x k => ⟨x.choose, x.choose_spec.1, x.choose_spec.2.keeps k⟩⟩
theorem gstr_hook {C : Cx} {K : Frag} {gs : List (Str × Str)} (e : gsB K gs = true) (X : K.In C.h₀) (G : C.h₀.Ns mainGlobals C.mg) (i : Nat) {x z : Str} (hf : gs[i]? = some (x, z)) : ∃ t, C.mg x = some (.str z t) :=
  gstr_of X G (List.all_eq_true.mp e _ (List.mem_of_getElem? hf))
end Mine

set_option linter.unusedVariables false
namespace Mine.Com
open PySem Mine
noncomputable def d_is_whole : DS := (dSeq (dRet (dAnd (dOp1 (isiM .int) (dVar 0)) (dNot (dOp1 (isiM .bool) (dVar 0))))) dSkip)
noncomputable def f_is_whole : List MV → MH → Out MV := dDef 1 d_is_whole
noncomputable def d_is_box : DS := (dSeq (dRet (dAnd (dCall f_is_whole (dCons (dVar 0) dNil)) (dChain leM ltM (dConst (.int 0)) (dVar 0) (dConst (.int 4))))) dSkip)
noncomputable def f_is_box : List MV → MH → Out MV := dDef 1 d_is_box
noncomputable def d_is_step : DS := (dSeq (dIfS (dOr (dNot (dOp1 (isiM .tuple) (dVar 0))) (dOr (dBin eqM (dCall lenM (dCons (dVar 0) dNil)) (dConst (.int 0))) (dNot (dOp1 (isiM .str) (dBin idxM (dVar 0) (dConst (.int 0))))))) (dSeq (dRet (dConst (.bool false))) dSkip) dSkip) (dSeq (dIfS (dBin eqM (dBin idxM (dVar 0) (dConst (.int 0))) (dConst (.str (Str.ofString "fence")))) (dSeq (dRet (dBin eqM (dCall lenM (dCons (dVar 0) dNil)) (dConst (.int 1)))) dSkip) dSkip) (dSeq (dIfS (dBin eqM (dBin idxM (dVar 0) (dConst (.int 0))) (dConst (.str (Str.ofString "get")))) (dSeq (dRet (dAnd (dBin eqM (dCall lenM (dCons (dVar 0) dNil)) (dConst (.int 2))) (dCall f_is_box (dCons (dBin idxM (dVar 0) (dConst (.int 1))) dNil)))) dSkip) dSkip) (dSeq (dIfS (dOr (dBin neM (dBin idxM (dVar 0) (dConst (.int 0))) (dConst (.str (Str.ofString "put")))) (dOr (dBin neM (dCall lenM (dCons (dVar 0) dNil)) (dConst (.int 3))) (dOr (dNot (dCall f_is_box (dCons (dBin idxM (dVar 0) (dConst (.int 1))) dNil))) (dNot (dCall f_is_whole (dCons (dBin idxM (dVar 0) (dConst (.int 2))) dNil)))))) (dSeq (dRet (dConst (.bool false))) dSkip) dSkip) (dSeq (dRet (dChain ltM ltM (dNeg (dConst (.int 1000000000000000000000000000000))) (dBin idxM (dVar 0) (dConst (.int 2))) (dConst (.int 1000000000000000000000000000000)))) dSkip)))))
noncomputable def f_is_step : List MV → MH → Out MV := dDef 1 d_is_step
noncomputable def d_need_web : DS := (dSeq (dIfS (dOr (dNot (dOp1 (isiM .list) (dVar 0))) (dNot (dChain leM leM (dConst (.int 1)) (dCall lenM (dCons (dVar 0) dNil)) (dConst (.int 3))))) (dSeq (dRaise (Str.ofString "BadWeb") (dConst (.str (Str.ofString "one to three rows are wanted")))) dSkip) dSkip) (dSeq (dAssign 1 (dConst (.int 0))) (dSeq (dFor (iSeq (dVar 0)) (putAt 2) (dSeq (dIfS (dNot (dOp1 (isiM .list) (dVar 2))) (dSeq (dRaise (Str.ofString "BadWeb") (dConst (.str (Str.ofString "a row is a list")))) dSkip) dSkip) (dSeq (dFor (iSeq (dVar 2)) (putAt 3) (dSeq (dIfS (dNot (dCall f_is_step (dCons (dVar 3) dNil))) (dSeq (dRaise (Str.ofString "BadWeb") (dConst (.str (Str.ofString "a step is wanted")))) dSkip) dSkip) (dSeq (dIfS (dBin neM (dBin idxM (dVar 3) (dConst (.int 0))) (dConst (.str (Str.ofString "fence")))) (dSeq (dAssign 1 (dBin addM (dVar 1) (dConst (.int 1)))) dSkip) dSkip) dSkip))) dSkip))) (dSeq (dIfS (dBin gtM (dVar 1) (dConst (.int 8))) (dSeq (dRaise (Str.ofString "BadWeb") (dConst (.str (Str.ofString "eight puts and gets are the most")))) dSkip) dSkip) (dSeq (dRet (dVar 0)) dSkip)))))
noncomputable def f_need_web : List MV → MH → Out MV := dDef 1 d_need_web
noncomputable def d__law_cell_at : DS := (dSeq (dIfS (dBin ltM (dVar 1) (dCall lenM (dCons (dVar 0) dNil))) (dSeq (dRet (dBin idxM (dVar 0) (dVar 1))) dSkip) dSkip) (dSeq (dRet (dConst (.int 0))) dSkip))
noncomputable def f__law_cell_at : List MV → MH → Out MV := dDef 2 d__law_cell_at
end Mine.Com

set_option linter.unusedVariables false
namespace Mine
open PySem
/-! what is left to do behind a value: kept as data, so that a rewriter works from the inside -/
noncomputable def seqK (o : Out (Fl × Rho)) (g : DS) : Out (Fl × Rho) := o.bind fun r μ => match r.1 with | .next => g r.2 μ | _ => .ok r μ
noncomputable def ifK {α : Type} (o : Out MV) (a b : Rho → MH → Out α) (ρ : Rho) : Out α := o.bind fun v μ => match v with | .bool true => a ρ μ | .bool false => b ρ μ | _ => .stuck
noncomputable def andK (o : Out MV) (g : D) (ρ : Rho) : Out MV := o.bind fun v μ => match v with | .bool true => g ρ μ | .bool false => .ok (.bool false) μ | _ => .stuck
noncomputable def orK (o : Out MV) (g : D) (ρ : Rho) : Out MV := o.bind fun v μ => match v with | .bool false => g ρ μ | .bool true => .ok (.bool true) μ | _ => .stuck
noncomputable def notK (o : Out MV) : Out MV := o.bind fun v μ => match v with | .bool b => .ok (.bool (!b)) μ | _ => .stuck
noncomputable def negK (o : Out MV) : Out MV := o.bind fun v μ => match v with | .int i => .ok (.int (-i)) μ | _ => .stuck
noncomputable def binK (o : Out MV) (g : MV → MV → MH → Out MV) (b : D) (ρ : Rho) : Out MV := o.bind fun x μ => (b ρ μ).bind fun y μ => g x y μ
noncomputable def binK2 (o : Out MV) (g : MV → MV → MH → Out MV) (x : MV) : Out MV := o.bind fun y μ => g x y μ
noncomputable def chK (o : Out MV) (g h : MV → MV → MH → Out MV) (b c : D) (ρ : Rho) : Out MV := o.bind fun x μ => (b ρ μ).bind fun y μ => (g x y μ).bind fun z μ => match z with
  | .bool true => (c ρ μ).bind fun d μ => h y d μ
  | .bool false => .ok (.bool false) μ
  | _ => .stuck
noncomputable def chK2 (o : Out MV) (g h : MV → MV → MH → Out MV) (x : MV) (c : D) (ρ : Rho) : Out MV := o.bind fun y μ => (g x y μ).bind fun z μ => match z with
  | .bool true => (c ρ μ).bind fun d μ => h y d μ
  | .bool false => .ok (.bool false) μ
  | _ => .stuck
noncomputable def chK3 (o : Out MV) (h : MV → MV → MH → Out MV) (y : MV) (c : D) (ρ : Rho) : Out MV := o.bind fun z μ => match z with
  | .bool true => (c ρ μ).bind fun d μ => h y d μ
  | .bool false => .ok (.bool false) μ
  | _ => .stuck
noncomputable def consK (o : Out MV) (g : DL) (ρ : Rho) : Out (List MV) := o.bind fun v μ => (g ρ μ).bind fun vs μ => .ok (v :: vs) μ
noncomputable def consK2 (o : Out (List MV)) (v : MV) : Out (List MV) := o.bind fun vs μ => .ok (v :: vs) μ
noncomputable def tupK (o : Out (List MV)) : Out MV := o.bind fun vs μ => .ok (.tup vs) μ
noncomputable def listK (o : Out (List MV)) : Out MV := o.bind fun vs μ => .ok (.lst μ.length) (μ ++ [vs])
noncomputable def compK (o : Out Src) (c e : D) (i : Nat) (ρ : Rho) : Out MV := o.bind fun s μ => compM s.G (putAt i) c e μ.length s.its ρ (μ ++ [[]])
noncomputable def retK (o : Out MV) (ρ : Rho) : Out (Fl × Rho) := o.bind fun v μ => .ok (.ret v, ρ) μ
noncomputable def exprK (o : Out MV) (ρ : Rho) : Out (Fl × Rho) := o.bind fun _ μ => .ok (.next, ρ) μ
noncomputable def asgK (o : Out MV) (ρ : Rho) (i : Nat) : Out (Fl × Rho) := o.bind fun v μ => .ok (.next, ρ.set i v) μ
noncomputable def forK (o : Out Src) (p : Rho → MV → Rho) (f : DS) (ρ : Rho) : Out (Fl × Rho) := o.bind fun s μ => loopM s.G p f s.its ρ μ
noncomputable def raiseK (o : Out MV) (c : Str) : Out (Fl × Rho) := o.bind fun _ μ => .exc c μ
noncomputable def itK (o : Out MV) : Out Src := o.bind fun v μ => match v with
  | .lst k => match μ[k]? with | some xs => .ok ⟨xs, fun μ => μ[k]? = some xs⟩ μ | none => .stuck
  | .tup xs => .ok ⟨xs, fun _ => True⟩ μ
  | _ => .stuck
noncomputable def rngK (o : Out MV) : Out Src := o.bind fun v μ => match v with | .int b => rngO 0 b μ | _ => .stuck
noncomputable def appK (o : Out MV) (fe : D) (ρ : Rho) : Out MV := o.bind fun o μ => match o with
  | .lst k => (fe ρ μ).bind fun v μ => match μ[k]? with
    | some xs => if xs.length ≤ sizeLine then .ok .none (μ.set k (xs ++ [v])) else .stuck
    | none => .stuck
  | _ => .stuck
noncomputable def appK2 (o : Out MV) (k : Nat) : Out MV := o.bind fun v μ => match μ[k]? with
    | some xs => if xs.length ≤ sizeLine then .ok .none (μ.set k (xs ++ [v])) else .stuck
    | none => .stuck
noncomputable def defK (o : Out (Fl × Rho)) : Out MV := o.bind fun r μ => .ok (match r.1 with | .ret v => v | _ => .none) μ

section
variable {ρ : Rho} {μ : MH}
@[simp] theorem ev_const (v : MV) : dConst v ρ μ = .ok v μ := (rfl)
theorem ev_var {i : Nat} {v : MV} (h : ρ i = some v) : dVar i ρ μ = .ok v μ := by simp [dVar, h]
@[simp] theorem ev_bin (g : MV → MV → MH → Out MV) (a b : D) : dBin g a b ρ μ = binK (a ρ μ) g b ρ := (rfl)
@[simp] theorem binK_ok (x : MV) (g : MV → MV → MH → Out MV) (b : D) : binK (.ok x μ) g b ρ = binK2 (b ρ μ) g x := (rfl)
@[simp] theorem binK2_ok (x y : MV) (g : MV → MV → MH → Out MV) : binK2 (.ok y μ) g x = g x y μ := (rfl)
@[simp] theorem ev_chain (g h : MV → MV → MH → Out MV) (a b c : D) : dChain g h a b c ρ μ = chK (a ρ μ) g h b c ρ := (rfl)
@[simp] theorem chK_ok (x : MV) (g h : MV → MV → MH → Out MV) (b c : D) : chK (.ok x μ) g h b c ρ = chK2 (b ρ μ) g h x c ρ := (rfl)
@[simp] theorem chK2_ok (x y : MV) (g h : MV → MV → MH → Out MV) (c : D) : chK2 (.ok y μ) g h x c ρ = chK3 (g x y μ) h y c ρ := (rfl)
@[simp] theorem chK3_true (y : MV) (h : MV → MV → MH → Out MV) (c : D) : chK3 (.ok (.bool true) μ) h y c ρ = binK2 (c ρ μ) h y := (rfl)
@[simp] theorem chK3_false (y : MV) (h : MV → MV → MH → Out MV) (c : D) : chK3 (.ok (.bool false) μ) h y c ρ = .ok (.bool false) μ := (rfl)
@[simp] theorem ev_not (f : D) : dNot f ρ μ = notK (f ρ μ) := (rfl)
@[simp] theorem notK_ok (b : Bool) : notK (.ok (.bool b) μ) = .ok (.bool (!b)) μ := (rfl)
@[simp] theorem ev_and (f g : D) : dAnd f g ρ μ = andK (f ρ μ) g ρ := (rfl)
@[simp] theorem andK_true (g : D) : andK (.ok (.bool true) μ) g ρ = g ρ μ := (rfl)
@[simp] theorem andK_false (g : D) : andK (.ok (.bool false) μ) g ρ = .ok (.bool false) μ := (rfl)
@[simp] theorem ev_or (f g : D) : dOr f g ρ μ = orK (f ρ μ) g ρ := (rfl)
@[simp] theorem orK_true (g : D) : orK (.ok (.bool true) μ) g ρ = .ok (.bool true) μ := (rfl)
@[simp] theorem orK_false (g : D) : orK (.ok (.bool false) μ) g ρ = g ρ μ := (rfl)
@[simp] theorem ev_if (t a b : D) : dIf t a b ρ μ = ifK (t ρ μ) a b ρ := (rfl)
@[simp] theorem ev_ifs (t : D) (a b : DS) : dIfS t a b ρ μ = ifK (t ρ μ) a b ρ := (rfl)
@[simp] theorem ifK_true {α : Type} (a b : Rho → MH → Out α) : ifK (.ok (.bool true) μ) a b ρ = a ρ μ := (rfl)
@[simp] theorem ifK_false {α : Type} (a b : Rho → MH → Out α) : ifK (.ok (.bool false) μ) a b ρ = b ρ μ := (rfl)
@[simp] theorem ev_neg (f : D) : dNeg f ρ μ = negK (f ρ μ) := (rfl)
@[simp] theorem negK_ok (i : Int) : negK (.ok (.int i) μ) = .ok (.int (-i)) μ := (rfl)
@[simp] theorem ev_nil : dNil ρ μ = .ok [] μ := (rfl)
@[simp] theorem ev_cons (f : D) (g : DL) : dCons f g ρ μ = consK (f ρ μ) g ρ := (rfl)
@[simp] theorem consK_ok (v : MV) (g : DL) : consK (.ok v μ) g ρ = consK2 (g ρ μ) v := (rfl)
@[simp] theorem consK2_ok (v : MV) (vs : List MV) : consK2 (.ok vs μ) v = .ok (v :: vs) μ := (rfl)
@[simp] theorem ev_tup (f : DL) : dTup f ρ μ = tupK (f ρ μ) := (rfl)
@[simp] theorem tupK_ok (vs : List MV) : tupK (.ok vs μ) = .ok (.tup vs) μ := (rfl)
@[simp] theorem ev_list (f : DL) : dList f ρ μ = listK (f ρ μ) := (rfl)
@[simp] theorem listK_ok (vs : List MV) : listK (.ok vs μ) = .ok (.lst μ.length) (μ ++ [vs]) := (rfl)
@[simp] theorem ev_call (g : List MV → MH → Out MV) (f : DL) : dCall g f ρ μ = (f ρ μ).bind g := (rfl)
@[simp] theorem ev_op1 (g : MV → MH → Out MV) (f : D) : dOp1 g f ρ μ = (f ρ μ).bind g := (rfl)
@[simp] theorem ev_comp (s : DI) (c e : D) (i : Nat) : dComp s c e i ρ μ = compK (s ρ μ) c e i ρ := (rfl)
@[simp] theorem compK_ok (its : List MV) (G : MH → Prop) (c e : D) (i : Nat) : compK (.ok ⟨its, G⟩ μ) c e i ρ = compM G (putAt i) c e μ.length its ρ (μ ++ [[]]) := (rfl)
@[simp] theorem ev_skip : dSkip ρ μ = .ok (.next, ρ) μ := (rfl)
@[simp] theorem ev_seq (f g : DS) : dSeq f g ρ μ = seqK (f ρ μ) g := (rfl)
@[simp] theorem seqK_next (g : DS) : seqK (.ok (.next, ρ) μ) g = g ρ μ := (rfl)
@[simp] theorem seqK_ret (v : MV) (g : DS) : seqK (.ok (.ret v, ρ) μ) g = .ok (.ret v, ρ) μ := (rfl)
@[simp] theorem seqK_brk (g : DS) : seqK (.ok (.brk, ρ) μ) g = .ok (.brk, ρ) μ := (rfl)
@[simp] theorem seqK_exc (c : Str) (g : DS) : seqK (.exc c μ) g = .exc c μ := (rfl)
@[simp] theorem ev_ret (f : D) : dRet f ρ μ = retK (f ρ μ) ρ := (rfl)
@[simp] theorem retK_ok (v : MV) : retK (.ok v μ) ρ = .ok (.ret v, ρ) μ := (rfl)
@[simp] theorem retK_exc (c : Str) : retK (.exc c μ) ρ = .exc c μ := (rfl)
@[simp] theorem ev_expr (f : D) : dExpr f ρ μ = exprK (f ρ μ) ρ := (rfl)
@[simp] theorem exprK_ok (v : MV) : exprK (.ok v μ) ρ = .ok (.next, ρ) μ := (rfl)
@[simp] theorem exprK_exc (c : Str) : exprK (.exc c μ) ρ = .exc c μ := (rfl)
@[simp] theorem ev_assign (i : Nat) (f : D) : dAssign i f ρ μ = asgK (f ρ μ) ρ i := (rfl)
@[simp] theorem asgK_ok (v : MV) (i : Nat) : asgK (.ok v μ) ρ i = .ok (.next, ρ.set i v) μ := (rfl)
@[simp] theorem asgK_exc (c : Str) (i : Nat) : asgK (.exc c μ) ρ i = .exc c μ := (rfl)
@[simp] theorem ev_for (s : DI) (p : Rho → MV → Rho) (f : DS) : dFor s p f ρ μ = forK (s ρ μ) p f ρ := (rfl)
@[simp] theorem forK_ok (its : List MV) (G : MH → Prop) (p : Rho → MV → Rho) (f : DS) : forK (.ok ⟨its, G⟩ μ) p f ρ = loopM G p f its ρ μ := (rfl)
@[simp] theorem ev_raise (c : Str) (f : D) : dRaise c f ρ μ = raiseK (f ρ μ) c := (rfl)
@[simp] theorem raiseK_ok (v : MV) (c : Str) : raiseK (.ok v μ) c = .exc c μ := (rfl)
@[simp] theorem ev_seqI (f : D) : iSeq f ρ μ = itK (f ρ μ) := (rfl)
theorem itK_lst {k : Nat} {xs : List MV} (h : μ[k]? = some xs) : itK (.ok (.lst k) μ) = .ok ⟨xs, fun μ => μ[k]? = some xs⟩ μ := by
  show (match μ[k]? with | some xs => Out.ok (Src.mk xs fun μ => μ[k]? = some xs) μ | none => .stuck) = _
  rw [h]
@[simp] theorem itK_tup (xs : List MV) : itK (.ok (.tup xs) μ) = .ok ⟨xs, fun _ => True⟩ μ := (rfl)
@[simp] theorem ev_rng1 (f : D) : iRange1 f ρ μ = rngK (f ρ μ) := (rfl)
theorem rngK_ok {b : Int} (h : -(2 ^ 62) ≤ b ∧ b < 2 ^ 62) : rngK (.ok (.int b) μ) = .ok ⟨rangeL 0 b, fun _ => True⟩ μ := by
  show rngO 0 b μ = _
  unfold rngO; rw [if_pos ⟨by decide, by decide, h.1, h.2⟩]
@[simp] theorem ev_append (fo fe : D) : dAppend fo fe ρ μ = appK (fo ρ μ) fe ρ := (rfl)
@[simp] theorem appK_lst (k : Nat) (fe : D) : appK (.ok (.lst k) μ) fe ρ = appK2 (fe ρ μ) k := (rfl)
theorem appK2_ok {v : MV} {k : Nat} {xs : List MV} (h : μ[k]? = some xs) (hl : xs.length ≤ sizeLine) : appK2 (.ok v μ) k = .ok .none (μ.set k (xs ++ [v])) := by
  show (match μ[k]? with | some xs => if xs.length ≤ sizeLine then Out.ok MV.none (μ.set k (xs ++ [v])) else .stuck | none => .stuck) = _
  rw [h]; exact if_pos hl
@[simp] theorem rho_set (i j : Nat) (v : MV) : (ρ.set i v) j = if j = i then some v else ρ j := (rfl)
theorem rho_set_self (i : Nat) (v : MV) : (ρ.set i v) i = some v := by simp
@[simp] theorem defK_ret (v : MV) : defK (.ok (.ret v, ρ) μ) = .ok v μ := (rfl)
@[simp] theorem defK_next : defK (.ok (.next, ρ) μ) = .ok .none μ := (rfl)
@[simp] theorem defK_exc (c : Str) : defK (.exc c μ) = .exc c μ := (rfl)
end
theorem ev_def {k : Nat} {f : DS} {args : List MV} {μ : MH} (h : args.length = k) : dDef k f args μ = defK (f (fun i => args[i]?) μ) := by unfold dDef; rw [if_pos h]; rfl

/-! operations on plain values -/
section
variable {μ : MH}
@[simp] theorem add_int (a b : Int) : addM (.int a) (.int b) μ = .ok (.int (a + b)) μ := (rfl)
theorem add_lst {i j : Nat} {a b : List MV} (hi : μ[i]? = some a) (hj : μ[j]? = some b) (h : a.length + b.length ≤ sizeLine) : addM (.lst i) (.lst j) μ = .ok (.lst μ.length) (μ ++ [a ++ b]) := by rw [addM_lst, hi, hj]; exact if_pos h
@[simp] theorem sub_int (a b : Int) : subM (.int a) (.int b) μ = .ok (.int (a - b)) μ := (rfl)
@[simp] theorem lt_int (a b : Int) : ltM (.int a) (.int b) μ = .ok (.bool (decide (a < b))) μ := (rfl)
@[simp] theorem le_int (a b : Int) : leM (.int a) (.int b) μ = .ok (.bool (decide (a ≤ b))) μ := (rfl)
@[simp] theorem gt_int (a b : Int) : gtM (.int a) (.int b) μ = .ok (.bool (decide (b < a))) μ := (rfl)
theorem fdiv_int (a : Int) {b : Int} (h : 0 < b ∧ b < 2 ^ 30) : fdivM (.int a) (.int b) μ = .ok (.int (a.fdiv b)) μ := by
  show (match (if 0 < b ∧ b < 2 ^ 30 then some (MV.int (a.fdiv b)) else none) with | some v => Out.ok v μ | none => .stuck) = _
  rw [if_pos h]
theorem fmod_int (a : Int) {b : Int} (h : b ≠ 0) : fmodM (.int a) (.int b) μ = .ok (.int (a.fmod b)) μ := by
  show (match (if b = 0 then none else some (MV.int (a.fmod b))) with | some v => Out.ok v μ | none => .stuck) = _
  rw [if_neg h]
@[simp] theorem eq_int (a b : Int) : eqM (.int a) (.int b) μ = .ok (.bool (a == b)) μ := (rfl)
@[simp] theorem ne_int (a b : Int) : neM (.int a) (.int b) μ = .ok (.bool (!(a == b))) μ := (rfl)
theorem eq_str {a b : Str} (ha : PyData.strOk a = true) (hb : PyData.strOk b = true) : eqM (.str a) (.str b) μ = .ok (.bool (a == b)) μ := by
  show (if (PyData.strOk a && PyData.strOk b) = true then Out.ok (MV.bool (a == b)) μ else .stuck) = _
  rw [ha, hb]; rfl
theorem ne_str {a b : Str} (ha : PyData.strOk a = true) (hb : PyData.strOk b = true) : neM (.str a) (.str b) μ = .ok (.bool (!(a == b))) μ := by
  show (if (PyData.strOk a && PyData.strOk b) = true then Out.ok (MV.bool (!(a == b))) μ else .stuck) = _
  rw [ha, hb]; rfl
theorem eq_lit {a b : String} {r : Bool} (ha : PyData.strOk (Str.ofString a) = true) (hb : PyData.strOk (Str.ofString b) = true) (h : (Str.ofString a == Str.ofString b) = r) : eqM (.str (Str.ofString a)) (.str (Str.ofString b)) μ = .ok (.bool r) μ := by rw [eq_str ha hb, h]
@[simp] theorem isi_tup (xs : List MV) : isiM .tuple (.tup xs) μ = .ok (.bool true) μ := (rfl)
@[simp] theorem isi_str (x : Str) : isiM .str (.str x) μ = .ok (.bool true) μ := (rfl)
@[simp] theorem isi_lst (k : Nat) : isiM .list (.lst k) μ = .ok (.bool true) μ := (rfl)
@[simp] theorem isi_bool (b : Bool) : isiM .bool (.bool b) μ = .ok (.bool true) μ := (rfl)
@[simp] theorem isi_int (i : Int) : isiM .int (.int i) μ = .ok (.bool true) μ := (rfl)
@[simp] theorem isi_int_bool (i : Int) : isiM .bool (.int i) μ = .ok (.bool false) μ := (rfl)
theorem ne_lit {a b : String} {r : Bool} (ha : PyData.strOk (Str.ofString a) = true) (hb : PyData.strOk (Str.ofString b) = true) (h : (!(Str.ofString a == Str.ofString b)) = r) : neM (.str (Str.ofString a)) (.str (Str.ofString b)) μ = .ok (.bool r) μ := by rw [ne_str ha hb, h]
theorem len_lst {k : Nat} {xs : List MV} (h : μ[k]? = some xs) (hl : xs.length < 2 ^ 62) : lenM [.lst k] μ = .ok (.int xs.length) μ := by rw [lenM_lst, h]; exact if_pos hl
theorem len_tup {xs : List MV} (hl : xs.length < 2 ^ 62) : lenM [.tup xs] μ = .ok (.int xs.length) μ := if_pos hl
theorem pick_nat {α : Type} {xs : List α} {n : Nat} (h : n < 100000) : pick xs (n : Int) = xs[n]? := by
  unfold pick
  rw [if_pos ⟨by first | assumption | exact Nat.zero_le _ | exact lt_big (by assumption) (by assumption) | decide | omega, by first | assumption | exact Nat.zero_le _ | exact lt_big (by assumption) (by assumption) | decide | omega⟩]; rfl
theorem idx_tup {xs : List MV} {n : Nat} {v : MV} (h : xs[n]? = some v) (hl : n < 100000) : idxM (.tup xs) (.int n) μ = .ok v μ := by
  show optOut (pick xs (n : Int)) μ = _
  rw [pick_nat hl, h]; rfl
theorem idx_lst {k : Nat} {xs : List MV} {n : Nat} {v : MV} (hk : μ[k]? = some xs) (h : xs[n]? = some v) (hl : n < 100000) : idxM (.lst k) (.int n) μ = .ok v μ := by
  have : idxM (.lst k) (.int n) μ = optOut (pick xs (n : Int)) μ := by rw [idxM_lst, hk]
  rw [this, pick_nat hl, h]; rfl
theorem idx_scr {ns : List Int} {n : Nat} {v : Int} (h : ns[n]? = some v) (hl : n < 100000) : idxM (.scr ns) (.int n) μ = .ok (.int v) μ := by
  show optOut ((pick ns (n : Int)).map .int) μ = _
  rw [pick_nat hl, h]; rfl
@[simp] theorem idx_tup0 (a : MV) (xs : List MV) : idxM (.tup (a :: xs)) (.int 0) μ = .ok a μ := idx_tup (n := 0) rfl (by decide)
@[simp] theorem idx_tup1 (a b : MV) (xs : List MV) : idxM (.tup (a :: b :: xs)) (.int 1) μ = .ok b μ := idx_tup (n := 1) rfl (by decide)
@[simp] theorem idx_tup2 (a b c : MV) (xs : List MV) : idxM (.tup (a :: b :: c :: xs)) (.int 2) μ = .ok c μ := idx_tup (n := 2) rfl (by decide)
@[simp] theorem len_tup1 (a : MV) : lenM [.tup [a]] μ = .ok (.int 1) μ := len_tup (xs := [a]) (by show 1 < 2 ^ 62; decide)
@[simp] theorem len_tup2 (a b : MV) : lenM [.tup [a, b]] μ = .ok (.int 2) μ := len_tup (xs := [a, b]) (by show 2 < 2 ^ 62; decide)
@[simp] theorem len_tup3 (a b c : MV) : lenM [.tup [a, b, c]] μ = .ok (.int 3) μ := len_tup (xs := [a, b, c]) (by show 3 < 2 ^ 62; decide)
theorem cutFrom_tup {xs : List MV} {n : Nat} (hl : xs.length ≤ sizeLine) : cutFrom (.tup xs) (.int n) μ = .ok (.tup (xs.drop n)) μ := by
  exact if_pos ⟨Int.natCast_nonneg n, hl⟩
theorem cutFrom_lst {k : Nat} {xs : List MV} {n : Nat} (hk : μ[k]? = some xs) (hl : xs.length ≤ sizeLine) : cutFrom (.lst k) (.int n) μ = .ok (.lst μ.length) (μ ++ [xs.drop n]) := by
  rw [cutFrom_at, hk]; exact if_pos ⟨Int.natCast_nonneg n, hl⟩
end

/-! loops -/
section
variable {G : MH → Prop} {put : Rho → MV → Rho} {f : DS}
theorem loop_nil {ρ : Rho} {μ : MH} (h : G μ) : loopM G put f [] ρ μ = .ok (.next, ρ) μ := if_pos h
theorem loop_next {v : MV} {vs : List MV} {ρ ρ' : Rho} {μ μ' : MH} (h : G μ) (e : f (put ρ v) μ = .ok (.next, ρ') μ') : loopM G put f (v :: vs) ρ μ = loopM G put f vs ρ' μ' := by rw [loopM_cons, if_pos h, e]; rfl
theorem loop_exc {v : MV} {c : Str} {vs : List MV} {ρ : Rho} {μ μ' : MH} (h : G μ) (e : f (put ρ v) μ = .exc c μ') : loopM G put f (v :: vs) ρ μ = .exc c μ' := by rw [loopM_cons, if_pos h, e]; rfl
/-- a loop that goes through -/
theorem loop_all {its : List MV} (I : Nat → Rho → MH → Prop) (hG : ∀ i ρ μ, I i ρ μ → G μ)
    (step : ∀ i v ρ μ, its[i]? = some v → I i ρ μ → ∃ ρ' μ', f (put ρ v) μ = .ok (.next, ρ') μ' ∧ I (i + 1) ρ' μ') :
    ∀ (j : Nat) (ρ : Rho) (μ : MH), j ≤ its.length → I j ρ μ → ∃ ρ' μ', loopM G put f (its.drop j) ρ μ = .ok (.next, ρ') μ' ∧ I its.length ρ' μ' := by
  intro j
  induction hd : its.length - j generalizing j with
  | zero =>
    intro ρ μ hj hI
    have : j = its.length := by first | assumption | exact Nat.zero_le _ | exact lt_big (by assumption) (by assumption) | decide | omega
    subst this
    rw [List.drop_length]
    exact ⟨ρ, μ, loop_nil (hG _ _ _ hI), hI⟩
  | succ d ih =>
    intro ρ μ hj hI
    have hlt : j < its.length := by first | assumption | exact Nat.zero_le _ | exact lt_big (by assumption) (by assumption) | decide | omega
    rw [List.drop_eq_getElem_cons hlt]
    obtain ⟨ρ', μ', e, hI'⟩ := step j its[j] ρ μ (List.getElem?_eq_getElem hlt) hI
    rw [loop_next (hG _ _ _ hI) e]
    exact ih (j + 1) (by first | assumption | exact Nat.zero_le _ | exact lt_big (by assumption) (by assumption) | decide | omega) ρ' μ' hlt hI'
theorem loop_all0 {its : List MV} (I : Nat → Rho → MH → Prop) (hG : ∀ i ρ μ, I i ρ μ → G μ)
    (step : ∀ i v ρ μ, its[i]? = some v → I i ρ μ → ∃ ρ' μ', f (put ρ v) μ = .ok (.next, ρ') μ' ∧ I (i + 1) ρ' μ') {ρ : Rho} {μ : MH} (h : I 0 ρ μ) : ∃ ρ' μ', loopM G put f its ρ μ = .ok (.next, ρ') μ' ∧ I its.length ρ' μ' := by
  have := loop_all I hG step 0 ρ μ (Nat.zero_le _) h
  rwa [List.drop_zero] at this
/-- goes on, with names and lists such that .. -/
noncomputable def NextTo (o : Out (Fl × Rho)) (Q : Rho → MH → Prop) : Prop := ∃ ρ' μ', o = .ok (.next, ρ') μ' ∧ Q ρ' μ'
@[simp] theorem nextTo_ok {ρ : Rho} {μ : MH} {Q : Rho → MH → Prop} : NextTo (.ok (.next, ρ) μ) Q ↔ Q ρ μ := ⟨fun ⟨_, _, e, h⟩ => by cases e; exact h, fun h => ⟨_, _, rfl, h⟩⟩
/-- a value, and lists such that .. -/
noncomputable def Gives {α : Type} (o : Out α) (Q : α → MH → Prop) : Prop := ∃ a μ', o = .ok a μ' ∧ Q a μ'
@[simp] theorem gives_ok {α : Type} {a : α} {μ : MH} {Q : α → MH → Prop} : Gives (.ok a μ) Q ↔ Q a μ := ⟨fun ⟨_, _, e, h⟩ => by cases e; exact h, fun h => ⟨_, _, rfl, h⟩⟩
theorem loop_rule {its : List MV} {P : Out (Fl × Rho) → Prop} {ρ : Rho} {μ : MH} (I : Nat → Rho → MH → Prop) (hG : ∀ i ρ μ, I i ρ μ → G μ) (h0 : I 0 ρ μ)
    (step : ∀ i v ρ μ, its[i]? = some v → I i ρ μ → NextTo (f (put ρ v) μ) (I (i + 1))) (fin : ∀ ρ' μ', I its.length ρ' μ' → P (.ok (.next, ρ') μ')) : P (loopM G put f its ρ μ) := by
  obtain ⟨ρ', μ', e, h⟩ := loop_all0 I hG step h0
  rw [e]; exact fin ρ' μ' h
end
end Mine

set_option linter.unusedVariables false
namespace Mine.Com
open PySem Mine

inductive St where
  | put (b : Nat) (v : Int)
  | get (b : Nat)
  | fence
noncomputable def St.mv : St → MV
  | .put b v => .tup [.str (Str.ofString "put"), .int b, .int v]
  | .get b => .tup [.str (Str.ofString "get"), .int b]
  | .fence => .tup [.str (Str.ofString "fence")]
noncomputable def big : Int := 1000000000000000000000000000000
noncomputable def St.ok : St → Prop
  | .put b v => b < 4 ∧ -big < v ∧ v < big
  | .get b => b < 4
  | .fence => True
noncomputable def MV.isInt : MV → Bool
  | .int _ => true
  | _ => false
noncomputable def MV.plain : MV → Bool
  | .exc _ => false
  | _ => true

/-! the words of the program -/
section
variable {μ : MH}
@[simp] theorem w_put_fence : eqM (.str (Str.ofString "put")) (.str (Str.ofString "fence")) μ = .ok (.bool false) μ := eq_lit (by decide +kernel) (by decide +kernel) (by decide +kernel)
@[simp] theorem w_put_get : eqM (.str (Str.ofString "put")) (.str (Str.ofString "get")) μ = .ok (.bool false) μ := eq_lit (by decide +kernel) (by decide +kernel) (by decide +kernel)
@[simp] theorem w_get_fence : eqM (.str (Str.ofString "get")) (.str (Str.ofString "fence")) μ = .ok (.bool false) μ := eq_lit (by decide +kernel) (by decide +kernel) (by decide +kernel)
@[simp] theorem w_get_get : eqM (.str (Str.ofString "get")) (.str (Str.ofString "get")) μ = .ok (.bool true) μ := eq_lit (by decide +kernel) (by decide +kernel) (by decide +kernel)
@[simp] theorem w_fence_fence : eqM (.str (Str.ofString "fence")) (.str (Str.ofString "fence")) μ = .ok (.bool true) μ := eq_lit (by decide +kernel) (by decide +kernel) (by decide +kernel)
@[simp] theorem n_put_fence : neM (.str (Str.ofString "put")) (.str (Str.ofString "fence")) μ = .ok (.bool true) μ := ne_lit (by decide +kernel) (by decide +kernel) (by decide +kernel)
@[simp] theorem n_get_fence : neM (.str (Str.ofString "get")) (.str (Str.ofString "fence")) μ = .ok (.bool true) μ := ne_lit (by decide +kernel) (by decide +kernel) (by decide +kernel)
@[simp] theorem n_fence_fence : neM (.str (Str.ofString "fence")) (.str (Str.ofString "fence")) μ = .ok (.bool false) μ := ne_lit (by decide +kernel) (by decide +kernel) (by decide +kernel)
@[simp] theorem n_put_put : neM (.str (Str.ofString "put")) (.str (Str.ofString "put")) μ = .ok (.bool false) μ := ne_lit (by decide +kernel) (by decide +kernel) (by decide +kernel)
end

section
variable {μ : MH}
theorem is_whole_eq (v : MV) (h : MV.plain v = true) : f_is_whole [v] μ = .ok (.bool (MV.isInt v)) μ := by
  cases v <;> first | rfl | cases h
@[simp] theorem is_whole_int (i : Int) : f_is_whole [.int i] μ = .ok (.bool true) μ := is_whole_eq _ rfl
theorem is_box_int (i : Int) : f_is_box [.int i] μ = .ok (.bool (decide (0 ≤ i ∧ i < 4))) μ := by
  simp [f_is_box, ev_def, d_is_box, ev_var]
  by_cases h : 0 ≤ i <;> simp [h]
end

/-! webs -/
structure WebAt (μ : MH) (k : Nat) (rs : List Nat) (W : List (List St)) : Prop where
  top : μ[k]? = some (rs.map .lst)
  len : rs.length = W.length
  row : ∀ (i r : Nat) (row : List St), rs[i]? = some r → W[i]? = some row → μ[r]? = some (row.map St.mv)
theorem get_pre {α : Type} {a b : List α} (h : a <+: b) {k : Nat} {x : α} (e : a[k]? = some x) : b[k]? = some x := by
  obtain ⟨t, rfl⟩ := h
  rw [List.getElem?_append_left (List.getElem?_eq_some_iff.mp e).1]; exact e
theorem WebAt.mono {μ μ' : MH} {k : Nat} {rs : List Nat} {W : List (List St)} (x : WebAt μ k rs W) (h : μ <+: μ') : WebAt μ' k rs W := ⟨get_pre h x.top, x.len, fun i r row h1 h2 => get_pre h (x.row i r row h1 h2)⟩
noncomputable def St.isFence : St → Bool
  | .fence => true
  | _ => false
noncomputable def deeds (row : List St) : Nat := (row.filter fun s => !s.isFence).length
structure WebOk (W : List (List St)) : Prop where
  one : 1 ≤ W.length
  three : W.length ≤ 3
  ok : ∀ row ∈ W, ∀ s ∈ row, s.ok
  small : ∀ row ∈ W, row.length ≤ 100
  few : (W.map deeds).sum ≤ 8

theorem map_get {α β : Type} {f : α → β} {l : List α} {i : Nat} {v : β} (h : (l.map f)[i]? = some v) : ∃ a, l[i]? = some a ∧ v = f a := by
  rw [List.getElem?_map] at h
  obtain ⟨a, h1, h2⟩ := Option.map_eq_some_iff.mp h
  exact ⟨a, h1, h2.symm⟩

section
variable {μ : MH}
noncomputable def St.kind : St → MV
  | .put _ _ => .str (Str.ofString "put")
  | .get _ => .str (Str.ofString "get")
  | .fence => .str (Str.ofString "fence")
end
end Mine.Com

set_option linter.unusedVariables false
set_option linter.unusedSimpArgs false
namespace Mine.Com
open PySem Mine

structure S where
  done : List Nat
  lines : List (List (Nat × Int))
  boxes : List Int
  got : List (List Int)
noncomputable def intMv (n : Nat) : MV := .int n
noncomputable def pairMv (p : Nat × Int) : MV := .tup [.int p.1, .int p.2]
noncomputable def lineMv (l : List (Nat × Int)) : MV := .tup (l.map pairMv)
noncomputable def gotMv (l : List Int) : MV := .tup (l.map .int)
noncomputable def S.mv (s : S) : MV := .tup [.tup (s.done.map intMv), .tup (s.lines.map lineMv), .tup (s.boxes.map .int), .tup (s.got.map gotMv)]
noncomputable def S0 (n : Nat) : S := ⟨List.replicate n 0, List.replicate n [], [0, 0, 0, 0], List.replicate n []⟩
section
variable {μ : MH} {ρ : Rho}
@[simp] theorem get_last (xs : List MV) : (μ ++ [xs])[List.length μ]? = some xs := by simp
theorem tuple_lst {k : Nat} {xs : List MV} (h : μ[k]? = some xs) (hl : xs.length ≤ 1000) : tupleM [.lst k] μ = .ok (.tup xs) μ := by
  rw [tupleM_lst, h]
  exact if_pos (by unfold sizeLine; omega)
theorem pre_app (μ : MH) (xs : List (List MV)) : μ <+: μ ++ xs := List.prefix_append ..
end
end Mine.Com

set_option linter.unusedVariables false
set_option linter.unusedSimpArgs false
namespace Mine.Com
open PySem Mine

section
variable {μ : MH} {ρ : Rho}
end
end Mine.Com

set_option linter.unusedVariables false
set_option linter.unusedSimpArgs false
namespace Mine.Com
open PySem Mine

section
variable {μ : MH} {ρ : Rho} {k : Nat} {rs : List Nat} {W : List (List St)} {s : S}

/-! moves -/
end
end Mine.Com

set_option linter.unusedVariables false
set_option linter.unusedSimpArgs false
namespace Mine.Com
open PySem Mine

section
variable {μ : MH} {ρ : Rho} {k : Nat} {rs : List Nat} {W : List (List St)} {s : S}

end
end Mine.Com

set_option linter.unusedVariables false
set_option linter.unusedSimpArgs false
namespace Mine
open PySem

/-! comprehensions -/
section
variable {G : MH → Prop} {put : Rho → MV → Rho} {c e : D} {k : Nat} {ρ : Rho}
theorem comp_nil {μ : MH} (h : G μ) : compM G put c e k [] ρ μ = .ok (.lst k) μ := if_pos h
theorem comp_yes {v x : MV} {vs xs : List MV} {μ μ₁ μ₂ : MH} (h : G μ) (e1 : c (put ρ v) μ = .ok (.bool true) μ₁) (e2 : e (put ρ v) μ₁ = .ok x μ₂) (hk : μ₂[k]? = some xs) (hl : xs.length ≤ 1000) :
    compM G put c e k (v :: vs) ρ μ = compM G put c e k vs ρ (μ₂.set k (xs ++ [x])) := by
  have hl' : xs.length ≤ sizeLine := by unfold sizeLine; omega
  rw [compM_cons, if_pos h, e1]
  simp only [Out.bind_ok, e2, hk]
  rw [if_pos hl']
theorem comp_no {v : MV} {vs : List MV} {μ μ₁ : MH} (h : G μ) (e1 : c (put ρ v) μ = .ok (.bool false) μ₁) : compM G put c e k (v :: vs) ρ μ = compM G put c e k vs ρ μ₁ := by
  rw [compM_cons, if_pos h, e1]
  simp only [Out.bind_ok]
theorem comp_rule {its : List MV} {P : Out MV → Prop} {μ : MH} (I : Nat → List MV → MH → Prop) (hG : ∀ i acc μ, I i acc μ → G μ) (hk : ∀ i acc μ, I i acc μ → acc.length ≤ 1000) (h0 : I 0 [] μ)
    (step : ∀ i v acc μ, its[i]? = some v → I i acc μ → (∃ μ₁ x μ₂, c (put ρ v) μ = .ok (.bool true) μ₁ ∧ e (put ρ v) μ₁ = .ok x μ₂ ∧ μ₂[k]? = some acc ∧ I (i + 1) (acc ++ [x]) (μ₂.set k (acc ++ [x]))) ∨ (∃ μ₁, c (put ρ v) μ = .ok (.bool false) μ₁ ∧ I (i + 1) acc μ₁))
    (fin : ∀ acc μ, I its.length acc μ → P (.ok (.lst k) μ)) : P (compM G put c e k its ρ μ) := by
  suffices ∀ (j : Nat) (acc : List MV) (μ : MH), j ≤ its.length → I j acc μ → P (compM G put c e k (its.drop j) ρ μ) by
    have := this 0 [] μ (Nat.zero_le _) h0
    rwa [List.drop_zero] at this
  intro j
  induction hd : its.length - j generalizing j with
  | zero =>
    intro acc μ hj hI
    have : j = its.length := by first | assumption | exact Nat.zero_le _ | exact lt_big (by assumption) (by assumption) | decide | omega
    subst this
    rw [List.drop_length, comp_nil (hG _ _ _ hI)]
    exact fin acc μ hI
  | succ d ih =>
    intro acc μ hj hI
    have hlt : j < its.length := by first | assumption | exact Nat.zero_le _ | exact lt_big (by assumption) (by assumption) | decide | omega
    rw [List.drop_eq_getElem_cons hlt]
    rcases step j its[j] acc μ (List.getElem?_eq_getElem hlt) hI with ⟨μ₁, x, μ₂, e1, e2, h3, hI'⟩ | ⟨μ₁, e1, hI'⟩
    · rw [comp_yes (hG _ _ _ hI) e1 e2 h3 (hk _ _ _ hI)]
      exact ih (j + 1) (by first | assumption | exact Nat.zero_le _ | exact lt_big (by assumption) (by assumption) | decide | omega) _ _ hlt hI'
    · rw [comp_no (hG _ _ _ hI) e1]
      exact ih (j + 1) (by first | assumption | exact Nat.zero_le _ | exact lt_big (by assumption) (by assumption) | decide | omega) _ _ hlt hI'
end

theorem pre_set {α : Type} {a b : List α} {k : Nat} {x : α} (h : a <+: b) (hk : a.length ≤ k) : a <+: b.set k x := by
  obtain ⟨t, rfl⟩ := h
  rw [List.set_append_right _ _ hk]
  exact List.prefix_append ..
theorem get_set_self {α : Type} {l : List α} {k : Nat} {x y : α} (h : l[k]? = some x) : (l.set k y)[k]? = some y := by
  rw [List.getElem?_set_self (List.getElem?_eq_some_iff.mp h).1]
theorem get_set_ne {α : Type} {l : List α} {k j : Nat} {y : α} (h : k ≠ j) : (l.set k y)[j]? = l[j]? := List.getElem?_set_ne h

/-! comparing plain data -/
/-- data with no list in it -/
noncomputable def Flat (v : MV) : Prop := ∃ p, p.canLay0 = true ∧ ∀ μ, toPy μ 7 v = some p
theorem mapM_flat {μ : MH} : ∀ {xs : List MV}, (∀ x ∈ xs, Flat x) → ∃ ps, xs.mapM (toPy μ 7) = some ps ∧ PyData.canLayAll0 ps = true ∧ ps.length = xs.length
  | [], _ => ⟨[], rfl, rfl, rfl⟩
  | x :: xs, h => by
    obtain ⟨p, hp, e⟩ := h x List.mem_cons_self
    obtain ⟨ps, e2, h2, h3⟩ := mapM_flat (μ := μ) (xs := xs) fun y hy => h y (List.mem_cons_of_mem _ hy)
    refine ⟨p :: ps, ?_, by simp [PyData.canLayAll0, hp, h2], by simp [h3]⟩
    simp [List.mapM_cons, e μ, e2]
theorem toPy_lst {μ : MH} {k : Nat} {xs : List MV} {ps : List PyData} (h : μ[k]? = some xs) (e : xs.mapM (toPy μ 7) = some ps) : toPy μ 8 (.lst k) = some (.list ps) := by
  show (match μ[k]? with | some xs => (xs.mapM (toPy μ 7)).map PyData.list | none => none) = _
  rw [h]
  show (xs.mapM (toPy μ 7)).map PyData.list = _
  rw [e]; rfl
theorem ne_nil {μ : MH} {k j : Nat} {xs : List MV} (h : μ[k]? = some xs) (hj : μ[j]? = some []) (hf : ∀ x ∈ xs, Flat x) : neM (.lst k) (.lst j) μ = .ok (.bool (decide (0 < xs.length))) μ := by
  obtain ⟨ps, e1, h1, h2⟩ := mapM_flat (μ := μ) hf
  rw [neM, toPy_lst h e1, toPy_lst (ps := []) hj rfl]
  simp only [PyData.canLay0, h1, PyData.canLayAll0, Bool.and_self, if_true]
  cases ps with
  | nil => simp at h2; simp [PyData.eqv, PyData.eqvAll, ← h2]
  | cons p r => simp at h2; simp [PyData.eqv, PyData.eqvAll]; omega
mutual
theorem eqv_refl : ∀ p : PyData, p.canLay0 = true → PyData.eqv p p = true
  | .none, _ => rfl
  | .bool b, _ => by simp [PyData.eqv]
  | .int i, _ => by simp [PyData.eqv]
  | .str x, _ => by simp [PyData.eqv]
  | .list xs, h => by
    rw [PyData.canLay0] at h
    rw [PyData.eqv]; exact eqvAll_refl xs h
  | .tuple xs, h => by
    rw [PyData.canLay0] at h
    rw [PyData.eqv]; exact eqvAll_refl xs h
  | .dict _, h => by simp [PyData.canLay0] at h
theorem eqvAll_refl : ∀ ps : List PyData, PyData.canLayAll0 ps = true → PyData.eqvAll ps ps = true
  | [], _ => rfl
  | p :: r, h => by
    rw [PyData.canLayAll0, Bool.and_eq_true] at h
    rw [PyData.eqvAll, eqv_refl p h.1, eqvAll_refl r h.2]; rfl
end
end Mine

namespace Mine.Com
open PySem Mine
end Mine.Com

set_option linter.unusedVariables false
set_option linter.unusedSimpArgs false
namespace Mine.Com
open PySem Mine

section
variable {μ : MH} {ρ : Rho} {k o a b : Nat} {rs ls done : List Nat} {W : List (List St)} {lines : List (List MV)}

theorem cell_at_eq {ns : List Int} {n : Nat} (hl : ns.length ≤ 1000) (hn : n < 10000) : f__law_cell_at [.scr ns, .int n] μ = .ok (.int (ns[n]?.getD 0)) μ := by
  have hlen : lenM [.scr ns] μ = .ok (.int ns.length) μ := by
    exact if_pos (show ns.length < 2 ^ 62 by first | assumption | exact Nat.zero_le _ | exact lt_big (by assumption) (by assumption) | decide | omega)
  rw [f__law_cell_at, ev_def (k := 2) rfl]
  by_cases h : n < ns.length
  · have hi := idx_scr (μ := μ) (List.getElem?_eq_getElem h) (by first | assumption | exact Nat.zero_le _ | exact lt_big (by assumption) (by assumption) | decide | omega)
    have h' : (n : Int) < ns.length := by first | assumption | exact Nat.zero_le _ | exact lt_big (by assumption) (by assumption) | decide | omega
    simp [d__law_cell_at, ev_var, hlen, h, hi]
  · have h' : ¬ (n : Int) < ns.length := by first | assumption | exact Nat.zero_le _ | exact lt_big (by assumption) (by assumption) | decide | omega
    simp [d__law_cell_at, ev_var, hlen, h]

end
end Mine.Com

set_option linter.unusedVariables false
set_option linter.unusedSimpArgs false
namespace Mine
open PySem

theorem take_filter {α : Type} {l : List α} {i : Nat} {x : α} (h : l[i]? = some x) (p : α → Bool) : (l.take (i + 1)).filter p = (l.take i).filter p ++ if p x then [x] else [] := by
  have hlt := (List.getElem?_eq_some_iff.mp h).1
  have he := (List.getElem?_eq_some_iff.mp h).2
  rw [List.take_succ_eq_append_getElem hlt, he, List.filter_append]
  cases hp : p x <;> simp [hp]

/-- a comprehension whose values hang on no list made on the way -/
theorem comp_filter {α : Type} {G : MH → Prop} {put : Rho → MV → Rho} {c e : D} {ρ : Rho} {μ₀ : MH} (xs : List α) (emb : α → MV) (b : α → Bool) (g : α → MV)
    (hc : ∀ x ∈ xs, ∀ μ, μ₀ <+: μ → ∃ μ', c (put ρ (emb x)) μ = .ok (.bool (b x)) μ' ∧ μ <+: μ') (he : ∀ x ∈ xs, ∀ μ, μ₀ <+: μ → ∃ μ', e (put ρ (emb x)) μ = .ok (g x) μ' ∧ μ <+: μ') (hG : ∀ μ, μ₀ <+: μ → G μ) (hl : xs.length ≤ 1000) :
    ∃ μ', compM G put c e μ₀.length (xs.map emb) ρ (μ₀ ++ [[]]) = .ok (.lst μ₀.length) μ' ∧ μ₀ <+: μ' ∧ μ'[μ₀.length]? = some ((xs.filter b).map g) := by
  refine comp_rule (P := fun o => ∃ μ', o = .ok (.lst μ₀.length) μ' ∧ μ₀ <+: μ' ∧ μ'[μ₀.length]? = some ((xs.filter b).map g)) (fun i acc μ => μ₀ <+: μ ∧ μ[μ₀.length]? = some acc ∧ acc = ((xs.take i).filter b).map g) (fun i acc μ h => hG μ h.1) (fun i acc μ h => ?_) ⟨List.prefix_append .., by simp, by simp⟩ ?_ ?_
  · rw [h.2.2, List.length_map]
    have := List.length_filter_le b (xs.take i)
    have := List.length_take_le i xs
    have := List.length_take (i := i) (l := xs)
    omega
  · rintro i v acc μ hv ⟨h1, h2, rfl⟩
    rw [List.getElem?_map] at hv
    obtain ⟨x, hx, rfl⟩ := Option.map_eq_some_iff.mp hv
    have hm := List.mem_of_getElem? hx
    obtain ⟨μ₁, e1, p1⟩ := hc x hm μ h1
    have htf := take_filter hx b
    cases hb : b x with
    | true =>
      obtain ⟨μ₂, e2, p2⟩ := he x hm μ₁ (h1.trans p1)
      rw [hb] at e1 htf
      have hk := Com.get_pre (p1.trans p2) h2
      refine .inl ⟨μ₁, g x, μ₂, e1, e2, hk, pre_set ((h1.trans p1).trans p2) (Nat.le_refl _), get_set_self hk, ?_⟩
      rw [htf]; simp
    | false =>
      rw [hb] at e1 htf
      refine .inr ⟨μ₁, e1, h1.trans p1, Com.get_pre p1 h2, ?_⟩
      rw [htf]; simp
  · rintro acc μ ⟨h1, h2, rfl⟩
    rw [List.length_map, List.take_length] at h2
    exact ⟨μ, rfl, h1, h2⟩
end Mine

namespace Mine.Com
open PySem Mine
section
variable {μ : MH} {ρ : Rho} {k o a b : Nat} {rs ls done : List Nat} {W : List (List St)} {lines : List (List MV)}
theorem range0 (n : Nat) : rangeL 0 (n : Int) = (List.range n).map intMv := by
  unfold rangeL intMv
  simp

end
end Mine.Com

set_option linter.unusedVariables false
set_option linter.unusedSimpArgs false
namespace Mine.Com
open PySem Mine

/-- n new lists, in a list of their own -/
theorem comp_new {G : MH → Prop} {ρ : Rho} {i : Nat} {μ₀ : MH} {its : List MV} (hG : ∀ μ, μ₀ <+: μ → G μ) (hl : its.length ≤ 1000) :
    compM G (putAt i) (dConst (.bool true)) (dList dNil) μ₀.length its ρ (μ₀ ++ [[]]) = .ok (.lst μ₀.length) (μ₀ ++ [((List.range its.length).map fun j => MV.lst (μ₀.length + 1 + j))] ++ List.replicate its.length []) := by
  refine comp_rule (P := fun o => o = _) (fun j acc μ => j ≤ its.length ∧ acc = (List.range j).map (fun j => MV.lst (μ₀.length + 1 + j)) ∧ μ = μ₀ ++ [(List.range j).map fun j => MV.lst (μ₀.length + 1 + j)] ++ List.replicate j []) (fun j acc μ h => ?_) (fun j acc μ h => ?_) ⟨by first | assumption | exact Nat.zero_le _ | exact lt_big (by assumption) (by assumption) | decide | omega, by simp, by simp⟩ ?_ ?_
  · rw [h.2.2, List.append_assoc]; exact hG _ (pre_app _ _)
  · rw [h.2.1]; simp; omega
  · rintro j v acc μ hv ⟨h1, rfl, rfl⟩
    have hlt := (List.getElem?_eq_some_iff.mp hv).1
    refine .inl ⟨_, .lst (μ₀.length + 1 + j), μ₀ ++ [(List.range j).map fun j => MV.lst (μ₀.length + 1 + j)] ++ List.replicate j [] ++ [[]], rfl, ?_, ?_, by first | assumption | exact Nat.zero_le _ | exact lt_big (by assumption) (by assumption) | decide | omega, ?_, ?_⟩
    · simp only [ev_list, ev_nil, listK_ok]
      congr 2
      simp; omega
    · simp
    · simp [List.range_succ]
    · simp [List.range_succ, List.set_append_right, List.replicate_succ']
  · rintro acc μ ⟨h1, rfl, rfl⟩
    rfl

/-- the ids of a web's rows, made one behind another -/
noncomputable def ids (K n : Nat) : List Nat := (List.range n).map fun j => K + 1 + j
theorem ids_get {K n i : Nat} (h : i < n) : (ids K n)[i]? = some (K + 1 + i) := by simp [ids, h]
theorem ids_len (K n : Nat) : (ids K n).length = n := by simp [ids]
theorem ids_inv {K n i r : Nat} (h : (ids K n)[i]? = some r) : i < n ∧ r = K + 1 + i := by
  have := (List.getElem?_eq_some_iff.mp h).1
  rw [ids_len] at this
  rw [ids_get this] at h
  exact ⟨this, (Option.some.inj h).symm⟩

theorem web_new (μ₀ : MH) (n : Nat) : WebAt (μ₀ ++ [((List.range n).map fun j => MV.lst (μ₀.length + 1 + j))] ++ List.replicate n []) μ₀.length (ids μ₀.length n) (List.replicate n []) := by
  refine ⟨?_, by simp [ids_len], fun i r row h1 h2 => ?_⟩
  · rw [List.append_assoc, List.getElem?_append_right (Nat.le_refl _)]
    simp [ids]
  · obtain ⟨hi, rfl⟩ := ids_inv h1
    have h2' : row = [] := by
      rw [List.getElem?_replicate, if_pos hi] at h2; exact (Option.some.inj h2).symm
    subst h2'
    rw [List.append_assoc, List.getElem?_append_right (by first | assumption | exact Nat.zero_le _ | exact lt_big (by assumption) (by assumption) | decide | omega)]
    have : μ₀.length + 1 + i - μ₀.length = i + 1 := by first | assumption | exact Nat.zero_le _ | exact lt_big (by assumption) (by assumption) | decide | omega
    rw [this]
    simp [hi]

theorem WebAt.append {μ : MH} {K n h : Nat} {W : List (List St)} {row : List St} {st : St} (x : WebAt μ K (ids K n) W) (hh : W[h]? = some row) : WebAt (μ.set (K + 1 + h) (row.map St.mv ++ [st.mv])) K (ids K n) (W.set h (row ++ [st])) := by
  have hn : n = W.length := by rw [← x.len, ids_len]
  have hlt := (List.getElem?_eq_some_iff.mp hh).1
  refine ⟨?_, by rw [ids_len]; simp [hn], fun i r row' h1 h2 => ?_⟩
  · rw [get_set_ne (by first | assumption | exact Nat.zero_le _ | exact lt_big (by assumption) (by assumption) | decide | omega)]; exact x.top
  · obtain ⟨hi, rfl⟩ := ids_inv h1
    by_cases he : h = i
    · subst he
      rw [get_set_self hh] at h2
      cases h2
      rw [get_set_self (x.row h _ row (ids_get hi) hh)]
      simp
    · rw [get_set_ne he] at h2
      rw [get_set_ne (by first | assumption | exact Nat.zero_le _ | exact lt_big (by assumption) (by assumption) | decide | omega)]
      exact x.row i _ row' h1 h2

noncomputable def total (W : List (List St)) : Nat := (W.map List.length).sum
theorem total_set {W : List (List St)} {h : Nat} {row : List St} {st : St} (hh : W[h]? = some row) : total (W.set h (row ++ [st])) = total W + 1 := by
  induction W generalizing h with
  | nil => simp at hh
  | cons r W ih =>
    cases h with
    | zero => simp at hh; subst hh; simp [total]; omega
    | succ h => simp at hh; have := ih hh; simp [total] at this ⊢; omega
theorem deeds_le (row : List St) : deeds row ≤ row.length := List.length_filter_le _ _
theorem sum_deeds_le : ∀ W : List (List St), (W.map deeds).sum ≤ total W
  | [] => by simp [total]
  | r :: W => by
    have := sum_deeds_le W
    have := deeds_le r
    simp [total] at *; omega
theorem row_le_total : ∀ {W : List (List St)} {row : List St}, row ∈ W → row.length ≤ total W
  | r :: W, row, h => by
    rcases List.mem_cons.mp h with rfl | h
    · simp [total]
    · have := row_le_total h; simp [total] at *; omega
theorem webOk_of {W : List (List St)} (h1 : 1 ≤ W.length) (h3 : W.length ≤ 3) (h8 : total W ≤ 8) (ok : ∀ row ∈ W, ∀ s ∈ row, s.ok) : WebOk W :=
  ⟨h1, h3, ok, fun row hr => by have := row_le_total hr; omega, by have := sum_deeds_le W; omega⟩
theorem mem_set_append {W : List (List St)} {h : Nat} {row : List St} {st : St} (ok : ∀ row ∈ W, ∀ s ∈ row, s.ok) (hh : W[h]? = some row) (hs : st.ok) : ∀ r ∈ W.set h (row ++ [st]), ∀ s ∈ r, s.ok := by
  intro r hr s hsr
  rcases List.mem_or_eq_of_mem_set hr with hr | rfl
  · exact ok r hr s hsr
  · rcases List.mem_append.mp hsr with q | q
    · exact ok row (List.mem_of_getElem? hh) s q
    · simp at q; subst q; exact hs

theorem fmod_nn (a : Int) {b : Int} (h : 0 < b) : 0 ≤ a.fmod b ∧ a.fmod b < b := ⟨Int.fmod_nonneg_of_pos a h, Int.fmod_lt_of_pos a h⟩
end Mine.Com

set_option linter.unusedVariables false
set_option linter.unusedSimpArgs false
namespace Mine.Com
open PySem Mine

noncomputable def dWebBy (dv : Int) (fs : List MV → MH → Out MV) : DS := (dSeq (dAssign 1 (dCall f__law_cell_at (dCons (dVar 0) (dCons (dConst (.int 0)) dNil)))) (dSeq (dAssign 2 (dComp (iRange1 (dBin addM (dConst (.int 1)) (dBin fmodM (dVar 1) (dConst (.int 3))))) (dConst (.bool true)) (dList dNil) 5)) (dSeq (dFor (iRange1 (dBin fmodM (dBin fdivM (dVar 1) (dConst (.int 3))) (dConst (.int 9)))) (putAt 3) (dSeq (dAssign 4 (dCall f__law_cell_at (dCons (dVar 0) (dCons (dBin addM (dConst (.int 2)) (dVar 3)) dNil)))) (dSeq (dExpr (dAppend (dBin idxM (dVar 2) (dBin fmodM (dBin fdivM (dVar 4) (dConst (.int dv))) (dCall lenM (dCons (dVar 2) dNil)))) (dCall fs (dCons (dBin addM (dVar 4) (dBin mulM (dConst (.int 3)) (dVar 3))) dNil)))) dSkip))) (dSeq (dRet (dVar 2)) dSkip))))

section
variable {μ : MH} {ρ : Rho}
theorem mul3 {n : Nat} (h : n ≤ 100) : mulM (.int 3) (.int n) μ = .ok (.int (3 * n)) μ := by
  exact if_pos (IntMulOk.of_left (by decide +kernel))

theorem web_by_eq2 {dv : Int} {fs : List MV → MH → Out MV} {stp : Int → St} {ns : List Int} (hdv : 0 < dv ∧ dv < 2 ^ 30) (hst2 : ∀ (i : Nat) (μ : MH), i < 9 → fs [.int (ns[2 + i]?.getD 0 + 3 * (i : Int))] μ = .ok (stp (ns[2 + i]?.getD 0 + 3 * (i : Int))).mv μ) (hso2 : ∀ i : Nat, i < 9 → (stp (ns[2 + i]?.getD 0 + 3 * (i : Int))).ok) (hns : ns.length ≤ 1000) :
    ∃ μ' W, dDef 1 (dWebBy dv fs) [.scr ns] μ = .ok (.lst μ.length) μ' ∧ μ <+: μ' ∧ WebAt μ' μ.length (ids μ.length W.length) W ∧ WebOk W ∧ total W ≤ 8 := by
  have c0 := cell_at_eq (μ := μ) (n := 0) hns (by first | assumption | exact Nat.zero_le _ | exact lt_big (by assumption) (by assumption) | decide | omega)
  obtain ⟨f0, f1⟩ := fmod_nn (ns[0]?.getD 0) (b := 3) (by first | assumption | exact Nat.zero_le _ | exact lt_big (by assumption) (by assumption) | decide | omega)
  obtain ⟨n, hn⟩ : ∃ n : Nat, (ns[0]?.getD 0).fmod 3 = (n : Int) := ⟨((ns[0]?.getD 0).fmod 3).toNat, by first | assumption | exact Nat.zero_le _ | exact lt_big (by assumption) (by assumption) | decide | omega⟩
  obtain ⟨g0, g1⟩ := fmod_nn ((ns[0]?.getD 0).fdiv 3) (b := 9) (by first | assumption | exact Nat.zero_le _ | exact lt_big (by assumption) (by assumption) | decide | omega)
  obtain ⟨m, hm⟩ : ∃ m : Nat, ((ns[0]?.getD 0).fdiv 3).fmod 9 = (m : Int) := ⟨(((ns[0]?.getD 0).fdiv 3).fmod 9).toNat, by first | assumption | exact Nat.zero_le _ | exact lt_big (by assumption) (by assumption) | decide | omega⟩
  suffices h : Gives (dDef 1 (dWebBy dv fs) [.scr ns] μ) (fun v μ' => v = .lst μ.length ∧ ∃ W, μ <+: μ' ∧ WebAt μ' μ.length (ids μ.length W.length) W ∧ WebOk W ∧ total W ≤ 8) by
    obtain ⟨v, μ', e, rfl, W, h⟩ := h
    exact ⟨μ', W, e, h⟩
  rw [ev_def (k := 1) rfl]
  have hr1 : rangeL 0 (1 + (n : Int)) = (List.range (1 + n)).map intMv := by rw [← range0]; rfl
  have cn := comp_new (μ₀ := μ) (G := fun _ => True) (i := 5) (its := (List.range (1 + n)).map intMv) (ρ := Rho.set (fun i => [MV.scr ns][i]?) 1 (.int (ns[0]?.getD 0))) (fun _ _ => trivial) (by simp; omega)
  simp only [List.length_map, List.length_range] at cn
  have c0' : f__law_cell_at [.scr ns, .int 0] μ = .ok (.int (ns[0]?.getD 0)) μ := c0
  simp only [dWebBy, ev_seq, ev_assign, ev_call, ev_cons, ev_const, ev_nil, ev_var (show (fun i => [MV.scr ns][i]?) 0 = some (.scr ns) from rfl), consK_ok, consK2_ok, Out.bind_ok, c0', asgK_ok, seqK_next, ev_comp, ev_rng1, ev_bin, binK_ok, ev_var (rho_set_self ..), binK2_ok, fmod_int _ (show (3 : Int) ≠ 0 by decide), hn, add_int,
    rngK_ok (show -(2 ^ 62) ≤ 1 + (n : Int) ∧ 1 + (n : Int) < 2 ^ 62 by first | assumption | exact Nat.zero_le _ | exact lt_big (by assumption) (by assumption) | decide | omega), hr1, compK_ok, cn, ev_for]
  have r1 : ∀ x, (Rho.set (Rho.set (fun i => [MV.scr ns][i]?) 1 (.int (ns[0]?.getD 0))) 2 x) 1 = some (.int (ns[0]?.getD 0)) := fun x => by simp
  simp only [ev_rng1, ev_bin, ev_var (r1 _), binK_ok, ev_const, binK2_ok, fdiv_int _ (show (0 : Int) < 3 ∧ (3 : Int) < 2 ^ 30 by decide), fmod_int _ (show (9 : Int) ≠ 0 by decide), hm, rngK_ok (show -(2 ^ 62) ≤ (m : Int) ∧ (m : Int) < 2 ^ 62 by first | assumption | exact Nat.zero_le _ | exact lt_big (by assumption) (by assumption) | decide | omega), range0, forK_ok]
  refine loop_rule (P := fun o => Gives (defK (seqK o _)) _) (fun i ρ μ' => μ <+: μ' ∧ ρ 0 = some (.scr ns) ∧ ρ 2 = some (.lst μ.length) ∧ ∃ W : List (List St), W.length = 1 + n ∧ WebAt μ' μ.length (ids μ.length W.length) W ∧ total W = i ∧ ∀ row ∈ W, ∀ s ∈ row, s.ok)
    (fun _ _ _ _ => trivial) ⟨by rw [List.append_assoc]; exact pre_app _ _, by simp, by simp, List.replicate (1 + n) [], by simp, by rw [List.length_replicate]; exact web_new μ (1 + n), by simp [total], fun row hr s hs => ?_⟩ ?_ ?_
  · simp at hr; rw [hr] at hs; cases hs
  · rintro i v ρ μ' hv ⟨hp, h0, h2, W, hWl, hW, htot, hok⟩
    obtain ⟨y, hy, rfl⟩ := map_get hv
    obtain ⟨hlt, rfl⟩ : i < m ∧ y = i := by
      rw [List.getElem?_eq_some_iff] at hy
      obtain ⟨q, e⟩ := hy
      simp at q e; exact ⟨q, e.symm⟩
    have c2 : f__law_cell_at [.scr ns, .int (2 + (y : Int))] μ' = .ok (.int (ns[2 + y]?.getD 0)) μ' := cell_at_eq (n := 2 + y) hns (by first | assumption | exact Nat.zero_le _ | exact lt_big (by assumption) (by assumption) | decide | omega)
    have hlen : lenM [.lst μ.length] μ' = .ok (.int (W.length : Int)) μ' := by
      rw [len_lst hW.top (by simp [ids_len]; omega)]; simp [ids_len]
    have hst := fun μ => hst2 y μ (by first | assumption | exact Nat.zero_le _ | exact lt_big (by assumption) (by assumption) | decide | omega)
    have hso := hso2 y (by first | assumption | exact Nat.zero_le _ | exact lt_big (by assumption) (by assumption) | decide | omega)
    generalize ns[2 + y]?.getD 0 = cell at c2 hst hso
    obtain ⟨q0, q1⟩ := fmod_nn (cell.fdiv dv) (b := (W.length : Int)) (by first | assumption | exact Nat.zero_le _ | exact lt_big (by assumption) (by assumption) | decide | omega)
    obtain ⟨h, hh⟩ : ∃ h : Nat, (cell.fdiv dv).fmod (W.length : Int) = (h : Int) := ⟨((cell.fdiv dv).fmod (W.length : Int)).toNat, by first | assumption | exact Nat.zero_le _ | exact lt_big (by assumption) (by assumption) | decide | omega⟩
    rw [hh] at q1
    have hhl : h < W.length := by first | assumption | exact Nat.zero_le _ | exact lt_big (by assumption) (by assumption) | decide | omega
    have hrow : W[h]? = some W[h] := List.getElem?_eq_getElem hhl
    have hid : (ids μ.length W.length)[h]? = some (μ.length + 1 + h) := ids_get (by first | assumption | exact Nat.zero_le _ | exact lt_big (by assumption) (by assumption) | decide | omega)
    have hix : idxM (.lst μ.length) (.int h) μ' = .ok (.lst (μ.length + 1 + h)) μ' := idx_lst hW.top (by rw [List.getElem?_map, hid]; rfl) (by first | assumption | exact Nat.zero_le _ | exact lt_big (by assumption) (by assumption) | decide | omega)
    have hat := hW.row h _ _ hid hrow
    have hrl : W[h].length ≤ 8 := by have := row_le_total (List.getElem_mem hhl); omega
    have hsz : (W[h].map St.mv).length ≤ sizeLine := by simp; unfold sizeLine; omega
    have hne : (W.length : Int) ≠ 0 := by first | assumption | exact Nat.zero_le _ | exact lt_big (by assumption) (by assumption) | decide | omega
    simp [putAt, ev_var, intMv, h0, h2, c2, fdiv_int _ hdv, hlen, fmod_int _ hne, hh, hix, mul3 (show y ≤ 100 by first | assumption | exact Nat.zero_le _ | exact lt_big (by assumption) (by assumption) | decide | omega), hst, appK2_ok hat hsz]
    refine ⟨pre_set hp (by first | assumption | exact Nat.zero_le _ | exact lt_big (by assumption) (by assumption) | decide | omega), W.set h (W[h] ++ [stp (cell + 3 * y)]), by simpa using hWl, ?_, by rw [total_set hrow, htot], mem_set_append hok hrow hso⟩
    rw [List.length_set]
    exact hW.append hrow
  · rintro ρ μ' ⟨hp, h0, h2, W, hWl, hW, htot, hok⟩
    rw [List.length_map, List.length_range] at htot
    simp [ev_var h2]
    refine ⟨hp, W, hW, webOk_of (by first | assumption | exact Nat.zero_le _ | exact lt_big (by assumption) (by assumption) | decide | omega) (by first | assumption | exact Nat.zero_le _ | exact lt_big (by assumption) (by assumption) | decide | omega) (by first | assumption | exact Nat.zero_le _ | exact lt_big (by assumption) (by assumption) | decide | omega) hok, by first | assumption | exact Nat.zero_le _ | exact lt_big (by assumption) (by assumption) | decide | omega⟩
end
end Mine.Com

set_option linter.unusedVariables false
set_option linter.unusedSimpArgs false
namespace Mine.Com
open PySem Mine

/-! the machine, in numbers: steps done, and how many puts wait -/
structure Ab where
  done : List Nat
  ll : List Nat
noncomputable def S.ab (s : S) : Ab := ⟨s.done, s.lines.map List.length⟩
section
variable {μ : MH}
end
end Mine.Com

set_option linter.unusedVariables false
set_option linter.unusedSimpArgs false
namespace Mine.Com
open PySem Mine

section
variable {μ : MH} {B n o h : Nat} {done done' : List Nat} {lines : List (List MV)} {new : List MV}
end
end Mine.Com

set_option linter.unusedVariables false
set_option linter.unusedSimpArgs false
namespace Mine
open PySem
end Mine
namespace Mine.Com
open PySem Mine

/-! a number that falls with each move -/
end Mine.Com

set_option linter.unusedVariables false
set_option linter.unusedSimpArgs false
namespace Mine.Com
open PySem Mine
theorem fmod_nat (a : Int) {b : Nat} (h : 0 < b) : ∃ q : Nat, a.fmod (b : Int) = (q : Int) ∧ q < b := by
  obtain ⟨q0, q1⟩ := fmod_nn a (b := (b : Int)) (by first | assumption | exact Nat.zero_le _ | exact lt_big (by assumption) (by assumption) | decide | omega)
  exact ⟨(a.fmod (b : Int)).toNat, by first | assumption | exact Nat.zero_le _ | exact lt_big (by assumption) (by assumption) | decide | omega, by first | assumption | exact Nat.zero_le _ | exact lt_big (by assumption) (by assumption) | decide | omega⟩
/-- [list(row) for row in web] -/
theorem comp_copy {μ₀ : MH} {k i : Nat} {rs : List Nat} {W : List (List St)} {ρ : Rho} (hW : WebAt μ₀ k rs W) (ok : WebOk W) :
    ∃ μ', compM (fun μ => μ[k]? = some (rs.map .lst)) (putAt i) (dConst (.bool true)) (dCall listM (dCons (dVar i) dNil)) μ₀.length (rs.map .lst) ρ (μ₀ ++ [[]]) = .ok (.lst μ₀.length) μ' ∧ μ₀ <+: μ' ∧ WebAt μ' μ₀.length (ids μ₀.length W.length) W := by
  have n3 := ok.three
  refine comp_rule (P := fun o => ∃ μ', o = .ok (.lst μ₀.length) μ' ∧ μ₀ <+: μ' ∧ WebAt μ' μ₀.length (ids μ₀.length W.length) W) (fun j acc μ => j ≤ W.length ∧ acc = (ids μ₀.length j).map .lst ∧ μ = μ₀ ++ [(ids μ₀.length j).map .lst] ++ (W.take j).map (·.map St.mv)) (fun j acc μ h => ?_) (fun j acc μ h => ?_) ⟨by first | assumption | exact Nat.zero_le _ | exact lt_big (by assumption) (by assumption) | decide | omega, by simp [ids], by simp [ids]⟩ ?_ ?_
  · rw [h.2.2, List.append_assoc]; exact get_pre (pre_app _ _) hW.top
  · rw [h.2.1]; simp [ids_len]; omega
  · rintro j v acc μ hv ⟨h1, rfl, rfl⟩
    obtain ⟨r, hr, rfl⟩ := map_get hv
    have hlt : j < W.length := by rw [← hW.len]; exact (List.getElem?_eq_some_iff.mp hr).1
    have hrow : W[j]? = some W[j] := List.getElem?_eq_getElem hlt
    have hat := hW.row j r _ hr hrow
    have hat' : (μ₀ ++ [(ids μ₀.length j).map MV.lst] ++ (W.take j).map (·.map St.mv))[r]? = some (W[j].map St.mv) := by
      rw [List.append_assoc]; exact get_pre (pre_app _ _) hat
    have hsm := ok.small _ (List.getElem_mem hlt)
    have hlen : (μ₀ ++ [(ids μ₀.length j).map MV.lst] ++ (W.take j).map (·.map St.mv)).length = μ₀.length + 1 + j := by simp; omega
    have hl : listM [.lst r] (μ₀ ++ [(ids μ₀.length j).map MV.lst] ++ (W.take j).map (·.map St.mv)) = .ok (.lst (μ₀.length + 1 + j)) (μ₀ ++ [(ids μ₀.length j).map MV.lst] ++ (W.take j).map (·.map St.mv) ++ [W[j].map St.mv]) := by
      rw [listM_lst, hat', ← hlen]
      exact if_pos (by simp; unfold sizeLine; omega)
    have hids : (ids μ₀.length (j + 1)).map MV.lst = (ids μ₀.length j).map MV.lst ++ [.lst (μ₀.length + 1 + j)] := by simp [ids, List.range_succ]
    refine .inl ⟨_, .lst (μ₀.length + 1 + j), _, rfl, (by simp only [putAt, ev_call, ev_cons, ev_var (rho_set_self ..), ev_nil, consK_ok, consK2_ok, Out.bind_ok]; exact hl), by simp, by first | assumption | exact Nat.zero_le _ | exact lt_big (by assumption) (by assumption) | decide | omega, hids.symm, ?_⟩
    rw [hids]
    generalize (ids μ₀.length j).map MV.lst = A
    rw [List.append_assoc, List.append_assoc, List.set_append_right _ _ (Nat.le_refl _), Nat.sub_self, List.append_assoc]
    congr 1
    show _ :: _ = _ :: _
    congr 1
    rw [List.take_succ_eq_append_getElem hlt, List.map_append]; rfl
  · rintro acc μ ⟨h1, rfl, rfl⟩
    rw [List.length_map, hW.len]
    refine ⟨_, rfl, by rw [List.append_assoc]; exact pre_app _ _, ?_, by simp [ids_len], fun i r row h1 h2 => ?_⟩
    · rw [List.append_assoc, List.getElem?_append_right (Nat.le_refl _)]; simp
    · obtain ⟨hi, rfl⟩ := ids_inv h1
      rw [List.append_assoc, List.getElem?_append_right (by first | assumption | exact Nat.zero_le _ | exact lt_big (by assumption) (by assumption) | decide | omega), show μ₀.length + 1 + i - μ₀.length = i + 1 from by first | assumption | exact Nat.zero_le _ | exact lt_big (by assumption) (by assumption) | decide | omega]
      simp [h2]

/-! webs as data -/
noncomputable def St.py : St → PyData
  | .put b v => .tuple [.str (Str.ofString "put"), .int b, .int v]
  | .get b => .tuple [.str (Str.ofString "get"), .int b]
  | .fence => .tuple [.str (Str.ofString "fence")]
theorem toPy_st {μ : MH} {n : Nat} (s : St) : toPy μ (n + 1) s.mv = some s.py := by cases n <;> cases s <;> rfl
theorem py_ok (s : St) : s.py.canLay0 = true := by
  cases s <;> simp [St.py, PyData.canLay0, PyData.canLayAll0] <;> decide +kernel
theorem toPy_row {μ : MH} {n : Nat} : ∀ row : List St, (row.map St.mv).mapM (toPy μ (n + 1)) = some (row.map St.py)
  | [] => rfl
  | s :: row => by
    rw [List.map_cons, List.mapM_cons, toPy_st, toPy_row row]; rfl
theorem row_ok : ∀ row : List St, PyData.canLayAll0 (row.map St.py) = true
  | [] => rfl
  | s :: row => by rw [List.map_cons, PyData.canLayAll0, py_ok, row_ok row]; rfl
noncomputable def rowPy (row : List St) : PyData := .list (row.map St.py)
theorem rows_ok : ∀ W : List (List St), PyData.canLayAll0 (W.map rowPy) = true
  | [] => rfl
  | r :: W => by
    rw [List.map_cons, PyData.canLayAll0, rows_ok W, rowPy, PyData.canLay0, row_ok]; rfl
theorem mapM_get {α β : Type} {f : α → Option β} : ∀ {xs : List α} {ys : List β}, xs.length = ys.length → (∀ (i : Nat) (x : α) (y : β), xs[i]? = some x → ys[i]? = some y → f x = some y) → xs.mapM f = some ys
  | [], [], _, _ => rfl
  | x :: xs, y :: ys, hl, h => by
    have h0 := h 0 x y rfl rfl
    have := mapM_get (xs := xs) (ys := ys) (by simpa using hl) fun i a b ha hb => h (i + 1) a b (by simpa using ha) (by simpa using hb)
    rw [List.mapM_cons, h0, this]; rfl
  | [], _ :: _, hl, _ => by simp at hl
  | _ :: _, [], hl, _ => by simp at hl
theorem toPy_web {μ : MH} {k : Nat} {rs : List Nat} {W : List (List St)} (hW : WebAt μ k rs W) : toPy μ 8 (.lst k) = some (.list (W.map rowPy)) := by
  show (match μ[k]? with | some xs => (xs.mapM (toPy μ 7)).map PyData.list | none => none) = _
  rw [hW.top]
  have : (rs.map MV.lst).mapM (toPy μ 7) = some (W.map rowPy) := mapM_get (by simp [hW.len]) fun i x y hx hy => by
    obtain ⟨r, hr, rfl⟩ := map_get hx
    obtain ⟨row, hrow, rfl⟩ := map_get hy
    show (match μ[r]? with | some xs => (xs.mapM (toPy μ 6)).map PyData.list | none => none) = _
    rw [hW.row i r row hr hrow]
    have := toPy_row (μ := μ) (n := 5) row
    simp only [this, rowPy]; rfl
  simp [this]
theorem ne_web {μ : MH} {k j : Nat} {rs rs' : List Nat} {W : List (List St)} (h : WebAt μ k rs W) (h' : WebAt μ j rs' W) : neM (.lst k) (.lst j) μ = .ok (.bool false) μ := by
  have hok : (PyData.list (W.map rowPy)).canLay0 = true := by rw [PyData.canLay0]; exact rows_ok W
  rw [neM, toPy_web h, toPy_web h']
  simp only [hok, Bool.and_self, if_true]
  rw [eqv_refl _ hok]; rfl
end Mine.Com

set_option linter.unusedVariables false
set_option linter.unusedSimpArgs false
namespace Mine
open PySem
/-- goes on, or raises -/
noncomputable def NextX (o : Out (Fl × Rho)) (Q : Rho → MH → Prop) (R : Str → MH → Prop) : Prop := (∃ ρ' μ', o = .ok (.next, ρ') μ' ∧ Q ρ' μ') ∨ ∃ c μ', o = .exc c μ' ∧ R c μ'
@[simp] theorem nextX_ok {ρ : Rho} {μ : MH} {Q : Rho → MH → Prop} {R : Str → MH → Prop} : NextX (.ok (.next, ρ) μ) Q R ↔ Q ρ μ := ⟨fun h => by rcases h with ⟨_, _, e, h⟩ | ⟨_, _, e, _⟩ <;> cases e; exact h, fun h => .inl ⟨_, _, rfl, h⟩⟩
@[simp] theorem nextX_exc {c : Str} {μ : MH} {Q : Rho → MH → Prop} {R : Str → MH → Prop} : NextX (.exc c μ) Q R ↔ R c μ := ⟨fun h => by rcases h with ⟨_, _, e, _⟩ | ⟨_, _, e, h⟩ <;> cases e; exact h, fun h => .inr ⟨_, _, rfl, h⟩⟩
theorem loop_rule_exc {G : MH → Prop} {put : Rho → MV → Rho} {f : DS} {its : List MV} {P : Out (Fl × Rho) → Prop} {ρ : Rho} {μ : MH} (I : Nat → Rho → MH → Prop) (hG : ∀ i ρ μ, I i ρ μ → G μ) (h0 : I 0 ρ μ)
    (step : ∀ i v ρ μ, its[i]? = some v → I i ρ μ → NextX (f (put ρ v) μ) (I (i + 1)) (fun c μ' => P (.exc c μ')))
    (fin : ∀ ρ' μ', I its.length ρ' μ' → P (.ok (.next, ρ') μ')) : P (loopM G put f its ρ μ) := by
  suffices ∀ (j : Nat) (ρ : Rho) (μ : MH), j ≤ its.length → I j ρ μ → P (loopM G put f (its.drop j) ρ μ) by
    have := this 0 ρ μ (Nat.zero_le _) h0
    rwa [List.drop_zero] at this
  intro j
  induction hd : its.length - j generalizing j with
  | zero =>
    intro ρ μ hj hI
    have : j = its.length := by first | assumption | exact Nat.zero_le _ | exact lt_big (by assumption) (by assumption) | decide | omega
    subst this
    rw [List.drop_length, loop_nil (hG _ _ _ hI)]
    exact fin ρ μ hI
  | succ d ih =>
    intro ρ μ hj hI
    have hlt : j < its.length := by first | assumption | exact Nat.zero_le _ | exact lt_big (by assumption) (by assumption) | decide | omega
    rw [List.drop_eq_getElem_cons hlt]
    rcases step j its[j] ρ μ (List.getElem?_eq_getElem hlt) hI with ⟨ρ', μ', e, hI'⟩ | ⟨c, μ', e, h⟩
    · rw [loop_next (hG _ _ _ hI) e]
      exact ih (j + 1) (by first | assumption | exact Nat.zero_le _ | exact lt_big (by assumption) (by assumption) | decide | omega) ρ' μ' hlt hI'
    · rw [loop_exc (hG _ _ _ hI) e]; exact h
end Mine
namespace Mine
open PySem
/-- try: f, with an exception of ours that is caught and a handler that comes back -/
theorem tryAs_ret {cs : List Str} {d c : Str} {i : Nat} {f h : DS} {ρ ρ' : Rho} {μ μ₁ μ₂ : MH} {v : MV} (e : f ρ μ = .exc c μ₁) (hc : c ∈ cs) (hs : subX c d = true) (e2 : h (ρ.set i (.exc c)) μ₁ = .ok (.ret v, ρ') μ₂) : dTryAs cs d i f h ρ μ = .ok (.ret v, clrAt i ρ') μ₂ := by
  unfold dTryAs
  rw [e]
  simp only [hc, hs, if_true, e2]
theorem isiX_ok {cs : List Str} {c d : Str} {μ : MH} (hc : c ∈ cs) : isiX cs d (.exc c) μ = .ok (.bool (subX c d)) μ := if_pos hc
end Mine
namespace Mine.Com
open PySem Mine
end Mine.Com

set_option linter.unusedVariables false
namespace Mine
open PySem PySem.StrLaws Builtin Builtin.Str

/-! texts: cutting what was joined -/
/-- the sign m stands in y at j, and not ahead of it -/
structure Mark (y : Str) (j m : Nat) : Prop where
  at_ : y.cps.toList[j]? = some m
  bef : ∀ i, i < j → y.cps.toList[i]? ≠ some m

theorem at_get {x y : Str} {k j m : Nat} (h : At x y x.length k) (hj : y.cps.toList[j]? = some m) : x.cps.toList[k + j]? = some m := by
  have h2 := h.2
  rw [subAt_eq] at h2
  have e := eq_of_beq h2
  rw [← e, List.getElem?_take] at hj
  split at hj
  · rw [List.getElem?_drop] at hj; exact hj
  · cases hj
theorem at_from {x y : Str} {k j m a : Nat} (h : At x y x.length k) (hj : y.cps.toList[j]? = some m) (ha : a ≤ k) : (x.cps.toList.drop a)[k - a + j]? = some m := by
  rw [List.getElem?_drop, show a + (k - a + j) = k + j by omega]
  exact at_get h hj
theorem clean_at {x y : Str} {j m a k : Nat} {p rest : List Nat} (M : Mark y j m) (hp : m ∉ p) (hx : x.cps.toList.drop a = p ++ (y.cps.toList ++ rest)) (h1 : a ≤ k) (h2 : k < a + p.length) : ¬ At x y x.length k := fun h => by
  have e2 := at_from h M.at_ h1
  rw [hx] at e2
  by_cases hlt : k - a + j < p.length
  · rw [List.getElem?_append_left hlt] at e2
    exact hp (List.mem_of_getElem? e2)
  · rw [List.getElem?_append_right (by omega)] at e2
    have hj : j < y.cps.toList.length := (List.getElem?_eq_some_iff.mp M.at_).1
    rw [List.getElem?_append_left (by omega)] at e2
    exact M.bef _ (by omega) e2
theorem clean_end {x y : Str} {j m a k : Nat} {p : List Nat} (M : Mark y j m) (hp : m ∉ p) (hx : x.cps.toList.drop a = p) (h1 : a ≤ k) : ¬ At x y x.length k := fun h => by
  have e2 := at_from h M.at_ h1
  rw [hx] at e2
  exact hp (List.mem_of_getElem? e2)

theorem join_list (y p q : Str) (r : List Str) : (Str.join y (p :: q :: r)).cps.toList = p.cps.toList ++ (y.cps.toList ++ (Str.join y (q :: r)).cps.toList) := by
  show ((p ++ y ++ Str.join y (q :: r)).cps).toList = _
  simp only [Str.cps_append, Array.toList_append, List.append_assoc]
theorem join_len (y p q : Str) (r : List Str) : (Str.join y (p :: q :: r)).length = p.length + y.length + (Str.join y (q :: r)).length := by
  show (p ++ y ++ Str.join y (q :: r)).length = _
  simp only [Str.length_append]
theorem len_list (x : Str) : x.cps.toList.length = x.length := by simp [Str.length]

theorem at_here {x y : Str} {a : Nat} {p rest : List Nat} (hx : x.cps.toList.drop a = p ++ (y.cps.toList ++ rest)) (hne : 1 ≤ y.length) : At x y x.length (a + p.length) := by
  have hl : (x.cps.toList.drop a).length = p.length + (y.length + rest.length) := by rw [hx]; simp only [List.length_append, len_list]
  rw [List.length_drop, len_list] at hl
  refine ⟨by omega, ?_⟩
  rw [subAt_eq, ← List.drop_drop, hx, List.drop_left, ← len_list y, List.take_left]
  exact beq_self_eq_true _

theorem sub_of_drop {x : Str} {a : Nat} {p : Str} {rest : List Nat} (hx : x.cps.toList.drop a = p.cps.toList ++ rest) : strSub x a (a + p.length) = p := by
  apply Str.ext'
  apply Array.toList_inj.mp
  rw [strSub_toList, hx, show a + p.length - a = p.length by omega, ← len_list p, List.take_left]

theorem parts_of {x y : Str} {j m : Nat} (M : Mark y j m) : ∀ (ps : List Str) (a f : Nat) (cuts : List Nat), ps ≠ [] → (∀ p ∈ ps, m ∉ p.cps.toList) → a ≤ x.length → x.cps.toList.drop a = (Str.join y ps).cps.toList →
    ChainG x y x.length a cuts f → (∀ k, f ≤ k → ¬ At x y x.length k) → partsFrom x y.length a cuts = ps
  | [], _, _, _, h, _, _, _, _, _ => absurd rfl h
  | [p], a, f, cuts, _, hf, ha, hx, hc, hn => by
    have hp := hf p (List.mem_singleton.mpr rfl)
    have hx' : x.cps.toList.drop a = p.cps.toList := hx
    cases cuts with
    | nil =>
      show [strSub x a x.length] = [p]
      have hl : (x.cps.toList.drop a).length = p.length := by rw [hx', len_list]
      rw [List.length_drop, len_list] at hl
      have := sub_of_drop (x := x) (a := a) (p := p) (rest := []) (by rw [hx', List.append_nil])
      rw [show a + p.length = x.length by omega] at this
      rw [this]
    | cons c r => exact absurd hc.2.1 (clean_end M hp hx' hc.1)
  | p :: q :: r, a, f, cuts, _, hf, ha, hx, hc, hn => by
    have hp := hf p List.mem_cons_self
    have hy : 1 ≤ y.length := by
      have := (List.getElem?_eq_some_iff.mp M.at_).1
      rw [len_list] at this; omega
    rw [join_list] at hx
    have hat := at_here hx hy
    cases cuts with
    | nil =>
      have e : f = a := hc
      subst e
      exact absurd hat (hn _ (by omega))
    | cons c cs =>
      have hc1 : c = a + p.cps.toList.length := by
        rcases Nat.lt_trichotomy c (a + p.cps.toList.length) with h | h | h
        · exact absurd hc.2.1 (clean_at M hp hx hc.1 h)
        · exact h
        · exact absurd hat (hc.2.2.1 _ (by omega) h)
      subst hc1
      show strSub x a (a + p.cps.toList.length) :: partsFrom x y.length (a + p.cps.toList.length + y.length) cs = _
      have e1 := sub_of_drop hx
      rw [len_list] at *
      rw [e1]
      congr 1
      refine parts_of M (q :: r) _ f cs (by simp) (fun z hz => hf z (List.mem_cons_of_mem _ hz)) hat.1 ?_ hc.2.2.2 hn
      rw [Nat.add_assoc, ← List.drop_drop, hx, ← List.drop_drop, ← len_list p, List.drop_left, ← len_list y, List.drop_left]

theorem kind_one (x y : Str) (hy : y.cps.all (· < 256) = true) : ¬ Builtin.Str.strKind x < Builtin.Str.strKind y := by
  unfold Builtin.Str.strKind
  rw [if_pos hy]
  split <;> (try split) <;> omega

/-- what was joined is cut again at the joints -/
theorem split_join {y : Str} {j m : Nat} (M : Mark y j m) (hy : y.cps.all (· < 256) = true) {ps : List Str} (hne : ps ≠ []) (hf : ∀ p ∈ ps, m ∉ p.cps.toList) : Txt.split (Str.join y ps) y = ps := by
  have hy1 : 1 ≤ y.length := by
    have := (List.getElem?_eq_some_iff.mp M.at_).1
    rw [len_list] at this; omega
  generalize hx : Str.join y ps = x
  have hx' : x.cps.toList.drop 0 = (Str.join y ps).cps.toList := by rw [hx]; rfl
  obtain ⟨f, hG, hn⟩ := occ_tight x y hy1
  have key := parts_of M ps 0 f _ hne hf (Nat.zero_le _) hx' hG hn
  unfold Txt.split
  split
  · rename_i hc
    rw [Bool.or_eq_true, decide_eq_true_eq, decide_eq_true_eq] at hc
    rcases hc with h | h
    · cases ps with
      | nil => exact absurd rfl hne
      | cons p r => cases r with
        | nil => rw [← hx]; rfl
        | cons q r =>
          have := join_len y p q r
          rw [hx] at this
          omega
    · exact absurd h (kind_one x y hy)
  · split
    · rename_i he
      rw [List.isEmpty_iff.mp he] at key
      rw [← key]
      show [x] = [strSub x 0 x.length]
      rw [sub_whole]
    · rw [partsBetween_eq]; exact key

/-! texts that only shrink: the same length, the same text -/
theorem join_map_le {y : Str} {g : Str → Str} : ∀ {ps : List Str}, (∀ p ∈ ps, (g p).length ≤ p.length) → (Str.join y (ps.map g)).length ≤ (Str.join y ps).length
  | [], _ => Nat.le_refl _
  | [p], h => h p (List.mem_singleton.mpr rfl)
  | p :: q :: r, h => by
    have h1 := h p List.mem_cons_self
    have ih := join_map_le (y := y) (ps := q :: r) (fun z hz => h z (List.mem_cons_of_mem _ hz))
    rw [List.map_cons, List.map_cons, join_len, join_len]
    rw [List.map_cons] at ih
    omega
theorem join_map_eq {y : Str} {g : Str → Str} : ∀ {ps : List Str}, (∀ p ∈ ps, (g p).length ≤ p.length) → (Str.join y (ps.map g)).length = (Str.join y ps).length → ∀ p ∈ ps, (g p).length = p.length
  | [], _, _, p, hp => absurd hp (by simp)
  | [p], h, e, z, hz => by rw [List.mem_singleton.mp hz]; exact e
  | p :: q :: r, h, e, z, hz => by
    have h1 := h p List.mem_cons_self
    have h2 := join_map_le (y := y) (ps := q :: r) (fun z hz => h z (List.mem_cons_of_mem _ hz))
    rw [List.map_cons, List.map_cons, join_len, join_len] at e
    rw [List.map_cons] at h2
    rcases List.mem_cons.mp hz with rfl | hz
    · omega
    · exact join_map_eq (y := y) (ps := q :: r) (fun z hz => h z (List.mem_cons_of_mem _ hz)) (by rw [List.map_cons]; omega) z hz
end Mine

set_option linter.unusedVariables false
namespace Mine
open PySem PySem.StrLaws PySem.NumText PySem.W PyProof.Rows

/-! numbers as texts -/
noncomputable def figs : List Nat → List Nat
  | 45 :: r => r
  | l => l
noncomputable def isDig (c : Nat) : Bool := decide (48 ≤ c) && decide (c ≤ 57)
noncomputable def numOk (l : List Nat) : Bool := !(figs l).isEmpty && decide ((figs l).length ≤ 30) && (figs l).all isDig
noncomputable def numVal : List Nat → Int
  | 45 :: r => -((digitsVal r : Nat) : Int)
  | l => ((digitsVal l : Nat) : Int)
/-- the text of a number -/
noncomputable def numT (i : Int) : Str := Str.ofString (toString i)
/-- written as the number is shown -/
noncomputable def canon (l : List Nat) : Bool := numOk l && !(decide ((figs l).head? = some 48) && decide (l ≠ [48]))

theorem allDigits_of {l : List Nat} (h : l.all isDig = true) : AllDigits l := fun c hc => by
  have := List.all_eq_true.mp h c hc
  simpa [isDig] using this
theorem figs_other {c : Nat} {r : List Nat} (h : c ≠ 45) : figs (c :: r) = c :: r := by
  unfold figs
  split
  · rename_i e; cases e; exact absurd rfl h
  · rfl
theorem numVal_other {c : Nat} {r : List Nat} (h : c ≠ 45) : numVal (c :: r) = ((digitsVal (c :: r) : Nat) : Int) := by
  unfold numVal
  split
  · rename_i e; cases e; exact absurd rfl h
  · rfl
theorem numOk_parts {l : List Nat} (h : numOk l = true) : figs l ≠ [] ∧ (figs l).length ≤ 30 ∧ AllDigits (figs l) := by
  unfold numOk at h
  rw [Bool.and_eq_true, Bool.and_eq_true] at h
  obtain ⟨⟨h1, h2⟩, h3⟩ := h
  exact ⟨by simpa using h1, by simpa using h2, allDigits_of h3⟩
/-- a number's text: a sign and figures, or figures -/
theorem num_cases {l : List Nat} (h : numOk l = true) : (∃ r, l = 45 :: r ∧ figs l = r ∧ r ≠ [] ∧ r.length ≤ 30 ∧ AllDigits r ∧ numVal l = -((digitsVal r : Nat) : Int)) ∨ (figs l = l ∧ l ≠ [] ∧ l.length ≤ 30 ∧ AllDigits l ∧ numVal l = ((digitsVal l : Nat) : Int)) := by
  obtain ⟨h1, h2, h3⟩ := numOk_parts h
  cases l with
  | nil => exact absurd rfl h1
  | cons c r =>
    by_cases hc : c = 45
    · subst hc
      exact .inl ⟨r, rfl, rfl, h1, h2, h3, rfl⟩
    · rw [figs_other hc] at h1 h2 h3
      exact .inr ⟨figs_other hc, h1, h2, h3, numVal_other hc⟩
theorem len_le {w : Str} (h : numOk w.cps.toList = true) : w.length ≤ 31 := by
  rw [← len_list w]
  rcases num_cases h with ⟨r, e, _, _, h2, _⟩ | ⟨_, _, h2, _⟩
  · rw [e, List.length_cons]; omega
  · omega
theorem intText_num {w : Str} (h : numOk w.cps.toList = true) : PySem.intText? w = some (numVal w.cps.toList) := by
  have hl := len_le h
  rcases num_cases h with ⟨r, e, _, h1, h2, h3, hv⟩ | ⟨_, h1, h2, h3, hv⟩
  · rw [hv]; exact intText_neg e h3 h1 (by omega)
  · rw [hv]; exact intText_digits h3 h1 (by omega)

theorem back_char {c : Nat} (h : 48 ≤ c ∧ c ≤ 57) : (Char.ofNat c).toNat = c := by
  have : ∀ d, d < 58 → (Char.ofNat d).toNat = d := by decide
  exact this c (by omega)
theorem back_map : ∀ {l : List Nat}, AllDigits l → (l.map Char.ofNat).map Char.toNat = l
  | [], _ => rfl
  | c :: r, h => by rw [List.map_cons, List.map_cons, back_char h.head, back_map h.tail]
/-- what the figures are shown as -/
noncomputable def shownD (l : List Nat) : List Nat := match l.dropWhile (· == 48) with | [] => [48] | ds => ds
theorem allDigits_drop {l : List Nat} (h : AllDigits l) : AllDigits (l.dropWhile (· == 48)) := fun c hc => h c ((List.dropWhile_suffix _).subset hc)
theorem toDigits_map {l : List Nat} (h : AllDigits l) : (Nat.toDigits 10 (digitsVal l)).map Char.toNat = shownD l := by
  rw [toDigits_all l h]
  unfold shownD
  have hd := allDigits_drop h
  cases e : l.dropWhile (· == 48) with
  | nil => rfl
  | cons c r => rw [e] at hd; exact back_map hd
theorem numT_nat (m : Nat) : (numT (m : Int)).cps.toList = (Nat.toDigits 10 m).map Char.toNat := KIN.signs_num m
theorem numT_neg (k : Nat) : (numT (-((k + 1 : Nat) : Int))).cps.toList = 45 :: (Nat.toDigits 10 (k + 1)).map Char.toNat := by
  have e : (-((k + 1 : Nat) : Int)) = Int.negSucc k := rfl
  unfold numT
  rw [e, signs_ofString]
  show (("-" ++ Nat.repr (k + 1) : String).toList).map Char.toNat = _
  rw [String.toList_append, List.map_append, Nat.toList_repr]
  rfl
theorem digitsVal_zero_iff : ∀ {l : List Nat}, AllDigits l → (digitsVal l = 0 ↔ l.dropWhile (· == 48) = [])
  | [], _ => ⟨fun _ => rfl, fun _ => rfl⟩
  | c :: r, h => by
    by_cases hc : c = 48
    · subst hc
      rw [digitsVal_zero, List.dropWhile_cons_of_pos rfl]
      exact digitsVal_zero_iff h.tail
    · have h1 := h.head
      have := digitsVal_pos (c := c) (cs := r) (by omega)
      constructor
      · intro e; omega
      · intro e
        rw [List.dropWhile_cons_of_neg (by simpa using hc)] at e
        cases e
theorem dropWhile_len : ∀ (l : List Nat), (l.dropWhile (· == 48)).length ≤ l.length
  | [] => Nat.le_refl _
  | c :: r => by
    rw [List.dropWhile_cons]
    split
    · exact Nat.le_succ_of_le (dropWhile_len r)
    · exact Nat.le_refl _
theorem shownD_len {l : List Nat} (h1 : l ≠ []) : (shownD l).length ≤ l.length ∧ ((shownD l).length = l.length → shownD l = l) ∧ (shownD l = l ↔ ¬ (l.head? = some 48 ∧ l ≠ [48])) := by
  cases l with
  | nil => exact absurd rfl h1
  | cons c r =>
    by_cases hc : c = 48
    · subst hc
      have hd := dropWhile_len r
      unfold shownD
      rw [List.dropWhile_cons_of_pos rfl]
      cases e : r.dropWhile (· == 48) with
      | nil =>
        cases r with
        | nil => exact ⟨Nat.le_refl _, fun _ => rfl, by simp⟩
        | cons a b =>
          refine ⟨by simp, fun q => absurd q (by simp), by simp⟩
      | cons a b =>
        rw [e] at hd
        simp only [List.length_cons] at hd ⊢
        refine ⟨by omega, fun q => absurd q (by omega), ?_⟩
        constructor
        · intro q
          have := congrArg List.length q
          simp only [List.length_cons] at this
          omega
        · intro q
          exfalso; apply q
          refine ⟨rfl, fun q => ?_⟩
          cases r with
          | nil => cases e
          | cons _ _ => cases q
    · have e : shownD (c :: r) = c :: r := by
        unfold shownD
        rw [List.dropWhile_cons_of_neg (by simpa using hc)]
      rw [e]
      exact ⟨Nat.le_refl _, fun _ => rfl, by simp [hc]⟩

/-- the text of a number's value: never longer; as long only if it is the text itself -/
theorem numT_of {w : Str} (h : numOk w.cps.toList = true) : (numT (numVal w.cps.toList)).length ≤ w.length ∧ ((numT (numVal w.cps.toList)).length = w.length → numT (numVal w.cps.toList) = w) ∧ (numT (numVal w.cps.toList) = w ↔ canon w.cps.toList = true) := by
  have hcan : canon w.cps.toList = true ↔ ¬ ((figs w.cps.toList).head? = some 48 ∧ w.cps.toList ≠ [48]) := by
    unfold canon; rw [h]
    by_cases h1 : (figs w.cps.toList).head? = some 48 <;> by_cases h2 : w.cps.toList = [48] <;> simp [h1, h2]
  rw [hcan]
  have ext : ∀ {a b : Str}, a = b ↔ a.cps.toList = b.cps.toList := ⟨fun e => by rw [e], fun e => Str.ext' (Array.toList_inj.mp e)⟩
  rcases num_cases h with ⟨r, e, hf, h1, h2, h3, hv⟩ | ⟨hf, h1, h2, h3, hv⟩
  · obtain ⟨s1, s2, s3⟩ := shownD_len h1
    rw [hf, hv, e]
    cases hz : digitsVal r with
    | zero =>
      have hd := (digitsVal_zero_iff h3).mp hz
      have hT : (numT (-((0 : Nat) : Int))).cps.toList = [48] := by rw [show (-((0 : Nat) : Int)) = ((0 : Nat) : Int) from rfl, numT_nat]; rfl
      have hl1 : (numT (-((0 : Nat) : Int))).length = 1 := by rw [← len_list, hT]; rfl
      have hw : w.length = r.length + 1 := by rw [← len_list, e]; rfl
      have hr : 1 ≤ r.length := by cases r with | nil => exact absurd rfl h1 | cons _ _ => simp
      refine ⟨by omega, fun q => absurd q (by omega), ?_⟩
      have hhead : r.head? = some 48 := by
        cases r with
        | nil => exact absurd rfl h1
        | cons c t =>
          by_cases hc : c = 48
          · rw [hc]; rfl
          · rw [List.dropWhile_cons_of_neg (by simpa using hc)] at hd; cases hd
      constructor
      · intro q
        have := congrArg Str.length q
        omega
      · intro q
        exfalso; apply q
        refine ⟨hhead, fun q => by cases q⟩
    | succ k =>
      have hT : (numT (-((k + 1 : Nat) : Int))).cps.toList = 45 :: shownD r := by rw [numT_neg, ← hz, toDigits_map h3]
      have hl : (numT (-((k + 1 : Nat) : Int))).length = (shownD r).length + 1 := by rw [← len_list, hT]; rfl
      have hw : w.length = r.length + 1 := by rw [← len_list, e]; rfl
      refine ⟨by omega, fun q => ext.mpr ?_, ?_⟩
      · rw [hT, e, s2 (by omega)]
      · rw [ext, hT, e]
        constructor
        · intro q
          injection q with _ q
          rintro ⟨hh, _⟩
          refine s3.mp q ⟨hh, fun e => ?_⟩
          subst e
          cases hz
        · intro q
          have hh : ¬ (r.head? = some 48) := fun e => q ⟨e, fun e => by cases e⟩
          rw [s3.mpr fun x => hh x.1]
  · obtain ⟨s1, s2, s3⟩ := shownD_len h1
    have hT : (numT ((digitsVal w.cps.toList : Nat) : Int)).cps.toList = shownD w.cps.toList := by rw [numT_nat, toDigits_map h3]
    rw [hf, hv]
    have hl : (numT ((digitsVal w.cps.toList : Nat) : Int)).length = (shownD w.cps.toList).length := by rw [← len_list, hT]
    have hw := len_list w
    refine ⟨by omega, fun q => ext.mpr ?_, ?_⟩
    · rw [hT, s2 (by omega)]
    · rw [ext, hT]; exact s3
end Mine

set_option linter.unusedVariables false
namespace Mine
open PySem PySem.StrLaws PySem.NumText PySem.W PyProof.Rows

/-! steps, rows and webs as texts -/
inductive RS where
  | put (b v : Int)
  | get (b : Int)
  | fence
abbrev wPut : Str := Str.ofString "put"
abbrev wGet : Str := Str.ofString "get"
abbrev wFence : Str := Str.ofString "fence"
abbrev sp1 : Str := Str.ofString " "
abbrev sp2 : Str := Str.ofString "; "
abbrev sp3 : Str := Str.ofString " | "

noncomputable def pNum (w : Str) : Option Int := if numOk w.cps.toList = true then some (numVal w.cps.toList) else none
noncomputable def dNum (w : Str) : Option Int := if canon w.cps.toList = true then some (numVal w.cps.toList) else none
theorem dNum_iff {w : Str} {i : Int} : dNum w = some i ↔ pNum w = some i ∧ numT i = w := by
  unfold dNum pNum
  by_cases h : numOk w.cps.toList = true
  · have k := (numT_of h).2.2
    rw [if_pos h]
    by_cases hc : canon w.cps.toList = true
    · rw [if_pos hc]
      constructor
      · intro e; cases e; exact ⟨rfl, k.mpr hc⟩
      · exact fun e => e.1
    · rw [if_neg hc]
      constructor
      · intro e; cases e
      · rintro ⟨e, q⟩; cases e; exact absurd (k.mp q) hc
  · have hc : ¬ canon w.cps.toList = true := fun e => h (by unfold canon at e; exact (Bool.and_eq_true_iff.mp e).1)
    rw [if_neg h, if_neg hc]
    exact ⟨fun e => (by cases e), fun e => (by cases e.1)⟩
theorem pNum_len {w : Str} {i : Int} (h : pNum w = some i) : (numT i).length ≤ w.length ∧ ((numT i).length = w.length → numT i = w) := by
  unfold pNum at h
  split at h
  · rename_i hn; cases h; exact ⟨(numT_of hn).1, (numT_of hn).2.1⟩
  · cases h

noncomputable def pStepW (ws : List Str) : Option RS :=
  if ws = [wFence] then some .fence else match ws with
  | [k, a] => if k = wGet then (pNum a).map .get else none
  | [k, a, b] => if k = wPut then (pNum a).bind fun i => (pNum b).map fun j => .put i j else none
  | _ => none
noncomputable def boxI (i : Int) : Bool := decide (0 ≤ i) && decide (i ≤ 3)
noncomputable def dStepW (ws : List Str) : Option RS :=
  if ws = [wFence] then some .fence else match ws with
  | [k, a] => if k = wGet then (dNum a).bind fun i => if boxI i = true then some (.get i) else none else none
  | [k, a, b] => if k = wPut then (dNum a).bind fun i => (dNum b).bind fun j => if boxI i = true then some (.put i j) else none else none
  | _ => none
noncomputable def RS.words : RS → List Str
  | .put b v => [wPut, numT b, numT v]
  | .get b => [wGet, numT b]
  | .fence => [wFence]
noncomputable def RS.box : RS → Bool
  | .put b _ => boxI b
  | .get b => boxI b
  | .fence => true
noncomputable def RS.text (r : RS) : Str := Str.join sp1 r.words

theorem pStepW_cases {ws : List Str} {r : RS} (h : pStepW ws = some r) : (ws = [wFence] ∧ r = .fence) ∨ (∃ a i, ws = [wGet, a] ∧ pNum a = some i ∧ r = .get i) ∨ (∃ a b i j, ws = [wPut, a, b] ∧ pNum a = some i ∧ pNum b = some j ∧ r = .put i j) := by
  unfold pStepW at h
  split at h
  · rename_i e; cases h; exact .inl ⟨e, rfl⟩
  · split at h
    · rename_i k a
      split at h
      · rename_i ek
        subst ek
        obtain ⟨i, h1, h2⟩ := Option.map_eq_some_iff.mp h
        exact .inr (.inl ⟨_, i, rfl, h1, h2.symm⟩)
      · cases h
    · rename_i k a b
      split at h
      · rename_i ek
        subst ek
        obtain ⟨i, h1, h2⟩ := Option.bind_eq_some_iff.mp h
        obtain ⟨j, h3, h4⟩ := Option.map_eq_some_iff.mp h2
        exact .inr (.inr ⟨_, _, i, j, rfl, h1, h3, h4.symm⟩)
      · cases h
    · cases h
theorem get_ne (a : Str) : ¬ ([wGet, a] : List Str) = [wFence] := fun e => by injection e with _ e; cases e
theorem put_ne (a b : Str) : ¬ ([wPut, a, b] : List Str) = [wFence] := fun e => by injection e with _ e; cases e
theorem dStepW_iff {ws : List Str} {r : RS} : dStepW ws = some r ↔ pStepW ws = some r ∧ r.box = true ∧ r.words = ws := by
  constructor
  · intro h
    unfold dStepW at h
    split at h
    · rename_i e; cases h; exact ⟨by unfold pStepW; rw [if_pos e], rfl, e.symm⟩
    · rename_i hne
      split at h
      · rename_i k a
        split at h
        · rename_i ek
          subst ek
          obtain ⟨i, h1, h2⟩ := Option.bind_eq_some_iff.mp h
          obtain ⟨h3, h4⟩ := dNum_iff.mp h1
          split at h2
          · rename_i hb
            cases h2
            refine ⟨?_, hb, by show [wGet, numT i] = _; rw [h4]⟩
            unfold pStepW
            rw [if_neg hne]
            show (if wGet = wGet then (pNum a).map RS.get else none) = _
            rw [if_pos rfl, h3]; rfl
          · cases h2
        · cases h
      · rename_i k a b
        split at h
        · rename_i ek
          subst ek
          obtain ⟨i, h1, h2⟩ := Option.bind_eq_some_iff.mp h
          obtain ⟨j, h5, h6⟩ := Option.bind_eq_some_iff.mp h2
          obtain ⟨h3, h4⟩ := dNum_iff.mp h1
          obtain ⟨h7, h8⟩ := dNum_iff.mp h5
          split at h6
          · rename_i hb
            cases h6
            refine ⟨?_, hb, by show [wPut, numT i, numT j] = _; rw [h4, h8]⟩
            unfold pStepW
            rw [if_neg hne]
            show (if wPut = wPut then (pNum a).bind fun i => (pNum b).map fun j => RS.put i j else none) = _
            rw [if_pos rfl, h3, h7]; rfl
          · cases h6
        · cases h
      · cases h
  · rintro ⟨h, hb, hw⟩
    rcases pStepW_cases h with ⟨rfl, rfl⟩ | ⟨a, i, rfl, h1, rfl⟩ | ⟨a, b, i, j, rfl, h1, h2, rfl⟩
    · unfold dStepW; rw [if_pos rfl]
    · have ha : numT i = a := by injection hw with _ hw; injection hw with hw
      unfold dStepW
      rw [if_neg (get_ne a)]
      show (if wGet = wGet then (dNum a).bind fun i => if boxI i = true then some (RS.get i) else none else none) = _
      rw [if_pos rfl, dNum_iff.mpr ⟨h1, ha⟩]
      exact if_pos hb
    · have ha : numT i = a := by injection hw with _ hw; injection hw with hw
      have hb' : numT j = b := by injection hw with _ hw; injection hw with _ hw; injection hw with hw
      unfold dStepW
      rw [if_neg (put_ne a b)]
      show (if wPut = wPut then (dNum a).bind fun i => (dNum b).bind fun j => if boxI i = true then some (RS.put i j) else none else none) = _
      rw [if_pos rfl, dNum_iff.mpr ⟨h1, ha⟩, dNum_iff.mpr ⟨h2, hb'⟩]
      exact if_pos hb

theorem text_len {ws : List Str} {r : RS} (h : pStepW ws = some r) : r.text.length ≤ (Str.join sp1 ws).length ∧ (r.text.length = (Str.join sp1 ws).length → r.words = ws) := by
  rcases pStepW_cases h with ⟨rfl, rfl⟩ | ⟨a, i, rfl, h1, rfl⟩ | ⟨a, b, i, j, rfl, h1, h2, rfl⟩
  · exact ⟨Nat.le_refl _, fun _ => rfl⟩
  · obtain ⟨k1, k2⟩ := pNum_len h1
    have e1 : (RS.get i).text.length = wGet.length + sp1.length + (numT i).length := join_len sp1 wGet (numT i) []
    have e2 : (Str.join sp1 [wGet, a]).length = wGet.length + sp1.length + a.length := join_len sp1 wGet a []
    exact ⟨by omega, fun q => by show [wGet, numT i] = _; rw [k2 (by omega)]⟩
  · obtain ⟨k1, k2⟩ := pNum_len h1
    obtain ⟨k3, k4⟩ := pNum_len h2
    have e1 : (RS.put i j).text.length = wPut.length + sp1.length + ((numT i).length + sp1.length + (numT j).length) := (join_len sp1 wPut (numT i) [numT j]).trans (by rw [join_len]; rfl)
    have e2 : (Str.join sp1 [wPut, a, b]).length = wPut.length + sp1.length + (a.length + sp1.length + b.length) := (join_len sp1 wPut a [b]).trans (by rw [join_len]; rfl)
    exact ⟨by omega, fun q => by show [wPut, numT i, numT j] = _; rw [k2 (by omega), k4 (by omega)]⟩

/-! one step's text -/
noncomputable def pStep (p : Str) : Option RS := pStepW (Txt.split p sp1)
noncomputable def dStep (p : Str) : Option RS := dStepW (Txt.split p sp1)
noncomputable def stepD (p : Str) : RS := (pStep p).getD .fence
theorem dStep_iff {p : Str} {r : RS} : dStep p = some r ↔ pStep p = some r ∧ r.box = true ∧ r.text = p := by
  unfold dStep pStep
  rw [dStepW_iff]
  constructor
  · rintro ⟨h1, h2, h3⟩
    exact ⟨h1, h2, by unfold RS.text; rw [h3]; exact join_split p sp1⟩
  · rintro ⟨h1, h2, h3⟩
    have := (text_len h1).2
    rw [join_split] at this
    exact ⟨h1, h2, this (by rw [h3])⟩
theorem step_len {p : Str} {r : RS} (h : pStep p = some r) : r.text.length ≤ p.length ∧ (r.text.length = p.length → r.text = p) := by
  have k := text_len h
  rw [join_split] at k
  exact ⟨k.1, fun q => by unfold RS.text; rw [k.2 q]; exact join_split p sp1⟩

/-! rows -/
noncomputable def rowT (row : List RS) : Str := Str.join sp2 (row.map RS.text)
noncomputable def partsR (p : Str) : List Str := if p = Str.empty then [] else Txt.split p sp2
theorem join_partsR (p : Str) : Str.join sp2 (partsR p) = p := by
  unfold partsR
  split
  · rename_i e; rw [e]; rfl
  · exact join_split p sp2
noncomputable def rowOk (p : Str) : Bool := (partsR p).all fun q => (pStep q).isSome
noncomputable def rowD (p : Str) : List RS := (partsR p).map stepD
theorem stepD_of {q : Str} (h : (pStep q).isSome = true) : pStep q = some (stepD q) := by
  unfold stepD
  cases e : pStep q with
  | none => rw [e] at h; cases h
  | some r => rfl
theorem row_len {p : Str} (h : rowOk p = true) : (rowT (rowD p)).length ≤ p.length ∧ ((rowT (rowD p)).length = p.length → ∀ q ∈ partsR p, (stepD q).text = q) := by
  have hs : ∀ q ∈ partsR p, (stepD q).text.length ≤ q.length := fun q hq => (step_len (stepD_of (List.all_eq_true.mp h q hq))).1
  have e : rowT (rowD p) = Str.join sp2 ((partsR p).map fun q => (stepD q).text) := by unfold rowT rowD; rw [List.map_map]; rfl
  have k1 := join_map_le (y := sp2) (g := fun q => (stepD q).text) hs
  have k2 := join_map_eq (y := sp2) (g := fun q => (stepD q).text) hs
  rw [join_partsR] at k1 k2
  rw [e]
  exact ⟨k1, fun q z hz => (step_len (stepD_of (List.all_eq_true.mp h z hz))).2 (k2 q z hz)⟩
theorem rowT_of {p : Str} (h : ∀ q ∈ partsR p, (stepD q).text = q) : rowT (rowD p) = p := by
  unfold rowT rowD
  rw [List.map_map, show (partsR p).map (RS.text ∘ stepD) = partsR p from (List.map_congr_left h).trans (List.map_id' _)]
  exact join_partsR p

/-! webs -/
noncomputable def webT (W : List (List RS)) : Str := Str.join sp3 (W.map rowT)
noncomputable def webOkP (x : Str) : Bool := (Txt.split x sp3).all rowOk
noncomputable def webD (x : Str) : List (List RS) := (Txt.split x sp3).map rowD
theorem webT_iff {x : Str} (h : webOkP x = true) : webT (webD x) = x ↔ ∀ p ∈ Txt.split x sp3, ∀ q ∈ partsR p, (stepD q).text = q := by
  have hs : ∀ p ∈ Txt.split x sp3, (rowT (rowD p)).length ≤ p.length := fun p hp => (row_len (List.all_eq_true.mp h p hp)).1
  have e : webT (webD x) = Str.join sp3 ((Txt.split x sp3).map fun p => rowT (rowD p)) := by unfold webT webD; rw [List.map_map]; rfl
  constructor
  · intro q p hp
    have k2 := join_map_eq (y := sp3) (g := fun p => rowT (rowD p)) hs
    rw [join_split] at k2
    rw [e] at q
    exact (row_len (List.all_eq_true.mp h p hp)).2 (k2 (by rw [q]) p hp)
  · intro q
    rw [e, show (Txt.split x sp3).map (fun p => rowT (rowD p)) = Txt.split x sp3 from (List.map_congr_left fun p hp => rowT_of (q p hp)).trans (List.map_id' _)]
    exact join_split x sp3
/-- all steps are steps of the law: parsed, in their boxes, and written as they are shown -/
theorem due_iff {x : Str} : (∀ p ∈ Txt.split x sp3, ∀ q ∈ partsR p, (dStep q).isSome = true) ↔ webOkP x = true ∧ (∀ p ∈ Txt.split x sp3, ∀ q ∈ partsR p, (stepD q).box = true) ∧ webT (webD x) = x := by
  constructor
  · intro h
    have k : ∀ p ∈ Txt.split x sp3, ∀ q ∈ partsR p, pStep q = some (stepD q) ∧ (stepD q).box = true ∧ (stepD q).text = q := fun p hp q hq => by
      obtain ⟨r, hr⟩ := Option.isSome_iff_exists.mp (h p hp q hq)
      obtain ⟨h1, h2, h3⟩ := dStep_iff.mp hr
      have e : stepD q = r := by unfold stepD; rw [h1]; rfl
      rw [e]; exact ⟨h1, h2, h3⟩
    have ok : webOkP x = true := List.all_eq_true.mpr fun p hp => List.all_eq_true.mpr fun q hq => by rw [(k p hp q hq).1]; rfl
    exact ⟨ok, fun p hp q hq => (k p hp q hq).2.1, (webT_iff ok).mpr fun p hp q hq => (k p hp q hq).2.2⟩
  · rintro ⟨ok, hb, ht⟩ p hp q hq
    have h1 := stepD_of (List.all_eq_true.mp (List.all_eq_true.mp ok p hp) q hq)
    rw [dStep_iff.mpr ⟨h1, hb p hp q hq, (webT_iff ok).mp ht p hp q hq⟩]; rfl
theorem dStep_D {q : Str} (h : (dStep q).isSome = true) : dStep q = some (stepD q) := by
  obtain ⟨r, hr⟩ := Option.isSome_iff_exists.mp h
  rw [hr]
  have := (dStep_iff.mp hr).1
  unfold stepD; rw [this]; rfl

/-! a text that was shown is read again -/
theorem num_signs (i : Int) : ∀ c ∈ (numT i).cps.toList, c = 45 ∨ (48 ≤ c ∧ c ≤ 57) := by
  have dig : ∀ m : Nat, ∀ c ∈ (Nat.toDigits 10 m).map Char.toNat, 48 ≤ c ∧ c ≤ 57 := fun m c hc => by
    obtain ⟨ch, hch, e⟩ := List.mem_map.mp hc
    have r := digit_range (Nat.isDigit_of_mem_toDigits (by decide) (by decide) hch)
    rw [← e]; exact r
  intro c hc
  rcases Int.eq_nat_or_neg i with ⟨m, rfl | rfl⟩
  · rw [numT_nat] at hc; exact .inr (dig m c hc)
  · cases m with
    | zero => rw [show (-((0 : Nat) : Int)) = ((0 : Nat) : Int) from rfl, numT_nat] at hc; exact .inr (dig 0 c hc)
    | succ k =>
      rw [numT_neg] at hc
      rcases List.mem_cons.mp hc with h | h
      · exact .inl h
      · exact .inr (dig _ c h)

abbrev ten30 : Int := 1000000000000000000000000000000
theorem numOk_digits {l : List Nat} (h : AllDigits l) (h1 : l ≠ []) (h2 : l.length ≤ 30) : numOk l = true ∧ numVal l = ((digitsVal l : Nat) : Int) := by
  cases l with
  | nil => exact absurd rfl h1
  | cons c r =>
    have hc : c ≠ 45 := by have := h.head; omega
    refine ⟨?_, numVal_other hc⟩
    unfold numOk
    rw [figs_other hc]
    have ha : (c :: r).all isDig = true := List.all_eq_true.mpr fun d hd => by have := h d hd; simp [isDig, this]
    rw [ha, decide_eq_true h2]; rfl
theorem numOk_neg {l : List Nat} (h : AllDigits l) (h1 : l ≠ []) (h2 : l.length ≤ 30) : numOk (45 :: l) = true ∧ numVal (45 :: l) = -((digitsVal l : Nat) : Int) := by
  refine ⟨?_, rfl⟩
  show (!l.isEmpty && decide (l.length ≤ 30) && l.all isDig) = true
  have ha : l.all isDig = true := List.all_eq_true.mpr fun d hd => by have := h d hd; simp [isDig, this]
  rw [ha, decide_eq_true h2]
  cases l with
  | nil => exact absurd rfl h1
  | cons c r => rfl
theorem digs_of (m : Nat) (hm : m < 10 ^ 30) : AllDigits ((Nat.toDigits 10 m).map Char.toNat) ∧ (Nat.toDigits 10 m).map Char.toNat ≠ [] ∧ ((Nat.toDigits 10 m).map Char.toNat).length ≤ 30 := by
  refine ⟨fun c hc => ?_, fun e => ?_, ?_⟩
  · obtain ⟨ch, hch, e⟩ := List.mem_map.mp hc
    have r := digit_range (Nat.isDigit_of_mem_toDigits (by decide) (by decide) hch)
    rw [← e]; exact r
  · have h := toDigits_len_ge 10 m
    rw [List.map_eq_nil_iff.mp e] at h
    exact absurd h (by decide)
  · rw [List.length_map]; exact toDigits_len_pow (by decide) (by decide) hm
theorem num_back {i : Int} (h1 : -ten30 < i) (h2 : i < ten30) : pNum (numT i) = some i := by
  unfold pNum
  rcases Int.eq_nat_or_neg i with ⟨m, rfl | rfl⟩
  · obtain ⟨d1, d2, d3⟩ := digs_of m (by unfold ten30 at h2; omega)
    obtain ⟨k1, k2⟩ := numOk_digits d1 d2 d3
    rw [numT_nat, if_pos k1, k2, KIN.val_back]
  · cases m with
    | zero =>
      obtain ⟨d1, d2, d3⟩ := digs_of 0 (by decide)
      obtain ⟨k1, k2⟩ := numOk_digits d1 d2 d3
      rw [show (-((0 : Nat) : Int)) = ((0 : Nat) : Int) from rfl, numT_nat, if_pos k1, k2, KIN.val_back]
    | succ k =>
      obtain ⟨d1, d2, d3⟩ := digs_of (k + 1) (by unfold ten30 at h1; omega)
      obtain ⟨k1, k2⟩ := numOk_neg d1 d2 d3
      rw [numT_neg, if_pos k1, k2, KIN.val_back]
noncomputable def RS.fin : RS → Prop
  | .put b v => (-ten30 < b ∧ b < ten30) ∧ (-ten30 < v ∧ v < ten30)
  | .get b => -ten30 < b ∧ b < ten30
  | .fence => True
theorem pStepW_words {r : RS} (h : r.fin) : pStepW r.words = some r := by
  cases r with
  | put b v =>
    unfold pStepW
    show (if [wPut, numT b, numT v] = [wFence] then some RS.fence else if wPut = wPut then (pNum (numT b)).bind fun i => (pNum (numT v)).map fun j => RS.put i j else none) = _
    rw [if_neg (put_ne _ _), if_pos rfl, num_back h.1.1 h.1.2, num_back h.2.1 h.2.2]; rfl
  | get b =>
    unfold pStepW
    show (if [wGet, numT b] = [wFence] then some RS.fence else if wGet = wGet then (pNum (numT b)).map RS.get else none) = _
    rw [if_neg (get_ne _), if_pos rfl, num_back h.1 h.2]; rfl
  | fence => unfold pStepW; exact if_pos rfl
theorem mark1 : Mark sp1 0 32 := ⟨by decide +kernel, fun i h => absurd h (Nat.not_lt_zero _)⟩
theorem mark2 : Mark sp2 0 59 := ⟨by decide +kernel, fun i h => absurd h (Nat.not_lt_zero _)⟩
theorem mark3 : Mark sp3 1 124 := ⟨by decide +kernel, fun i h => by
  have : i = 0 := by omega
  subst this; decide +kernel⟩
noncomputable def wordS (c : Nat) : Bool := c != 32 && c != 59 && c != 124
theorem words_signs {r : RS} : ∀ w ∈ r.words, ∀ c ∈ w.cps.toList, wordS c = true := by
  have hn : ∀ (i : Int), ∀ c ∈ (numT i).cps.toList, wordS c = true := fun i c hc => by
    rcases num_signs i c hc with h | h
    · subst h; rfl
    · unfold wordS
      have a : c ≠ 32 := by omega
      have b : c ≠ 59 := by omega
      have d : c ≠ 124 := by omega
      simp [a, b, d]
  have hp : ∀ c ∈ wPut.cps.toList, wordS c = true := by decide +kernel
  have hg : ∀ c ∈ wGet.cps.toList, wordS c = true := by decide +kernel
  have hf : ∀ c ∈ wFence.cps.toList, wordS c = true := by decide +kernel
  intro w hw
  cases r with
  | put b v =>
    have hw' : w ∈ [wPut, numT b, numT v] := hw
    simp only [List.mem_cons, List.not_mem_nil, or_false] at hw'
    rcases hw' with rfl | rfl | rfl
    · exact hp
    · exact hn b
    · exact hn v
  | get b =>
    have hw' : w ∈ [wGet, numT b] := hw
    simp only [List.mem_cons, List.not_mem_nil, or_false] at hw'
    rcases hw' with rfl | rfl
    · exact hg
    · exact hn b
  | fence =>
    have hw' : w ∈ [wFence] := hw
    rw [List.mem_singleton.mp hw']; exact hf
theorem words_ne (r : RS) : r.words ≠ [] := by cases r <;> (intro e; cases e)
theorem mem_join {y : Str} {c : Nat} : ∀ {ps : List Str}, c ∈ (Str.join y ps).cps.toList → (∃ p ∈ ps, c ∈ p.cps.toList) ∨ c ∈ y.cps.toList
  | [], h => absurd h (by show ¬ c ∈ (Str.empty).cps.toList; simp [Str.empty])
  | [p], h => .inl ⟨p, List.mem_singleton.mpr rfl, h⟩
  | p :: q :: r, h => by
    rw [join_list] at h
    rcases List.mem_append.mp h with h | h
    · exact .inl ⟨p, List.mem_cons_self, h⟩
    · rcases List.mem_append.mp h with h | h
      · exact .inr h
      · rcases mem_join h with ⟨z, hz, hc⟩ | h
        · exact .inl ⟨z, List.mem_cons_of_mem _ hz, hc⟩
        · exact .inr h
theorem part_in {y : Str} {c : Nat} {p : Str} : ∀ {ps : List Str}, p ∈ ps → c ∈ p.cps.toList → c ∈ (Str.join y ps).cps.toList
  | [], h, _ => absurd h (by simp)
  | [q], h, hc => by rw [List.mem_singleton.mp h] at hc; exact hc
  | q :: z :: r, h, hc => by
    rw [join_list]
    rcases List.mem_cons.mp h with rfl | h
    · exact List.mem_append_left _ hc
    · exact List.mem_append_right _ (List.mem_append_right _ (part_in h hc))
theorem split_text (r : RS) : Txt.split r.text sp1 = r.words := split_join mark1 (by decide +kernel) (words_ne r) fun w hw hm => by
  have := words_signs w hw 32 hm
  exact absurd this (by decide)
theorem pStep_text {r : RS} (h : r.fin) : pStep r.text = some r := by unfold pStep; rw [split_text]; exact pStepW_words h
theorem text_signs {r : RS} : ∀ c ∈ r.text.cps.toList, c ≠ 59 ∧ c ≠ 124 := fun c hc => by
  rcases mem_join hc with ⟨w, hw, h⟩ | h
  · have := words_signs w hw c h
    unfold wordS at this
    simp only [Bool.and_eq_true, bne_iff_ne] at this
    exact ⟨this.1.2, this.2⟩
  · exact (by decide +kernel : ∀ c ∈ sp1.cps.toList, c ≠ 59 ∧ c ≠ 124) c h
theorem text_pos (r : RS) : 1 ≤ r.text.length := by
  cases r with
  | put b v =>
    have : (RS.put b v).text.length = wPut.length + sp1.length + (Str.join sp1 [numT b, numT v]).length := join_len _ _ _ _
    have h3 : wPut.length = 3 := by decide +kernel
    omega
  | get b =>
    have : (RS.get b).text.length = wGet.length + sp1.length + (Str.join sp1 [numT b]).length := join_len _ _ _ _
    have h3 : wGet.length = 3 := by decide +kernel
    omega
  | fence => exact (by decide +kernel : 1 ≤ wFence.length)
theorem row_ne {r : RS} {row : List RS} : rowT (r :: row) ≠ Str.empty := fun e => by
  have h1 := text_pos r
  have hl : (rowT (r :: row)).length = 0 := by rw [e]; rfl
  cases row with
  | nil => have : (rowT [r]).length = r.text.length := rfl; omega
  | cons s l =>
    have : (rowT (r :: s :: l)).length = r.text.length + sp2.length + (Str.join sp2 ((s :: l).map RS.text)).length := join_len _ _ _ _
    omega
theorem partsR_row (row : List RS) : partsR (rowT row) = row.map RS.text := by
  cases row with
  | nil => unfold partsR; exact if_pos rfl
  | cons r l =>
    unfold partsR
    rw [if_neg row_ne]
    refine split_join mark2 (by decide +kernel) (by simp) fun p hp hm => ?_
    obtain ⟨z, _, rfl⟩ := List.mem_map.mp hp
    exact (text_signs 59 hm).1 rfl
theorem row_signs {row : List RS} : 124 ∉ (rowT row).cps.toList := fun hm => by
  rcases mem_join hm with ⟨w, hw, h⟩ | h
  · obtain ⟨z, _, rfl⟩ := List.mem_map.mp hw
    exact (text_signs 124 h).2 rfl
  · exact absurd h (by decide +kernel)
theorem split_web {W : List (List RS)} (h : W ≠ []) : Txt.split (webT W) sp3 = W.map rowT := by
  refine split_join mark3 (by decide +kernel) (by simpa using h) fun p hp hm => ?_
  obtain ⟨z, _, rfl⟩ := List.mem_map.mp hp
  exact row_signs hm
theorem web_back {W : List (List RS)} (h : W ≠ []) (hf : ∀ row ∈ W, ∀ r ∈ row, r.fin) : webOkP (webT W) = true ∧ webD (webT W) = W := by
  unfold webOkP webD
  rw [split_web h]
  refine ⟨List.all_eq_true.mpr fun p hp => ?_, ?_⟩
  · obtain ⟨row, hr, rfl⟩ := List.mem_map.mp hp
    unfold rowOk
    rw [partsR_row]
    refine List.all_eq_true.mpr fun q hq => ?_
    obtain ⟨r, hrr, rfl⟩ := List.mem_map.mp hq
    rw [pStep_text (hf row hr r hrr)]; rfl
  · rw [List.map_map]
    refine (List.map_congr_left fun row hr => ?_).trans (List.map_id' _)
    show rowD (rowT row) = row
    unfold rowD
    rw [partsR_row, List.map_map]
    refine (List.map_congr_left fun r hrr => ?_).trans (List.map_id' _)
    show stepD r.text = r
    unfold stepD
    rw [pStep_text (hf row hr r hrr)]; rfl
/-! how long -/
theorem len_join_part {y p : Str} : ∀ {ps : List Str}, p ∈ ps → p.length ≤ (Str.join y ps).length
  | [], h => absurd h (by simp)
  | [q], h => by rw [List.mem_singleton.mp h]; exact Nat.le_refl _
  | q :: z :: r, h => by
    rw [join_len]
    rcases List.mem_cons.mp h with rfl | h
    · omega
    · have := len_join_part (y := y) h; omega
theorem count_join {y : Str} (hy : 1 ≤ y.length) : ∀ ps : List Str, ps.length ≤ (Str.join y ps).length + 1
  | [] => by simp
  | [q] => by simp
  | q :: z :: r => by
    rw [join_len]
    have := count_join hy (z :: r)
    simp only [List.length_cons] at this ⊢
    omega
end Mine

set_option linter.unusedVariables false
set_option linter.unusedSimpArgs false
namespace Mine
open PySem PySem.StrLaws PySem.NumText PyProof.Rows Mine.Com

/-! texts among the plain values -/
section
variable {ρ : Rho} {μ : MH}
noncomputable def methK (o : Out MV) (g : Str → MV → MH → Out MV) (fe : D) (ρ : Rho) : Out MV := o.bind fun o μ => match o with
  | .str x => (fe ρ μ).bind fun v μ => g x v μ
  | _ => .stuck
noncomputable def methK2 (o : Out MV) (g : MV → MH → Out MV) : Out MV := o.bind g
@[simp] theorem ev_meth (g : Str → MV → MH → Out MV) (fo fe : D) : dMeth g fo fe ρ μ = methK (fo ρ μ) g fe ρ := (rfl)
@[simp] theorem methK_str (x : Str) (g : Str → MV → MH → Out MV) (fe : D) : methK (.ok (.str x) μ) g fe ρ = methK2 (fe ρ μ) (g x) := (rfl)
@[simp] theorem methK2_ok (v : MV) (g : MV → MH → Out MV) : methK2 (.ok v μ) g = g v μ := (rfl)
@[simp] theorem methK2_exc (c : Str) (g : MV → MH → Out MV) : methK2 (.exc c μ) g = .exc c μ := (rfl)
@[simp] theorem starts_str (x y : Str) : startsM x (.str y) μ = .ok (.bool (Txt.startswith x y)) μ := (rfl)
noncomputable def strIK (o : Out MV) : Out Src := o.bind fun v μ => match v with
  | .str x => .ok ⟨signsL x, fun _ => True⟩ μ
  | _ => .stuck
@[simp] theorem ev_iStr (f : D) : iStr f ρ μ = strIK (f ρ μ) := (rfl)
@[simp] theorem strIK_ok (x : Str) : strIK (.ok (.str x) μ) = .ok ⟨signsL x, fun _ => True⟩ μ := (rfl)
@[simp] theorem strOf_str (x : Str) : strOfM [.str x] μ = .ok (.str x) μ := (rfl)
theorem strOf_int {i : Int} (h1 : -ten30 < i) (h2 : i < ten30) : strOfM [.int i] μ = .ok (.str (numT i)) μ := by
  refine if_pos ?_
  have hb : i.natAbs < 2 ^ 1920 := Nat.lt_of_lt_of_le (show i.natAbs < 2 ^ 100 by unfold ten30 at h1 h2; omega) (Nat.pow_le_pow_right (by decide) (by decide))
  by_cases h0 : i.natAbs = 0
  · rw [h0]; decide
  · exact (Nat.log2_lt h0).mpr hb
theorem intStr_ok {w : Str} {i : Int} (h : pNum w = some i) : intStrM [.str w] μ = .ok (.int i) μ := by
  unfold pNum at h
  split at h
  · rename_i hn
    cases h
    have hl := len_le hn
    show (if w.length ≤ 640 then (match PySem.intText? w with | some i => Out.ok (MV.int i) μ | none => .stuck) else .stuck) = _
    rw [if_pos (by omega), intText_num hn]
  · cases h
theorem notIn_str (a b : Str) : notInStrM (.str a) (.str b) μ = .ok (.bool (!Txt.contains b a)) μ := (rfl)

theorem split_ok {x y : Str} (hy : (y.length == 0) = false) (hx : x.length ≤ 10000) : splitM x (.str y) μ = .ok (.lst μ.length) (μ ++ [(Txt.split x y).map .str]) := by
  refine if_pos ⟨hy, by unfold sizeLine; omega, ?_⟩
  have h := occ_length_le x y 0 x.length (x.length + 1)
  have e : (Builtin.Str.partsBetween x (Builtin.Str.occurrences x y 0 x.length (x.length + 1)) y.length).length = (Builtin.Str.occurrences x y 0 x.length (x.length + 1)).length + 1 := by
    unfold Builtin.Str.partsBetween
    simp
  rw [e]; unfold sizeLine; omega
theorem join_total {y : Str} : ∀ ts : List Str, (ts.map (·.length)).sum + ts.length * y.length ≤ (Str.join y ts).length + y.length
  | [] => by simp
  | [t] => by
    show (t.length + 0) + 1 * y.length ≤ t.length + y.length
    omega
  | t :: u :: r => by
    rw [join_len]
    have ih := join_total (y := y) (u :: r)
    have e : (t :: u :: r).length * y.length = (u :: r).length * y.length + y.length := by rw [List.length_cons (a := t), Nat.succ_mul]
    rw [e, List.map_cons, List.sum_cons]
    omega
theorem join_ok {y : Str} {ts : List Str} {k : Nat} (h : μ[k]? = some (ts.map .str)) (hl : (Str.join y ts).length ≤ 10000) (hy : y.length ≤ 10000) : joinM y (.lst k) μ = .ok (.str (Str.join y ts)) μ := by
  rw [joinM_lst, h]
  show (match strsOf (ts.map .str) with | some ts => if JoinOk y ts = true then Out.ok (MV.str (Txt.join y ts)) μ else .stuck | none => .stuck) = _
  rw [strsOf_map]
  have hk : JoinOk y ts = true := by
    unfold JoinOk
    rw [joinTotal]
    have := join_total (y := y) ts
    simp [Builtin.Str.tooLong]
    unfold sizeLine
    omega
  have e : Txt.join y ts = Str.join y ts := glued_eq_join y ts
  show (if JoinOk y ts = true then Out.ok (MV.str (Txt.join y ts)) μ else .stuck) = _
  rw [if_pos hk, e]

/-! slices and items -/
theorem str_ext {a b : Str} (h : a.cps.toList = b.cps.toList) : a = b := Str.ext' (Array.toList_inj.mp h)
noncomputable def dropS (x : Str) (n : Nat) : Str := ⟨(x.cps.toList.drop n).toArray⟩
noncomputable def takeS (x : Str) (n : Nat) : Str := ⟨(x.cps.toList.take n).toArray⟩
theorem slice_drop (x : Str) (n : Nat) : Txt.slice x (some (n : Int)) none = dropS x n := by
  have hx := len_list x
  by_cases h : n ≤ x.length
  · rw [slice_from_eq (b := (x.length : Int)) (by omega) (by omega) rfl]
    unfold dropS
    rw [Int.toNat_natCast, List.take_of_length_le (by rw [List.length_drop]; omega)]
  · rw [slice_beyond (by omega)]
    unfold dropS
    rw [List.drop_of_length_le (by omega)]; rfl
theorem slice_take {x : Str} {n : Nat} (h : n ≤ x.length) : Txt.slice x none (some (n : Int)) = takeS x n := by
  have := beq_iff_eq.mp (slice_closes_toL (x := x) (j := (n : Int)) (by omega) (by omega))
  rw [this]
  unfold takeS
  simp
theorem slice_one (x : Str) : Txt.slice x none (some (1 : Int)) = takeS x 1 := by
  by_cases h : 1 ≤ x.length
  · exact slice_take (n := 1) h
  · have h0 : x.length = 0 := by omega
    have h1 := Txt.slice_le x none (some (1 : Int))
    apply str_ext
    have e1 : (Txt.slice x none (some (1 : Int))).cps.toList = [] := List.eq_nil_of_length_eq_zero (by rw [len_list]; omega)
    have e2 : x.cps.toList = [] := List.eq_nil_of_length_eq_zero (by rw [len_list]; exact h0)
    rw [e1]
    show [] = (x.cps.toList.take 1).toArray.toList
    rw [e2]; rfl
theorem cutFromS_ok {x : Str} {n : Nat} (hx : x.length ≤ 10000) : cutFromS (.str x) (.int n) μ = .ok (.str (dropS x n)) μ := by
  have : cutFromS (.str x) (.int n) μ = .ok (.str (Txt.slice x (some (n : Int)) none)) μ := if_pos (by unfold sizeLine; omega)
  rw [this, slice_drop]
theorem cutToS_ok {x : Str} {n : Nat} (hx : x.length ≤ 10000) (hn : n ≤ x.length) : cutToS (.str x) (.int n) μ = .ok (.str (takeS x n)) μ := by
  have : cutToS (.str x) (.int n) μ = .ok (.str (Txt.slice x none (some (n : Int)))) μ := if_pos (by unfold sizeLine; omega)
  rw [this, slice_take hn]
theorem cutToS_one {x : Str} (hx : x.length ≤ 10000) : cutToS (.str x) (.int 1) μ = .ok (.str (takeS x 1)) μ := by
  have : cutToS (.str x) (.int 1) μ = .ok (.str (Txt.slice x none (some (1 : Int)))) μ := if_pos (by unfold sizeLine; omega)
  rw [this, slice_one]
theorem idxS_ok {x : Str} {n c : Nat} (h : x.cps.toList[n]? = some c) (hn : n < 10000) : idxS (.str x) (.int n) μ = .ok (.str ⟨#[c]⟩) μ := by
  have hlt : n < x.length := by rw [← len_list]; exact (List.getElem?_eq_some_iff.mp h).1
  have hi : seqIndex? (n : Int) x.length = some n := by
    unfold seqIndex?
    simp
    omega
  have hc : Txt.charAt x (n : Int) = some c := by
    unfold Txt.charAt
    rw [hi]
    show x.cps[n]? = some c
    rw [← h]; simp
  have hk : (fitsSsize (n : Int) && (Txt.charAt x (n : Int)).isSome) = true := by
    rw [hc]
    have : fitsSsize (n : Int) = true := by unfold fitsSsize; simp; omega
    rw [this]; rfl
  have : idxS (.str x) (.int n) μ = .ok (.str (Txt.item x n)) μ := if_pos hk
  rw [this]
  unfold Txt.item
  rw [hc]; rfl
theorem starts_minus (x : Str) : Txt.startswith x (Str.ofString "-") = decide (x.cps.toList.head? = some 45) := by
  have hm : (Str.ofString "-") = ⟨#[45]⟩ := by decide +kernel
  rw [hm]
  unfold Txt.startswith
  have := subAt_one x 45 0
  rw [Bool.eq_iff_iff, Bool.and_eq_true, decide_eq_true_eq, decide_eq_true_eq, List.head?_eq_getElem?]
  exact this
theorem contains_dig (c : Nat) : Txt.contains (Str.ofString "0123456789") ⟨#[c]⟩ = isDig c := by
  have h := found_iff (Str.ofString "0123456789") ⟨#[c]⟩
  have e : (Str.ofString "0123456789").cps.toList = [48, 49, 50, 51, 52, 53, 54, 55, 56, 57] := by decide +kernel
  unfold Txt.contains
  rw [Bool.eq_iff_iff, h]
  constructor
  · rintro ⟨i, h1⟩
    have h2 := (subAt_one _ c i).mp h1
    have h3 := List.mem_of_getElem? h2
    rw [e] at h3
    simp at h3
    unfold isDig
    simp
    omega
  · intro hd
    unfold isDig at hd
    simp at hd
    have hm : c ∈ (Str.ofString "0123456789").cps.toList := by rw [e]; simp; omega
    obtain ⟨i, hi⟩ := List.getElem?_of_mem hm
    exact ⟨i, (subAt_one _ c i).mpr hi⟩
end
end Mine

set_option linter.unusedVariables false
set_option linter.unusedSimpArgs false
namespace Mine
open PySem PySem.StrLaws PySem.NumText PyProof.Rows Mine.Com

/-! what may come of a call: a value, or an exception -/
inductive Elem (ok : Bool) (c : Str) (R : MV → MH → Prop) (μ : MH) (o : Out MV) : Prop
  | yes (v : MV) (μ' : MH) (hok : ok = true) (e : o = .ok v μ') (p : μ <+: μ') (r : R v μ') : Elem ok c R μ o
  | no (μ' : MH) (hok : ok = false) (e : o = .exc c μ') (p : μ <+: μ') : Elem ok c R μ o

/-- lists that stood, but for one, stand -/
noncomputable def Stays (k : Nat) (μ μ' : MH) : Prop := ∀ j ys, j ≠ k → μ[j]? = some ys → μ'[j]? = some ys
theorem stays_pre {k : Nat} {μ μ' : MH} (h : μ <+: μ') : Stays k μ μ' := fun j ys _ e => get_pre h e
theorem stays_set {k : Nat} {μ : MH} {xs : List MV} : Stays k μ (μ.set k xs) := fun j ys hj e => by rw [get_set_ne (Ne.symm hj)]; exact e
theorem Stays.trans {k : Nat} {μ μ' μ'' : MH} (a : Stays k μ μ') (b : Stays k μ' μ'') : Stays k μ μ'' := fun j ys hj e => b j ys hj (a j ys hj e)

structure All2 {α : Type} (R : α → MV → MH → Prop) (xs : List α) (vs : List MV) (μ : MH) : Prop where
  len : vs.length = xs.length
  at_ : ∀ (i : Nat) (x : α) (v : MV), xs[i]? = some x → vs[i]? = some v → R x v μ
theorem All2.mono {α : Type} {R : α → MV → MH → Prop} {xs : List α} {vs : List MV} {μ μ' : MH} {k : Nat} (hR : ∀ x v μ μ', R x v μ → Stays k μ μ' → R x v μ') (h : All2 R xs vs μ) (s : Stays k μ μ') : All2 R xs vs μ' := ⟨h.len, fun i x v h1 h2 => hR x v μ μ' (h.at_ i x v h1 h2) s⟩
theorem All2.nil {α : Type} {R : α → MV → MH → Prop} {μ : MH} : All2 R [] [] μ := ⟨rfl, fun i x v h => by simp at h⟩
theorem All2.snoc {α : Type} {R : α → MV → MH → Prop} {xs : List α} {vs : List MV} {μ : MH} {x : α} {v : MV} (h : All2 R xs vs μ) (r : R x v μ) : All2 R (xs ++ [x]) (vs ++ [v]) μ :=
  ⟨by simp [h.len], fun i y u h1 h2 => by
    have hl := h.len
    by_cases hi : i < xs.length
    · rw [List.getElem?_append_left hi] at h1
      rw [List.getElem?_append_left (by omega)] at h2
      exact h.at_ i y u h1 h2
    · rw [List.getElem?_append_right (by omega)] at h1
      rw [List.getElem?_append_right (by omega)] at h2
      have h0 : i - xs.length = 0 := by
        have := (List.getElem?_eq_some_iff.mp h1).1
        simp at this; omega
      have h0' : i - vs.length = 0 := by omega
      rw [h0] at h1; rw [h0'] at h2
      simp at h1 h2
      rw [← h1, ← h2]; exact r⟩
/-- the values are determined -/
theorem All2.eq_map {α : Type} {R : α → MV → MH → Prop} {xs : List α} {vs : List MV} {μ : MH} {g : α → MV} (h : All2 R xs vs μ) (hg : ∀ x v, R x v μ → v = g x) : vs = xs.map g := by
  apply List.ext_getElem?
  intro i
  by_cases hi : i < xs.length
  · have hi' : i < vs.length := by rw [h.len]; exact hi
    have h1 : xs[i]? = some xs[i] := List.getElem?_eq_getElem hi
    have h2 : vs[i]? = some vs[i] := List.getElem?_eq_getElem hi'
    rw [h2, List.getElem?_map, h1, hg _ _ (h.at_ i _ _ h1 h2)]; rfl
  · rw [List.getElem?_eq_none (by rw [h.len]; omega), List.getElem?_eq_none (by rw [List.length_map]; omega)]

theorem comp_exc {G : MH → Prop} {put : Rho → MV → Rho} {t e : D} {k : Nat} {v : MV} {vs : List MV} {ρ : Rho} {c : Str} {μ μ₁ μ₂ : MH} (h : G μ) (e1 : t (put ρ v) μ = .ok (.bool true) μ₁) (e2 : e (put ρ v) μ₁ = .exc c μ₂) : compM G put t e k (v :: vs) ρ μ = .exc c μ₂ := by
  rw [compM_cons, if_pos h, e1]
  simp only [Out.bind_ok, e2, Out.bind_exc]

theorem comp_rel {α : Type} {G : MH → Prop} {put : Rho → MV → Rho} {e : D} {ρ : Rho} {μ₀ : MH} {emb : α → MV} {ok : α → Bool} {c : Str} {R : α → MV → MH → Prop}
    (xs : List α) (hG : ∀ μ, μ₀ <+: μ → G μ) (hl : xs.length ≤ 1000) (hR : ∀ x v μ μ', R x v μ → Stays μ₀.length μ μ' → R x v μ')
    (he : ∀ x ∈ xs, ∀ μ, μ₀ <+: μ → μ₀.length < μ.length → Elem (ok x) c (R x) μ (e (put ρ (emb x)) μ)) :
    Elem (xs.all ok) c (fun v μ' => v = .lst μ₀.length ∧ ∃ vs, μ'[μ₀.length]? = some vs ∧ All2 R xs vs μ') μ₀ (compM G put (dConst (.bool true)) e μ₀.length (xs.map emb) ρ (μ₀ ++ [[]])) := by
  suffices ∀ (rest done : List α) (acc : List MV) (μ : MH), (∀ x ∈ rest, x ∈ xs) → μ₀ <+: μ → μ[μ₀.length]? = some acc → All2 R done acc μ → done.length + rest.length ≤ 1000 →
      Elem (rest.all ok) c (fun v μ' => v = .lst μ₀.length ∧ ∃ vs, μ'[μ₀.length]? = some vs ∧ All2 R (done ++ rest) vs μ') μ₀ (compM G put (dConst (.bool true)) e μ₀.length (rest.map emb) ρ μ) by
    exact this xs [] [] _ (fun x h => h) (pre_app _ _) (get_last []) All2.nil (by simpa using hl)
  intro rest
  induction rest with
  | nil =>
    intro done acc μ _ hp hk ha _
    exact .yes _ μ rfl (comp_nil (hG _ hp)) hp ⟨rfl, acc, hk, by rw [List.append_nil]; exact ha⟩
  | cons x rest ih =>
    intro done acc μ hm hp hk ha hlen
    have hlt : μ₀.length < μ.length := (List.getElem?_eq_some_iff.mp hk).1
    rcases he x (hm x List.mem_cons_self) μ hp hlt with ⟨v, μ', hok, ee, p, r⟩ | ⟨μ', hok, ee, p⟩
    · rw [List.map_cons, comp_yes (hG _ hp) rfl ee (get_pre p hk) (by rw [ha.len]; simp at hlen; omega)]
      have st : Stays μ₀.length μ (μ'.set μ₀.length (acc ++ [v])) := (stays_pre p).trans stays_set
      have := ih (done ++ [x]) (acc ++ [v]) (μ'.set μ₀.length (acc ++ [v])) (fun y hy => hm y (List.mem_cons_of_mem _ hy)) (pre_set (hp.trans p) (Nat.le_refl _)) (get_set_self (get_pre p hk)) ((ha.mono hR st).snoc (hR _ _ _ _ r stays_set)) (by simp at hlen ⊢; omega)
      rw [List.append_assoc] at this
      rw [List.all_cons, hok, Bool.true_and]
      exact this
    · rw [List.map_cons, comp_exc (hG _ hp) rfl ee]
      exact .no μ' (by rw [List.all_cons, hok, Bool.false_and]) rfl (hp.trans p)

theorem Elem.mono {ok : Bool} {c : Str} {R R' : MV → MH → Prop} {μ : MH} {o : Out MV} (h : Elem ok c R μ o) (hR : ∀ v μ', μ <+: μ' → R v μ' → R' v μ') : Elem ok c R' μ o := by
  rcases h with ⟨v, μ', hok, e, p, r⟩ | ⟨μ', hok, e, p⟩
  · exact .yes v μ' hok e p (hR v μ' p r)
  · exact .no μ' hok e p
theorem Elem.before {ok : Bool} {c : Str} {R : MV → MH → Prop} {μ₀ μ : MH} {o : Out MV} (p₀ : μ₀ <+: μ) (h : Elem ok c R μ o) : Elem ok c R μ₀ o := by
  rcases h with ⟨v, μ', hok, e, p, r⟩ | ⟨μ', hok, e, p⟩
  · exact .yes v μ' hok e (p₀.trans p) r
  · exact .no μ' hok e (p₀.trans p)

/-! good texts: short, and of signs that are signs -/
structure Good (x : Str) : Prop where
  ok : PyData.strOk x = true
  len : x.length ≤ 900
theorem strOk_iff {x : Str} : PyData.strOk x = true ↔ ∀ c ∈ x.cps.toList, c < 0x110000 := by
  unfold PyData.strOk
  rw [← Array.all_toList, List.all_eq_true]
  simp
theorem Good.split {x y : Str} (h : Good x) : ∀ p ∈ Txt.split x y, Good p := fun p hp => by
  refine ⟨strOk_iff.mpr fun c hc => ?_, ?_⟩
  · have := part_in (y := y) hp hc
    rw [join_split] at this
    exact strOk_iff.mp h.ok c this
  · have := len_join_part (y := y) hp
    rw [join_split] at this
    exact Nat.le_trans this h.len
theorem Good.count {x y : Str} (h : Good x) (hy : 1 ≤ y.length) : (Txt.split x y).length ≤ 1000 := by
  have := count_join hy (Txt.split x y)
  rw [join_split] at this
  have := h.len
  omega
theorem eqvAll_strs : ∀ ts us : List Str, PyData.eqvAll (ts.map .str) (us.map .str) = decide (ts = us)
  | [], [] => rfl
  | [], u :: us => by simp [PyData.eqvAll]
  | t :: ts, [] => by simp [PyData.eqvAll]
  | t :: ts, u :: us => by
    rw [List.map_cons, List.map_cons, PyData.eqvAll, eqvAll_strs ts us, PyData.eqv]
    rw [Bool.eq_iff_iff]
    simp
theorem canLay_strs : ∀ {ts : List Str}, (∀ t ∈ ts, PyData.strOk t = true) → PyData.canLayAll0 (ts.map .str) = true
  | [], _ => rfl
  | t :: ts, h => by
    rw [List.map_cons, PyData.canLayAll0, PyData.canLay0, h t List.mem_cons_self, canLay_strs fun x hx => h x (List.mem_cons_of_mem _ hx)]; rfl
theorem mapM_strs {μ : MH} {d : Nat} : ∀ ts : List Str, (ts.map MV.str).mapM (toPy μ d) = some (ts.map .str)
  | [] => rfl
  | t :: ts => by
    rw [List.map_cons, List.mapM_cons, mapM_strs ts]
    cases d <;> rfl
theorem eq_strs {μ : MH} {k j : Nat} {ts us : List Str} (hk : μ[k]? = some (ts.map .str)) (hj : μ[j]? = some (us.map .str)) (ht : ∀ t ∈ ts, PyData.strOk t = true) (hu : ∀ t ∈ us, PyData.strOk t = true) : eqM (.lst k) (.lst j) μ = .ok (.bool (decide (ts = us))) μ := by
  unfold eqM
  rw [toPy_lst hk (mapM_strs ts), toPy_lst hj (mapM_strs us)]
  simp only [PyData.canLay0, canLay_strs ht, canLay_strs hu, Bool.and_self, if_true]
  rw [PyData.eqv, eqvAll_strs]
end Mine

set_option linter.unusedVariables false
set_option Elab.async false
set_option maxRecDepth 100000
namespace Mine.L12
open PySem Mine Mine.Com
noncomputable def xs : List Str := [(Str.ofString "WebError"), (Str.ofString "BadWeb"), (Str.ofString "NoMove"), (Str.ofString "NotOver"), (Str.ofString "NoPlace"), (Str.ofString "NoText")]
theorem plain_of {c : Str} (hc : c ∈ xs) (hs : subX c (Str.ofString "BadWeb") = true) : plainC c = true := (by decide +kernel : ∀ c ∈ xs, subX c (Str.ofString "BadWeb") = true → plainC c = true) c hc hs
noncomputable def sg_is_whole : Sg := ⟨namesAt Challenge.pw_uf030029_12 12, [((Str.ofString "thing"), 0)], true⟩
theorem v_is_whole_thing {C : Cx} {q : Bool} {n : Nat} {pos : Pos} : ESound C q n sg_is_whole (.Name (Str.ofString "thing") pos) (dVar 0) := snd_var (by decide +kernel) (.inl (by decide +kernel)) (by decide +kernel)
noncomputable def sg_is_box : Sg := ⟨namesAt Challenge.pw_uf030029_12 13, [((Str.ofString "thing"), 0)], true⟩
theorem v_is_box_thing {C : Cx} {q : Bool} {n : Nat} {pos : Pos} : ESound C q n sg_is_box (.Name (Str.ofString "thing") pos) (dVar 0) := snd_var (by decide +kernel) (.inl (by decide +kernel)) (by decide +kernel)
noncomputable def sg_is_step : Sg := ⟨namesAt Challenge.pw_uf030029_12 14, [((Str.ofString "thing"), 0)], true⟩
theorem v_is_step_thing {C : Cx} {q : Bool} {n : Nat} {pos : Pos} : ESound C q n sg_is_step (.Name (Str.ofString "thing") pos) (dVar 0) := snd_var (by decide +kernel) (.inl (by decide +kernel)) (by decide +kernel)
noncomputable def sg_need_web : Sg := ⟨namesAt Challenge.pw_uf030029_12 15, [((Str.ofString "web"), 0), ((Str.ofString "deeds"), 1), ((Str.ofString "row"), 2), ((Str.ofString "step"), 3)], true⟩
theorem V_need_web : VarsOk sg_need_web.vars := VarsOk.of (by decide +kernel) (by decide +kernel)
theorem v_need_web_web {C : Cx} {q : Bool} {n : Nat} {pos : Pos} : ESound C q n sg_need_web (.Name (Str.ofString "web") pos) (dVar 0) := snd_var (by decide +kernel) (.inl (by decide +kernel)) (by decide +kernel)
theorem v_need_web_deeds {C : Cx} {q : Bool} {n : Nat} {pos : Pos} : ESound C q n sg_need_web (.Name (Str.ofString "deeds") pos) (dVar 1) := snd_var (by decide +kernel) (.inl (by decide +kernel)) (by decide +kernel)
theorem v_need_web_row {C : Cx} {q : Bool} {n : Nat} {pos : Pos} : ESound C q n sg_need_web (.Name (Str.ofString "row") pos) (dVar 2) := snd_var (by decide +kernel) (.inl (by decide +kernel)) (by decide +kernel)
theorem v_need_web_step {C : Cx} {q : Bool} {n : Nat} {pos : Pos} : ESound C q n sg_need_web (.Name (Str.ofString "step") pos) (dVar 3) := snd_var (by decide +kernel) (.inl (by decide +kernel)) (by decide +kernel)
noncomputable def sg_step_text : Sg := ⟨namesAt Challenge.pw_uf030029_12 18, [((Str.ofString "step"), 0)], true⟩
theorem v_step_text_step {C : Cx} {q : Bool} {n : Nat} {pos : Pos} : ESound C q n sg_step_text (.Name (Str.ofString "step") pos) (dVar 0) := snd_var (by decide +kernel) (.inl (by decide +kernel)) (by decide +kernel)
noncomputable def d_step_text : DS := (dSeq (dRet (dMeth joinM (dConst (.str (Str.ofString " "))) (dComp (iSeq (dVar 0)) (dConst (.bool true)) (dCall strOfM (dCons (dVar 1) dNil)) 1))) dSkip)
noncomputable def f_step_text : List MV → MH → Out MV := dDef 1 d_step_text
noncomputable def sg_shown : Sg := ⟨namesAt Challenge.pw_uf030029_12 19, [((Str.ofString "web"), 0)], true⟩
theorem v_shown_web {C : Cx} {q : Bool} {n : Nat} {pos : Pos} : ESound C q n sg_shown (.Name (Str.ofString "web") pos) (dVar 0) := snd_var (by decide +kernel) (.inl (by decide +kernel)) (by decide +kernel)
noncomputable def d_shown : DS := (dSeq (dExpr (dCall f_need_web (dCons (dVar 0) dNil))) (dSeq (dRet (dMeth joinM (dConst (.str (Str.ofString " | "))) (dComp (iSeq (dVar 0)) (dConst (.bool true)) (dMeth joinM (dConst (.str (Str.ofString "; "))) (dComp (iSeq (dVar 1)) (dConst (.bool true)) (dCall f_step_text (dCons (dVar 2) dNil)) 2)) 1))) dSkip))
noncomputable def f_shown : List MV → MH → Out MV := dDef 1 d_shown
noncomputable def sg_number_of : Sg := ⟨namesAt Challenge.pw_uf030029_12 20, [((Str.ofString "word"), 0), ((Str.ofString "figures"), 1), ((Str.ofString "sign"), 2)], true⟩
theorem V_number_of : VarsOk sg_number_of.vars := VarsOk.of (by decide +kernel) (by decide +kernel)
theorem v_number_of_word {C : Cx} {q : Bool} {n : Nat} {pos : Pos} : ESound C q n sg_number_of (.Name (Str.ofString "word") pos) (dVar 0) := snd_var (by decide +kernel) (.inl (by decide +kernel)) (by decide +kernel)
theorem v_number_of_figures {C : Cx} {q : Bool} {n : Nat} {pos : Pos} : ESound C q n sg_number_of (.Name (Str.ofString "figures") pos) (dVar 1) := snd_var (by decide +kernel) (.inl (by decide +kernel)) (by decide +kernel)
theorem v_number_of_sign {C : Cx} {q : Bool} {n : Nat} {pos : Pos} : ESound C q n sg_number_of (.Name (Str.ofString "sign") pos) (dVar 2) := snd_var (by decide +kernel) (.inl (by decide +kernel)) (by decide +kernel)
noncomputable def d_number_of : DS := (dSeq (dAssign 1 (dVar 0)) (dSeq (dIfS (dMeth startsM (dVar 0) (dConst (.str (Str.ofString "-")))) (dSeq (dAssign 1 (dBin cutFromS (dVar 0) (dConst (.int 1)))) dSkip) dSkip) (dSeq (dIfS (dOr (dBin eqM (dVar 1) (dConst (.str (Str.ofString "")))) (dBin gtM (dCall lenM (dCons (dVar 1) dNil)) (dConst (.int 30)))) (dSeq (dRaise (Str.ofString "NoText") (dConst (.str (Str.ofString "a number is wanted")))) dSkip) dSkip) (dSeq (dFor (iStr (dVar 1)) (putAt 2) (dSeq (dIfS (dBin notInStrM (dVar 2) (dConst (.str (Str.ofString "0123456789")))) (dSeq (dRaise (Str.ofString "NoText") (dConst (.str (Str.ofString "a number is wanted")))) dSkip) dSkip) dSkip)) (dSeq (dRet (dCall intStrM (dCons (dVar 0) dNil))) dSkip)))))
noncomputable def f_number_of : List MV → MH → Out MV := dDef 1 d_number_of
noncomputable def sg_step_of : Sg := ⟨namesAt Challenge.pw_uf030029_12 21, [((Str.ofString "text"), 0), ((Str.ofString "words"), 1)], true⟩
theorem V_step_of : VarsOk sg_step_of.vars := VarsOk.of (by decide +kernel) (by decide +kernel)
theorem v_step_of_text {C : Cx} {q : Bool} {n : Nat} {pos : Pos} : ESound C q n sg_step_of (.Name (Str.ofString "text") pos) (dVar 0) := snd_var (by decide +kernel) (.inl (by decide +kernel)) (by decide +kernel)
theorem v_step_of_words {C : Cx} {q : Bool} {n : Nat} {pos : Pos} : ESound C q n sg_step_of (.Name (Str.ofString "words") pos) (dVar 1) := snd_var (by decide +kernel) (.inl (by decide +kernel)) (by decide +kernel)
noncomputable def d_step_of : DS := (dSeq (dAssign 1 (dMeth splitM (dVar 0) (dConst (.str (Str.ofString " "))))) (dSeq (dIfS (dBin eqM (dVar 1) (dList (dCons (dConst (.str (Str.ofString "fence"))) dNil))) (dSeq (dRet (dTup (dCons (dConst (.str (Str.ofString "fence"))) dNil))) dSkip) dSkip) (dSeq (dIfS (dAnd (dBin eqM (dCall lenM (dCons (dVar 1) dNil)) (dConst (.int 2))) (dBin eqM (dBin idxM (dVar 1) (dConst (.int 0))) (dConst (.str (Str.ofString "get"))))) (dSeq (dRet (dTup (dCons (dConst (.str (Str.ofString "get"))) (dCons (dCall f_number_of (dCons (dBin idxM (dVar 1) (dConst (.int 1))) dNil)) dNil)))) dSkip) dSkip) (dSeq (dIfS (dAnd (dBin eqM (dCall lenM (dCons (dVar 1) dNil)) (dConst (.int 3))) (dBin eqM (dBin idxM (dVar 1) (dConst (.int 0))) (dConst (.str (Str.ofString "put"))))) (dSeq (dRet (dTup (dCons (dConst (.str (Str.ofString "put"))) (dCons (dCall f_number_of (dCons (dBin idxM (dVar 1) (dConst (.int 1))) dNil)) (dCons (dCall f_number_of (dCons (dBin idxM (dVar 1) (dConst (.int 2))) dNil)) dNil))))) dSkip) dSkip) (dSeq (dRaise (Str.ofString "NoText") (dConst (.str (Str.ofString "a step is wanted")))) dSkip)))))
noncomputable def f_step_of : List MV → MH → Out MV := dDef 1 d_step_of
noncomputable def sg_row_of : Sg := ⟨namesAt Challenge.pw_uf030029_12 22, [((Str.ofString "text"), 0)], true⟩
theorem v_row_of_text {C : Cx} {q : Bool} {n : Nat} {pos : Pos} : ESound C q n sg_row_of (.Name (Str.ofString "text") pos) (dVar 0) := snd_var (by decide +kernel) (.inl (by decide +kernel)) (by decide +kernel)
noncomputable def d_row_of : DS := (dSeq (dIfS (dBin eqM (dVar 0) (dConst (.str (Str.ofString "")))) (dSeq (dRet (dList dNil)) dSkip) dSkip) (dSeq (dRet (dComp (iSeq (dMeth splitM (dVar 0) (dConst (.str (Str.ofString "; "))))) (dConst (.bool true)) (dCall f_step_of (dCons (dVar 1) dNil)) 1)) dSkip))
noncomputable def f_row_of : List MV → MH → Out MV := dDef 1 d_row_of
noncomputable def sg_read : Sg := ⟨namesAt Challenge.pw_uf030029_12 23, [((Str.ofString "text"), 0), ((Str.ofString "web"), 1)], true⟩
theorem V_read : VarsOk sg_read.vars := VarsOk.of (by decide +kernel) (by decide +kernel)
theorem v_read_text {C : Cx} {q : Bool} {n : Nat} {pos : Pos} : ESound C q n sg_read (.Name (Str.ofString "text") pos) (dVar 0) := snd_var (by decide +kernel) (.inl (by decide +kernel)) (by decide +kernel)
theorem v_read_web {C : Cx} {q : Bool} {n : Nat} {pos : Pos} : ESound C q n sg_read (.Name (Str.ofString "web") pos) (dVar 1) := snd_var (by decide +kernel) (.inl (by decide +kernel)) (by decide +kernel)
noncomputable def d_read : DS := (dSeq (dIfS (dNot (dOp1 (isiM .str) (dVar 0))) (dSeq (dRaise (Str.ofString "NoText") (dConst (.str (Str.ofString "a text is wanted")))) dSkip) dSkip) (dSeq (dAssign 1 (dComp (iSeq (dMeth splitM (dVar 0) (dConst (.str (Str.ofString " | "))))) (dConst (.bool true)) (dCall f_row_of (dCons (dVar 2) dNil)) 2)) (dSeq (dTry xs (Str.ofString "BadWeb") (dExpr (dCall f_need_web (dCons (dVar 1) dNil))) (dSeq (dRaise (Str.ofString "NoText") (dConst (.str (Str.ofString "no web is written so")))) dSkip)) (dSeq (dIfS (dBin neM (dCall f_shown (dCons (dVar 1) dNil)) (dVar 0)) (dSeq (dRaise (Str.ofString "NoText") (dConst (.str (Str.ofString "no web is written so")))) dSkip) dSkip) (dSeq (dRet (dVar 1)) dSkip)))))
noncomputable def f_read : List MV → MH → Out MV := dDef 1 d_read
noncomputable def sg__law_cell_at : Sg := ⟨namesAt Challenge.pw_uf030029_12 25, [((Str.ofString "_law_script"), 0), ((Str.ofString "_law_k"), 1)], true⟩
theorem v__law_cell_at__law_script {C : Cx} {q : Bool} {n : Nat} {pos : Pos} : ESound C q n sg__law_cell_at (.Name (Str.ofString "_law_script") pos) (dVar 0) := snd_var (by decide +kernel) (.inl (by decide +kernel)) (by decide +kernel)
theorem v__law_cell_at__law_k {C : Cx} {q : Bool} {n : Nat} {pos : Pos} : ESound C q n sg__law_cell_at (.Name (Str.ofString "_law_k") pos) (dVar 1) := snd_var (by decide +kernel) (.inl (by decide +kernel)) (by decide +kernel)
noncomputable def sg__law_number_by : Sg := ⟨namesAt Challenge.pw_uf030029_12 26, [((Str.ofString "_law_cell"), 0)], true⟩
theorem v__law_number_by__law_cell {C : Cx} {q : Bool} {n : Nat} {pos : Pos} : ESound C q n sg__law_number_by (.Name (Str.ofString "_law_cell") pos) (dVar 0) := snd_var (by decide +kernel) (.inl (by decide +kernel)) (by decide +kernel)
noncomputable def d__law_number_by : DS := (dSeq (dIfS (dBin eqM (dBin fmodM (dVar 0) (dConst (.int 5))) (dConst (.int 0))) (dSeq (dRet (dBin subM (dBin fmodM (dBin addM (dBin mulM (dBin fdivM (dVar 0) (dConst (.int 5))) (dBin powM (dConst (.int 48271)) (dConst (.int 7)))) (dConst (.int 5))) (dBin subM (dBin mulM (dConst (.int 2)) (dBin powM (dConst (.int 10)) (dConst (.int 30)))) (dConst (.int 1)))) (dBin subM (dBin powM (dConst (.int 10)) (dConst (.int 30))) (dConst (.int 1))))) dSkip) dSkip) (dSeq (dRet (dBin subM (dBin fmodM (dBin fdivM (dVar 0) (dConst (.int 5))) (dConst (.int 9))) (dConst (.int 4)))) dSkip))
noncomputable def f__law_number_by : List MV → MH → Out MV := dDef 1 d__law_number_by
noncomputable def sg__law_step_by : Sg := ⟨namesAt Challenge.pw_uf030029_12 27, [((Str.ofString "_law_cell"), 0)], true⟩
theorem v__law_step_by__law_cell {C : Cx} {q : Bool} {n : Nat} {pos : Pos} : ESound C q n sg__law_step_by (.Name (Str.ofString "_law_cell") pos) (dVar 0) := snd_var (by decide +kernel) (.inl (by decide +kernel)) (by decide +kernel)
noncomputable def d__law_step_by : DS := (dSeq (dIfS (dBin ltM (dBin fmodM (dVar 0) (dConst (.int 7))) (dConst (.int 3))) (dSeq (dRet (dTup (dCons (dConst (.str (Str.ofString "put"))) (dCons (dBin fmodM (dBin fdivM (dVar 0) (dConst (.int 7))) (dConst (.int 4))) (dCons (dCall f__law_number_by (dCons (dBin fdivM (dVar 0) (dConst (.int 28))) dNil)) dNil))))) dSkip) dSkip) (dSeq (dIfS (dBin ltM (dBin fmodM (dVar 0) (dConst (.int 7))) (dConst (.int 6))) (dSeq (dRet (dTup (dCons (dConst (.str (Str.ofString "get"))) (dCons (dBin fmodM (dBin fdivM (dVar 0) (dConst (.int 7))) (dConst (.int 4))) dNil)))) dSkip) dSkip) (dSeq (dRet (dTup (dCons (dConst (.str (Str.ofString "fence"))) dNil))) dSkip)))
noncomputable def f__law_step_by : List MV → MH → Out MV := dDef 1 d__law_step_by
noncomputable def sg__law_web_by : Sg := ⟨namesAt Challenge.pw_uf030029_12 28, [((Str.ofString "_law_script"), 0), ((Str.ofString "_law_first"), 1), ((Str.ofString "_law_web"), 2), ((Str.ofString "_law_k"), 3), ((Str.ofString "_law_cell"), 4)], true⟩
theorem V__law_web_by : VarsOk sg__law_web_by.vars := VarsOk.of (by decide +kernel) (by decide +kernel)
theorem v__law_web_by__law_script {C : Cx} {q : Bool} {n : Nat} {pos : Pos} : ESound C q n sg__law_web_by (.Name (Str.ofString "_law_script") pos) (dVar 0) := snd_var (by decide +kernel) (.inl (by decide +kernel)) (by decide +kernel)
theorem v__law_web_by__law_first {C : Cx} {q : Bool} {n : Nat} {pos : Pos} : ESound C q n sg__law_web_by (.Name (Str.ofString "_law_first") pos) (dVar 1) := snd_var (by decide +kernel) (.inl (by decide +kernel)) (by decide +kernel)
theorem v__law_web_by__law_web {C : Cx} {q : Bool} {n : Nat} {pos : Pos} : ESound C q n sg__law_web_by (.Name (Str.ofString "_law_web") pos) (dVar 2) := snd_var (by decide +kernel) (.inl (by decide +kernel)) (by decide +kernel)
theorem v__law_web_by__law_k {C : Cx} {q : Bool} {n : Nat} {pos : Pos} : ESound C q n sg__law_web_by (.Name (Str.ofString "_law_k") pos) (dVar 3) := snd_var (by decide +kernel) (.inl (by decide +kernel)) (by decide +kernel)
theorem v__law_web_by__law_cell {C : Cx} {q : Bool} {n : Nat} {pos : Pos} : ESound C q n sg__law_web_by (.Name (Str.ofString "_law_cell") pos) (dVar 4) := snd_var (by decide +kernel) (.inl (by decide +kernel)) (by decide +kernel)
noncomputable def d__law_web_by : DS := (dSeq (dAssign 1 (dCall f__law_cell_at (dCons (dVar 0) (dCons (dConst (.int 0)) dNil)))) (dSeq (dAssign 2 (dComp (iRange1 (dBin addM (dConst (.int 1)) (dBin fmodM (dVar 1) (dConst (.int 3))))) (dConst (.bool true)) (dList dNil) 5)) (dSeq (dFor (iRange1 (dBin fmodM (dBin fdivM (dVar 1) (dConst (.int 3))) (dConst (.int 9)))) (putAt 3) (dSeq (dAssign 4 (dCall f__law_cell_at (dCons (dVar 0) (dCons (dBin addM (dConst (.int 2)) (dVar 3)) dNil)))) (dSeq (dExpr (dAppend (dBin idxM (dVar 2) (dBin fmodM (dBin fdivM (dVar 4) (dConst (.int 11))) (dCall lenM (dCons (dVar 2) dNil)))) (dCall f__law_step_by (dCons (dBin addM (dVar 4) (dBin mulM (dConst (.int 3)) (dVar 3))) dNil)))) dSkip))) (dSeq (dRet (dVar 2)) dSkip))))
noncomputable def f__law_web_by : List MV → MH → Out MV := dDef 1 d__law_web_by
noncomputable def sg__law_text_by : Sg := ⟨namesAt Challenge.pw_uf030029_12 29, [((Str.ofString "_law_web"), 0), ((Str.ofString "_law_rows"), 1), ((Str.ofString "_law_row"), 2), ((Str.ofString "_law_parts"), 3), ((Str.ofString "_law_step_here"), 4)], true⟩
theorem V__law_text_by : VarsOk sg__law_text_by.vars := VarsOk.of (by decide +kernel) (by decide +kernel)
theorem v__law_text_by__law_web {C : Cx} {q : Bool} {n : Nat} {pos : Pos} : ESound C q n sg__law_text_by (.Name (Str.ofString "_law_web") pos) (dVar 0) := snd_var (by decide +kernel) (.inl (by decide +kernel)) (by decide +kernel)
theorem v__law_text_by__law_rows {C : Cx} {q : Bool} {n : Nat} {pos : Pos} : ESound C q n sg__law_text_by (.Name (Str.ofString "_law_rows") pos) (dVar 1) := snd_var (by decide +kernel) (.inl (by decide +kernel)) (by decide +kernel)
theorem v__law_text_by__law_row {C : Cx} {q : Bool} {n : Nat} {pos : Pos} : ESound C q n sg__law_text_by (.Name (Str.ofString "_law_row") pos) (dVar 2) := snd_var (by decide +kernel) (.inl (by decide +kernel)) (by decide +kernel)
theorem v__law_text_by__law_parts {C : Cx} {q : Bool} {n : Nat} {pos : Pos} : ESound C q n sg__law_text_by (.Name (Str.ofString "_law_parts") pos) (dVar 3) := snd_var (by decide +kernel) (.inl (by decide +kernel)) (by decide +kernel)
theorem v__law_text_by__law_step_here {C : Cx} {q : Bool} {n : Nat} {pos : Pos} : ESound C q n sg__law_text_by (.Name (Str.ofString "_law_step_here") pos) (dVar 4) := snd_var (by decide +kernel) (.inl (by decide +kernel)) (by decide +kernel)
noncomputable def d__law_text_by : DS := (dSeq (dAssign 1 (dList dNil)) (dSeq (dFor (iSeq (dVar 0)) (putAt 2) (dSeq (dAssign 3 (dList dNil)) (dSeq (dFor (iSeq (dVar 2)) (putAt 4) (dSeq (dExpr (dAppend (dVar 3) (dMeth joinM (dConst (.str (Str.ofString " "))) (dComp (iSeq (dVar 4)) (dConst (.bool true)) (dCall strOfM (dCons (dVar 5) dNil)) 5)))) dSkip)) (dSeq (dExpr (dAppend (dVar 1) (dMeth joinM (dConst (.str (Str.ofString "; "))) (dVar 3)))) dSkip)))) (dSeq (dRet (dMeth joinM (dConst (.str (Str.ofString " | "))) (dVar 1))) dSkip)))
noncomputable def f__law_text_by : List MV → MH → Out MV := dDef 1 d__law_text_by
noncomputable def sg__law_changed : Sg := ⟨namesAt Challenge.pw_uf030029_12 30, [((Str.ofString "_law_text"), 0), ((Str.ofString "_law_cell"), 1), ((Str.ofString "_law_some"), 2), ((Str.ofString "_law_at"), 3), ((Str.ofString "_law_sign"), 4)], true⟩
theorem V__law_changed : VarsOk sg__law_changed.vars := VarsOk.of (by decide +kernel) (by decide +kernel)
theorem v__law_changed__law_text {C : Cx} {q : Bool} {n : Nat} {pos : Pos} : ESound C q n sg__law_changed (.Name (Str.ofString "_law_text") pos) (dVar 0) := snd_var (by decide +kernel) (.inl (by decide +kernel)) (by decide +kernel)
theorem v__law_changed__law_cell {C : Cx} {q : Bool} {n : Nat} {pos : Pos} : ESound C q n sg__law_changed (.Name (Str.ofString "_law_cell") pos) (dVar 1) := snd_var (by decide +kernel) (.inl (by decide +kernel)) (by decide +kernel)
theorem v__law_changed__law_some {C : Cx} {q : Bool} {n : Nat} {pos : Pos} : ESound C q n sg__law_changed (.Name (Str.ofString "_law_some") pos) (dVar 2) := snd_var (by decide +kernel) (.inl (by decide +kernel)) (by decide +kernel)
theorem v__law_changed__law_at {C : Cx} {q : Bool} {n : Nat} {pos : Pos} : ESound C q n sg__law_changed (.Name (Str.ofString "_law_at") pos) (dVar 3) := snd_var (by decide +kernel) (.inl (by decide +kernel)) (by decide +kernel)
theorem v__law_changed__law_sign {C : Cx} {q : Bool} {n : Nat} {pos : Pos} : ESound C q n sg__law_changed (.Name (Str.ofString "_law_sign") pos) (dVar 4) := snd_var (by decide +kernel) (.inl (by decide +kernel)) (by decide +kernel)
noncomputable def d__law_changed : DS := (dSeq (dAssign 2 (dConst (.str (Str.ofString " !\"#$&'()*+,-./0123456789:;<=>?@ABCDEFGHIJKLMNOPQRSTUVWXYZ[\\]^_`")))) (dSeq (dAssign 2 (dBin addM (dVar 2) (dConst (.str (Str.ofString "abcdefghijklmnopqrstuvwxyz{|}~\n\t"))))) (dSeq (dAssign 3 (dBin fmodM (dBin fdivM (dVar 1) (dConst (.int 3))) (dBin addM (dCall lenM (dCons (dVar 0) dNil)) (dConst (.int 1))))) (dSeq (dAssign 4 (dBin idxS (dVar 2) (dBin fmodM (dBin fdivM (dVar 1) (dConst (.int 7))) (dConst (.int 96))))) (dSeq (dIfS (dBin eqM (dBin fmodM (dVar 1) (dConst (.int 3))) (dConst (.int 0))) (dSeq (dRet (dBin addM (dBin addM (dBin cutToS (dVar 0) (dVar 3)) (dVar 4)) (dBin cutFromS (dVar 0) (dVar 3)))) dSkip) dSkip) (dSeq (dIfS (dBin eqM (dBin fmodM (dVar 1) (dConst (.int 3))) (dConst (.int 1))) (dSeq (dRet (dBin addM (dBin cutToS (dVar 0) (dVar 3)) (dBin cutFromS (dVar 0) (dBin addM (dVar 3) (dConst (.int 1)))))) dSkip) dSkip) (dSeq (dRet (dBin addM (dBin addM (dBin cutToS (dVar 0) (dVar 3)) (dVar 4)) (dBin cutFromS (dVar 0) (dBin addM (dVar 3) (dConst (.int 1)))))) dSkip)))))))
noncomputable def f__law_changed : List MV → MH → Out MV := dDef 2 d__law_changed
noncomputable def sg__law_odd : Sg := ⟨namesAt Challenge.pw_uf030029_12 31, [((Str.ofString "_law_cell"), 0), ((Str.ofString "_law_some"), 1)], true⟩
theorem V__law_odd : VarsOk sg__law_odd.vars := VarsOk.of (by decide +kernel) (by decide +kernel)
theorem v__law_odd__law_cell {C : Cx} {q : Bool} {n : Nat} {pos : Pos} : ESound C q n sg__law_odd (.Name (Str.ofString "_law_cell") pos) (dVar 0) := snd_var (by decide +kernel) (.inl (by decide +kernel)) (by decide +kernel)
theorem v__law_odd__law_some {C : Cx} {q : Bool} {n : Nat} {pos : Pos} : ESound C q n sg__law_odd (.Name (Str.ofString "_law_some") pos) (dVar 1) := snd_var (by decide +kernel) (.inl (by decide +kernel)) (by decide +kernel)
noncomputable def d__law_odd : DS := (dSeq (dAssign 1 (dList (dCons (dConst (.str (Str.ofString ""))) (dCons (dConst (.str (Str.ofString " "))) (dCons (dConst (.str (Str.ofString "|"))) (dCons (dConst (.str (Str.ofString " | "))) (dCons (dConst (.str (Str.ofString " |  |  | "))) (dCons (dConst (.str (Str.ofString "fence;"))) (dCons (dConst (.str (Str.ofString "; fence"))) (dCons (dConst (.str (Str.ofString "fence "))) (dCons (dConst (.str (Str.ofString " fence"))) (dCons (dConst (.str (Str.ofString "fence fence"))) (dCons (dConst (.str (Str.ofString "get 4"))) (dCons (dConst (.str (Str.ofString "get -1"))) dNil)))))))))))))) (dSeq (dAssign 1 (dBin addM (dVar 1) (dList (dCons (dConst (.str (Str.ofString "get"))) (dCons (dConst (.str (Str.ofString "get 00"))) (dCons (dConst (.str (Str.ofString "put 0"))) (dCons (dConst (.str (Str.ofString "put 0 01"))) (dCons (dConst (.str (Str.ofString "put 0 -0"))) (dCons (dConst (.str (Str.ofString "put 0 +1"))) (dCons (dConst (.str (Str.ofString "put 4 1"))) (dCons (dConst (.str (Str.ofString "put 0 1;get 1"))) (dCons (dConst (.str (Str.ofString "Get 0"))) dNil)))))))))))) (dSeq (dAssign 1 (dBin addM (dVar 1) (dList (dCons (dBin addM (dConst (.str (Str.ofString "put 0 1"))) (dBin mulM (dConst (.str (Str.ofString "0"))) (dConst (.int 30)))) (dCons (dBin addM (dBin mulM (dConst (.str (Str.ofString "get 0; "))) (dConst (.int 8))) (dConst (.str (Str.ofString "get 0")))) (dCons (dConst (.str (Str.ofString "put 0 1 |get 0"))) dNil)))))) (dSeq (dRet (dBin idxM (dVar 1) (dBin fmodM (dVar 0) (dConst (.int 24))))) dSkip))))
noncomputable def f__law_odd : List MV → MH → Out MV := dDef 1 d__law_odd
noncomputable def sg__law_number : Sg := ⟨namesAt Challenge.pw_uf030029_12 32, [((Str.ofString "_law_word"), 0), ((Str.ofString "_law_figures"), 1)], true⟩
theorem V__law_number : VarsOk sg__law_number.vars := VarsOk.of (by decide +kernel) (by decide +kernel)
theorem v__law_number__law_word {C : Cx} {q : Bool} {n : Nat} {pos : Pos} : ESound C q n sg__law_number (.Name (Str.ofString "_law_word") pos) (dVar 0) := snd_var (by decide +kernel) (.inl (by decide +kernel)) (by decide +kernel)
theorem v__law_number__law_figures {C : Cx} {q : Bool} {n : Nat} {pos : Pos} : ESound C q n sg__law_number (.Name (Str.ofString "_law_figures") pos) (dVar 1) := snd_var (by decide +kernel) (.inl (by decide +kernel)) (by decide +kernel)
noncomputable def d__law_number : DS := (dSeq (dAssign 1 (dIf (dBin eqM (dBin cutToS (dVar 0) (dConst (.int 1))) (dConst (.str (Str.ofString "-")))) (dBin cutFromS (dVar 0) (dConst (.int 1))) (dVar 0))) (dSeq (dIfS (dOr (dNot (dChain leM leM (dConst (.int 1)) (dCall lenM (dCons (dVar 1) dNil)) (dConst (.int 30)))) (dBin neM (dComp (iStr (dVar 1)) (dBin notInStrM (dVar 2) (dConst (.str (Str.ofString "0123456789")))) (dVar 2) 2) (dList dNil))) (dSeq (dRet (dConst .none)) dSkip) dSkip) (dSeq (dIfS (dAnd (dBin eqM (dBin idxS (dVar 1) (dConst (.int 0))) (dConst (.str (Str.ofString "0")))) (dBin neM (dVar 0) (dConst (.str (Str.ofString "0"))))) (dSeq (dRet (dConst .none)) dSkip) dSkip) (dSeq (dRet (dCall intStrM (dCons (dVar 0) dNil))) dSkip))))
noncomputable def f__law_number : List MV → MH → Out MV := dDef 1 d__law_number
noncomputable def sg__law_step : Sg := ⟨namesAt Challenge.pw_uf030029_12 33, [((Str.ofString "_law_text"), 0), ((Str.ofString "_law_words"), 1), ((Str.ofString "_law_numbers"), 2)], true⟩
theorem V__law_step : VarsOk sg__law_step.vars := VarsOk.of (by decide +kernel) (by decide +kernel)
theorem v__law_step__law_text {C : Cx} {q : Bool} {n : Nat} {pos : Pos} : ESound C q n sg__law_step (.Name (Str.ofString "_law_text") pos) (dVar 0) := snd_var (by decide +kernel) (.inl (by decide +kernel)) (by decide +kernel)
theorem v__law_step__law_words {C : Cx} {q : Bool} {n : Nat} {pos : Pos} : ESound C q n sg__law_step (.Name (Str.ofString "_law_words") pos) (dVar 1) := snd_var (by decide +kernel) (.inl (by decide +kernel)) (by decide +kernel)
theorem v__law_step__law_numbers {C : Cx} {q : Bool} {n : Nat} {pos : Pos} : ESound C q n sg__law_step (.Name (Str.ofString "_law_numbers") pos) (dVar 2) := snd_var (by decide +kernel) (.inl (by decide +kernel)) (by decide +kernel)
noncomputable def d__law_step : DS := (dSeq (dAssign 1 (dMeth splitM (dVar 0) (dConst (.str (Str.ofString " "))))) (dSeq (dIfS (dBin eqM (dVar 1) (dList (dCons (dConst (.str (Str.ofString "fence"))) dNil))) (dSeq (dRet (dTup (dCons (dConst (.str (Str.ofString "fence"))) dNil))) dSkip) dSkip) (dSeq (dIfS (dOr (dBin notInM (dBin idxM (dVar 1) (dConst (.int 0))) (dTup (dCons (dConst (.str (Str.ofString "put"))) (dCons (dConst (.str (Str.ofString "get"))) dNil)))) (dBin neM (dCall lenM (dCons (dVar 1) dNil)) (dBin subM (dConst (.int 3)) (dCall intOfM (dCons (dBin eqM (dBin idxM (dVar 1) (dConst (.int 0))) (dConst (.str (Str.ofString "get")))) dNil))))) (dSeq (dRet (dConst .none)) dSkip) dSkip) (dSeq (dAssign 2 (dComp (iSeq (dBin cutFrom (dVar 1) (dConst (.int 1)))) (dConst (.bool true)) (dCall f__law_number (dCons (dVar 3) dNil)) 3)) (dSeq (dIfS (dOr (dBin inM (dConst .none) (dVar 2)) (dNot (dChain leM leM (dConst (.int 0)) (dBin idxM (dVar 2) (dConst (.int 0))) (dConst (.int 3))))) (dSeq (dRet (dConst .none)) dSkip) dSkip) (dSeq (dRet (dCall tupleM (dCons (dBin addM (dList (dCons (dBin idxM (dVar 1) (dConst (.int 0))) dNil)) (dVar 2)) dNil))) dSkip))))))
noncomputable def f__law_step : List MV → MH → Out MV := dDef 1 d__law_step
noncomputable def sg__law_due : Sg := ⟨namesAt Challenge.pw_uf030029_12 34, [((Str.ofString "_law_text"), 0), ((Str.ofString "_law_web"), 1), ((Str.ofString "_law_part"), 2), ((Str.ofString "_law_deeds"), 3), ((Str.ofString "_law_row"), 4)], true⟩
theorem V__law_due : VarsOk sg__law_due.vars := VarsOk.of (by decide +kernel) (by decide +kernel)
theorem v__law_due__law_text {C : Cx} {q : Bool} {n : Nat} {pos : Pos} : ESound C q n sg__law_due (.Name (Str.ofString "_law_text") pos) (dVar 0) := snd_var (by decide +kernel) (.inl (by decide +kernel)) (by decide +kernel)
theorem v__law_due__law_web {C : Cx} {q : Bool} {n : Nat} {pos : Pos} : ESound C q n sg__law_due (.Name (Str.ofString "_law_web") pos) (dVar 1) := snd_var (by decide +kernel) (.inl (by decide +kernel)) (by decide +kernel)
theorem v__law_due__law_part {C : Cx} {q : Bool} {n : Nat} {pos : Pos} : ESound C q n sg__law_due (.Name (Str.ofString "_law_part") pos) (dVar 2) := snd_var (by decide +kernel) (.inl (by decide +kernel)) (by decide +kernel)
theorem v__law_due__law_deeds {C : Cx} {q : Bool} {n : Nat} {pos : Pos} : ESound C q n sg__law_due (.Name (Str.ofString "_law_deeds") pos) (dVar 3) := snd_var (by decide +kernel) (.inl (by decide +kernel)) (by decide +kernel)
theorem v__law_due__law_row {C : Cx} {q : Bool} {n : Nat} {pos : Pos} : ESound C q n sg__law_due (.Name (Str.ofString "_law_row") pos) (dVar 4) := snd_var (by decide +kernel) (.inl (by decide +kernel)) (by decide +kernel)
noncomputable def d__law_due : DS := (dSeq (dAssign 1 (dList dNil)) (dSeq (dFor (iSeq (dMeth splitM (dVar 0) (dConst (.str (Str.ofString " | "))))) (putAt 2) (dSeq (dExpr (dAppend (dVar 1) (dIf (dBin neM (dVar 2) (dConst (.str (Str.ofString "")))) (dComp (iSeq (dMeth splitM (dVar 2) (dConst (.str (Str.ofString "; "))))) (dConst (.bool true)) (dCall f__law_step (dCons (dVar 7) dNil)) 7) (dList dNil)))) dSkip)) (dSeq (dIfS (dOr (dBin gtM (dCall lenM (dCons (dVar 1) dNil)) (dConst (.int 3))) (dBin neM (dComp (iSeq (dVar 1)) (dBin inM (dConst .none) (dVar 6)) (dVar 6) 6) (dList dNil))) (dSeq (dRet (dConst .none)) dSkip) dSkip) (dSeq (dAssign 3 (dConst (.int 0))) (dSeq (dFor (iSeq (dVar 1)) (putAt 4) (dSeq (dAssign 3 (dBin addM (dVar 3) (dCall lenM (dCons (dComp (iSeq (dVar 4)) (dBin neM (dVar 5) (dTup (dCons (dConst (.str (Str.ofString "fence"))) dNil))) (dVar 5) 5) dNil)))) dSkip)) (dSeq (dRet (dIf (dBin ltM (dVar 3) (dConst (.int 9))) (dVar 1) (dConst .none))) dSkip))))))
noncomputable def f__law_due : List MV → MH → Out MV := dDef 1 d__law_due
noncomputable def sg__law_read : Sg := ⟨namesAt Challenge.pw_uf030029_12 35, [((Str.ofString "_law_text"), 0), ((Str.ofString "error"), 1), ((Str.ofString "_law_other"), 2)], true⟩
theorem V__law_read : VarsOk sg__law_read.vars := VarsOk.of (by decide +kernel) (by decide +kernel)
theorem v__law_read__law_text {C : Cx} {q : Bool} {n : Nat} {pos : Pos} : ESound C q n sg__law_read (.Name (Str.ofString "_law_text") pos) (dVar 0) := snd_var (by decide +kernel) (.inl (by decide +kernel)) (by decide +kernel)
theorem v__law_read_error {C : Cx} {q : Bool} {n : Nat} {pos : Pos} : ESound C q n sg__law_read (.Name (Str.ofString "error") pos) (dVar 1) := snd_var (by decide +kernel) (.inl (by decide +kernel)) (by decide +kernel)
theorem v__law_read__law_other {C : Cx} {q : Bool} {n : Nat} {pos : Pos} : ESound C q n sg__law_read (.Name (Str.ofString "_law_other") pos) (dVar 2) := snd_var (by decide +kernel) (.inl (by decide +kernel)) (by decide +kernel)
noncomputable def d__law_read : DS := (dSeq (dTryAs xs (Str.ofString "WebError") 1 (dRet (dCall f_read (dCons (dVar 0) dNil))) (dSeq (dAssign 2 (dOr (dOp1 (isiX xs (Str.ofString "BadWeb")) (dVar 1)) (dOp1 (isiX xs (Str.ofString "NoMove")) (dVar 1)))) (dSeq (dAssign 2 (dOr (dVar 2) (dOr (dOp1 (isiX xs (Str.ofString "NotOver")) (dVar 1)) (dOp1 (isiX xs (Str.ofString "NoPlace")) (dVar 1))))) (dSeq (dRet (dIf (dAnd (dOp1 (isiX xs (Str.ofString "NoText")) (dVar 1)) (dAnd (dOp1 (isiX xs (Str.ofString "ValueError")) (dVar 1)) (dNot (dVar 2)))) (dConst .none) (dConst (.str (Str.ofString "other"))))) dSkip)))) dSkip)
noncomputable def f__law_read : List MV → MH → Out MV := dDef 1 d__law_read
noncomputable def sg__law_same : Sg := ⟨namesAt Challenge.pw_uf030029_12 36, [((Str.ofString "_law_found"), 0), ((Str.ofString "_law_web"), 1), ((Str.ofString "_law_row"), 2), ((Str.ofString "_law_step_here"), 3)], true⟩
theorem V__law_same : VarsOk sg__law_same.vars := VarsOk.of (by decide +kernel) (by decide +kernel)
theorem v__law_same__law_found {C : Cx} {q : Bool} {n : Nat} {pos : Pos} : ESound C q n sg__law_same (.Name (Str.ofString "_law_found") pos) (dVar 0) := snd_var (by decide +kernel) (.inl (by decide +kernel)) (by decide +kernel)
theorem v__law_same__law_web {C : Cx} {q : Bool} {n : Nat} {pos : Pos} : ESound C q n sg__law_same (.Name (Str.ofString "_law_web") pos) (dVar 1) := snd_var (by decide +kernel) (.inl (by decide +kernel)) (by decide +kernel)
theorem v__law_same__law_row {C : Cx} {q : Bool} {n : Nat} {pos : Pos} : ESound C q n sg__law_same (.Name (Str.ofString "_law_row") pos) (dVar 2) := snd_var (by decide +kernel) (.inl (by decide +kernel)) (by decide +kernel)
theorem v__law_same__law_step_here {C : Cx} {q : Bool} {n : Nat} {pos : Pos} : ESound C q n sg__law_same (.Name (Str.ofString "_law_step_here") pos) (dVar 3) := snd_var (by decide +kernel) (.inl (by decide +kernel)) (by decide +kernel)
noncomputable def d__law_same : DS := (dSeq (dIfS (dOr (dNot (dOp1 (isiM .list) (dVar 0))) (dBin neM (dVar 0) (dVar 1))) (dSeq (dRet (dConst (.bool false))) dSkip) dSkip) (dSeq (dFor (iSeq (dVar 0)) (putAt 2) (dSeq (dIfS (dNot (dOp1 (isiM .list) (dVar 2))) (dSeq (dRet (dConst (.bool false))) dSkip) dSkip) (dSeq (dFor (iSeq (dVar 2)) (putAt 3) (dSeq (dIfS (dOr (dNot (dOp1 (isiM .tuple) (dVar 3))) (dBin neM (dComp (iSeq (dBin cutFrom (dVar 3) (dConst (.int 1)))) (dOp1 (isiM .bool) (dVar 4)) (dVar 4) 4) (dList dNil))) (dSeq (dRet (dConst (.bool false))) dSkip) dSkip) dSkip)) dSkip))) (dSeq (dRet (dConst (.bool true))) dSkip)))
noncomputable def f__law_same : List MV → MH → Out MV := dDef 2 d__law_same
noncomputable def sg_law : Sg := ⟨namesAt Challenge.pw_uf030029_12 37, [((Str.ofString "_law_script"), 0), ((Str.ofString "_law_web"), 1), ((Str.ofString "_law_text"), 2), ((Str.ofString "_law_handed"), 3), ((Str.ofString "_law_found"), 4), ((Str.ofString "_law_cell"), 5), ((Str.ofString "_law_due_here"), 6), ((Str.ofString "_law_told"), 7)], true⟩
theorem V_law : VarsOk sg_law.vars := VarsOk.of (by decide +kernel) (by decide +kernel)
theorem v_law__law_script {C : Cx} {q : Bool} {n : Nat} {pos : Pos} : ESound C q n sg_law (.Name (Str.ofString "_law_script") pos) (dVar 0) := snd_var (by decide +kernel) (.inl (by decide +kernel)) (by decide +kernel)
theorem v_law__law_web {C : Cx} {q : Bool} {n : Nat} {pos : Pos} : ESound C q n sg_law (.Name (Str.ofString "_law_web") pos) (dVar 1) := snd_var (by decide +kernel) (.inl (by decide +kernel)) (by decide +kernel)
theorem v_law__law_text {C : Cx} {q : Bool} {n : Nat} {pos : Pos} : ESound C q n sg_law (.Name (Str.ofString "_law_text") pos) (dVar 2) := snd_var (by decide +kernel) (.inl (by decide +kernel)) (by decide +kernel)
theorem v_law__law_handed {C : Cx} {q : Bool} {n : Nat} {pos : Pos} : ESound C q n sg_law (.Name (Str.ofString "_law_handed") pos) (dVar 3) := snd_var (by decide +kernel) (.inl (by decide +kernel)) (by decide +kernel)
theorem v_law__law_found {C : Cx} {q : Bool} {n : Nat} {pos : Pos} : ESound C q n sg_law (.Name (Str.ofString "_law_found") pos) (dVar 4) := snd_var (by decide +kernel) (.inl (by decide +kernel)) (by decide +kernel)
theorem v_law__law_cell {C : Cx} {q : Bool} {n : Nat} {pos : Pos} : ESound C q n sg_law (.Name (Str.ofString "_law_cell") pos) (dVar 5) := snd_var (by decide +kernel) (.inl (by decide +kernel)) (by decide +kernel)
theorem v_law__law_due_here {C : Cx} {q : Bool} {n : Nat} {pos : Pos} : ESound C q n sg_law (.Name (Str.ofString "_law_due_here") pos) (dVar 6) := snd_var (by decide +kernel) (.inl (by decide +kernel)) (by decide +kernel)
theorem v_law__law_told {C : Cx} {q : Bool} {n : Nat} {pos : Pos} : ESound C q n sg_law (.Name (Str.ofString "_law_told") pos) (dVar 7) := snd_var (by decide +kernel) (.inl (by decide +kernel)) (by decide +kernel)
noncomputable def d_law : DS := (dSeq (dAssign 1 (dCall f__law_web_by (dCons (dVar 0) dNil))) (dSeq (dAssign 2 (dCall f__law_text_by (dCons (dVar 1) dNil))) (dSeq (dAssign 3 (dComp (iSeq (dVar 1)) (dConst (.bool true)) (dCall listM (dCons (dVar 8) dNil)) 8)) (dSeq (dAssign 4 (dCall f_shown (dCons (dVar 3) dNil))) (dSeq (dIfS (dOr (dNot (dOp1 (isiM .str) (dVar 4))) (dOr (dBin neM (dVar 4) (dVar 2)) (dOr (dBin neM (dVar 3) (dVar 1)) (dNot (dCall f__law_same (dCons (dCall f__law_read (dCons (dVar 2) dNil)) (dCons (dVar 1) dNil))))))) (dSeq (dRet (dConst (.bool false))) dSkip) dSkip) (dSeq (dAssign 5 (dCall f__law_cell_at (dCons (dVar 0) (dCons (dConst (.int 1)) dNil)))) (dSeq (dIfS (dBin eqM (dBin fmodM (dVar 5) (dConst (.int 4))) (dConst (.int 3))) (dSeq (dRet (dBin isNoneM (dCall f__law_read (dCons (dBin idxM (dList (dCons (dConst .none) (dCons (dConst (.int 5)) (dCons (dList (dCons (dConst (.str (Str.ofString "get 0"))) dNil)) (dCons (dConst (.bool true)) dNil))))) (dBin fmodM (dBin fdivM (dVar 5) (dConst (.int 4))) (dConst (.int 4)))) dNil)) (dConst .none))) dSkip) dSkip) (dSeq (dIfS (dBin eqM (dBin fmodM (dVar 5) (dConst (.int 4))) (dConst (.int 2))) (dSeq (dAssign 2 (dCall f__law_odd (dCons (dBin fdivM (dVar 5) (dConst (.int 4))) dNil))) dSkip) dSkip) (dSeq (dIfS (dBin eqM (dBin fmodM (dVar 5) (dConst (.int 4))) (dConst (.int 1))) (dSeq (dAssign 2 (dCall f__law_changed (dCons (dVar 2) (dCons (dBin fdivM (dVar 5) (dConst (.int 4))) dNil)))) dSkip) dSkip) (dSeq (dAssign 6 (dCall f__law_due (dCons (dVar 2) dNil))) (dSeq (dAssign 7 (dCall f__law_read (dCons (dVar 2) dNil))) (dSeq (dIfS (dBin isNoneM (dVar 6) (dConst .none)) (dSeq (dRet (dBin isNoneM (dVar 7) (dConst .none))) dSkip) dSkip) (dSeq (dRet (dCall f__law_same (dCons (dVar 7) (dCons (dVar 6) dNil)))) dSkip)))))))))))))
noncomputable def f_law : List MV → MH → Out MV := dDef 1 d_law
structure Env (C : Cx) : Prop where
  co : CxOk C
  fn_is_whole : FnIs C (Str.ofString "is_whole") (bodyAt Challenge.pw_uf030029_12 12) [(Str.ofString "thing")] sg_is_whole
  fn_is_box : FnIs C (Str.ofString "is_box") (bodyAt Challenge.pw_uf030029_12 13) [(Str.ofString "thing")] sg_is_box
  fn_is_step : FnIs C (Str.ofString "is_step") (bodyAt Challenge.pw_uf030029_12 14) [(Str.ofString "thing")] sg_is_step
  fn_need_web : FnIs C (Str.ofString "need_web") (bodyAt Challenge.pw_uf030029_12 15) [(Str.ofString "web")] sg_need_web
  fn_step_text : FnIs C (Str.ofString "step_text") (bodyAt Challenge.pw_uf030029_12 18) [(Str.ofString "step")] sg_step_text
  fn_shown : FnIs C (Str.ofString "shown") (bodyAt Challenge.pw_uf030029_12 19) [(Str.ofString "web")] sg_shown
  fn_number_of : FnIs C (Str.ofString "number_of") (bodyAt Challenge.pw_uf030029_12 20) [(Str.ofString "word")] sg_number_of
  fn_step_of : FnIs C (Str.ofString "step_of") (bodyAt Challenge.pw_uf030029_12 21) [(Str.ofString "text")] sg_step_of
  fn_row_of : FnIs C (Str.ofString "row_of") (bodyAt Challenge.pw_uf030029_12 22) [(Str.ofString "text")] sg_row_of
  fn_read : FnIs C (Str.ofString "read") (bodyAt Challenge.pw_uf030029_12 23) [(Str.ofString "text")] sg_read
  fn__law_cell_at : FnIs C (Str.ofString "_law_cell_at") (bodyAt Challenge.pw_uf030029_12 25) [(Str.ofString "_law_script"), (Str.ofString "_law_k")] sg__law_cell_at
  fn__law_number_by : FnIs C (Str.ofString "_law_number_by") (bodyAt Challenge.pw_uf030029_12 26) [(Str.ofString "_law_cell")] sg__law_number_by
  fn__law_step_by : FnIs C (Str.ofString "_law_step_by") (bodyAt Challenge.pw_uf030029_12 27) [(Str.ofString "_law_cell")] sg__law_step_by
  fn__law_web_by : FnIs C (Str.ofString "_law_web_by") (bodyAt Challenge.pw_uf030029_12 28) [(Str.ofString "_law_script")] sg__law_web_by
  fn__law_text_by : FnIs C (Str.ofString "_law_text_by") (bodyAt Challenge.pw_uf030029_12 29) [(Str.ofString "_law_web")] sg__law_text_by
  fn__law_changed : FnIs C (Str.ofString "_law_changed") (bodyAt Challenge.pw_uf030029_12 30) [(Str.ofString "_law_text"), (Str.ofString "_law_cell")] sg__law_changed
  fn__law_odd : FnIs C (Str.ofString "_law_odd") (bodyAt Challenge.pw_uf030029_12 31) [(Str.ofString "_law_cell")] sg__law_odd
  fn__law_number : FnIs C (Str.ofString "_law_number") (bodyAt Challenge.pw_uf030029_12 32) [(Str.ofString "_law_word")] sg__law_number
  fn__law_step : FnIs C (Str.ofString "_law_step") (bodyAt Challenge.pw_uf030029_12 33) [(Str.ofString "_law_text")] sg__law_step
  fn__law_due : FnIs C (Str.ofString "_law_due") (bodyAt Challenge.pw_uf030029_12 34) [(Str.ofString "_law_text")] sg__law_due
  fn__law_read : FnIs C (Str.ofString "_law_read") (bodyAt Challenge.pw_uf030029_12 35) [(Str.ofString "_law_text")] sg__law_read
  fn__law_same : FnIs C (Str.ofString "_law_same") (bodyAt Challenge.pw_uf030029_12 36) [(Str.ofString "_law_found"), (Str.ofString "_law_web")] sg__law_same
  fn_law : FnIs C (Str.ofString "law") (bodyAt Challenge.pw_uf030029_12 37) [(Str.ofString "_law_script")] sg_law
  g_BOXES : ∃ t, C.mg (Str.ofString "BOXES") = some (.int 4 t)
  g_MOST_ROWS : ∃ t, C.mg (Str.ofString "MOST_ROWS") = some (.int 3 t)
  g_MOST_DEEDS : ∃ t, C.mg (Str.ofString "MOST_DEEDS") = some (.int 8 t)
  g_TOO_GREAT : ∃ t, C.mg (Str.ofString "TOO_GREAT") = some (.int 1000000000000000000000000000000 t)
  g_FIGURES : ∃ t, C.mg (Str.ofString "FIGURES") = some (.str (Str.ofString "0123456789") t)
  b_ValueError : C.mg (Str.ofString "ValueError") = none ∧ C.mb (Str.ofString "ValueError") = some (.type "ValueError")
  b_bool : C.mg (Str.ofString "bool") = none ∧ C.mb (Str.ofString "bool") = some (.type "bool")
  b_int : C.mg (Str.ofString "int") = none ∧ C.mb (Str.ofString "int") = some (.type "int")
  b_isinstance : C.mg (Str.ofString "isinstance") = none ∧ C.mb (Str.ofString "isinstance") = some (.builtin "isinstance")
  b_len : C.mg (Str.ofString "len") = none ∧ C.mb (Str.ofString "len") = some (.builtin "len")
  b_list : C.mg (Str.ofString "list") = none ∧ C.mb (Str.ofString "list") = some (.type "list")
  b_range : C.mg (Str.ofString "range") = none ∧ C.mb (Str.ofString "range") = some (.type "range")
  b_str : C.mg (Str.ofString "str") = none ∧ C.mb (Str.ofString "str") = some (.type "str")
  b_tuple : C.mg (Str.ofString "tuple") = none ∧ C.mb (Str.ofString "tuple") = some (.type "tuple")
  exc : ExcEnv C xs
section
variable {C : Cx} (W : Env C)
include W
set_option maxHeartbeats 4000000
theorem ok_is_whole : CallOk C (Str.ofString "is_whole") 1 f_is_whole := callOk_of (n := 0) W.co W.fn_is_whole (f := d_is_whole) (ss_cons (s_ret (snd_boolop (bs_and (snd_isi W.co .int v_is_whole_thing (fun _ => rfl) (by decide +kernel) W.b_isinstance (by decide +kernel) (by decide +kernel) W.b_int (by decide +kernel)) (bs_one (snd_not (snd_isi W.co .bool v_is_whole_thing (fun _ => rfl) (by decide +kernel) W.b_isinstance (by decide +kernel) (by decide +kernel) W.b_bool (by decide +kernel))))))) ss_nil)
theorem ok_is_box : CallOk C (Str.ofString "is_box") 2 f_is_box := callOk_of (n := 1) W.co W.fn_is_box (f := d_is_box) (ss_cons (s_ret (snd_boolop (bs_and (snd_callF W.co (ok_is_whole W) (by decide +kernel) (by decide +kernel) (by decide +kernel) (snds_cons v_is_box_thing snds_nil) (fun _ => rfl)) (bs_one (snd_chain (snd_int _ _ _) v_is_box_thing (snd_gint W.co (by decide +kernel) W.g_BOXES (by decide +kernel)) op_le op_lt rfl))))) ss_nil)
theorem ok_is_step : CallOk C (Str.ofString "is_step") 3 f_is_step := callOk_of (n := 2) W.co W.fn_is_step (f := d_is_step) (ss_cons (s_if (tst_boolop (bt_or (tst_not (tst_val (snd_isi W.co .tuple v_is_step_thing (fun _ => rfl) (by decide +kernel) W.b_isinstance (by decide +kernel) (by decide +kernel) W.b_tuple (by decide +kernel)) (fun _ => rfl))) (bt_or (tst_cmp (snd_callB W.co op_len (by decide +kernel) W.b_len (by decide +kernel) (snds_cons v_is_step_thing snds_nil) (fun _ => rfl)) (snd_int _ _ _) op_eq rfl) (bt_one (tst_not (tst_val (snd_isi W.co .str (snd_idx v_is_step_thing (snd_int _ _ _) (fun _ _ => rfl)) (fun _ => rfl) (by decide +kernel) W.b_isinstance (by decide +kernel) (by decide +kernel) W.b_str (by decide +kernel)) (fun _ => rfl))))))) (ss_cons (s_ret (snd_bool _ _ _)) ss_nil) ss_nil) (ss_cons (s_if (tst_cmp (snd_idx v_is_step_thing (snd_int _ _ _) (fun _ _ => rfl)) (snd_str _ _ _) op_eq rfl) (ss_cons (s_ret (snd_cmp (snd_callB W.co op_len (by decide +kernel) W.b_len (by decide +kernel) (snds_cons v_is_step_thing snds_nil) (fun _ => rfl)) (snd_int _ _ _) op_eq rfl)) ss_nil) ss_nil) (ss_cons (s_if (tst_cmp (snd_idx v_is_step_thing (snd_int _ _ _) (fun _ _ => rfl)) (snd_str _ _ _) op_eq rfl) (ss_cons (s_ret (snd_boolop (bs_and (snd_cmp (snd_callB W.co op_len (by decide +kernel) W.b_len (by decide +kernel) (snds_cons v_is_step_thing snds_nil) (fun _ => rfl)) (snd_int _ _ _) op_eq rfl) (bs_one (snd_callF W.co (ok_is_box W) (by decide +kernel) (by decide +kernel) (by decide +kernel) (snds_cons (snd_idx v_is_step_thing (snd_int _ _ _) (fun _ _ => rfl)) snds_nil) (fun _ => rfl)))))) ss_nil) ss_nil) (ss_cons (s_if (tst_boolop (bt_or (tst_cmp (snd_idx v_is_step_thing (snd_int _ _ _) (fun _ _ => rfl)) (snd_str _ _ _) op_ne rfl) (bt_or (tst_cmp (snd_callB W.co op_len (by decide +kernel) W.b_len (by decide +kernel) (snds_cons v_is_step_thing snds_nil) (fun _ => rfl)) (snd_int _ _ _) op_ne rfl) (bt_or (tst_not (tst_val (snd_callF W.co (ok_is_box W) (by decide +kernel) (by decide +kernel) (by decide +kernel) (snds_cons (snd_idx v_is_step_thing (snd_int _ _ _) (fun _ _ => rfl)) snds_nil) (fun _ => rfl)) (fun _ => rfl))) (bt_one (tst_not (tst_val (snd_callF W.co (ok_is_whole W) (by decide +kernel) (by decide +kernel) (by decide +kernel) (snds_cons (snd_idx v_is_step_thing (snd_int _ _ _) (fun _ _ => rfl)) snds_nil) (fun _ => rfl)) (fun _ => rfl)))))))) (ss_cons (s_ret (snd_bool _ _ _)) ss_nil) ss_nil) (ss_cons (s_ret (snd_chain (snd_neg (snd_gint W.co (by decide +kernel) W.g_TOO_GREAT (by decide +kernel))) (snd_idx v_is_step_thing (snd_int _ _ _) (fun _ _ => rfl)) (snd_gint W.co (by decide +kernel) W.g_TOO_GREAT (by decide +kernel)) op_lt op_lt rfl)) ss_nil)))))
theorem ok_need_web : CallOk C (Str.ofString "need_web") 4 f_need_web := callOk_of (n := 3) W.co W.fn_need_web (f := d_need_web) (ss_cons (s_if (tst_boolop (bt_or (tst_not (tst_val (snd_isi W.co .list v_need_web_web (fun _ => rfl) (by decide +kernel) W.b_isinstance (by decide +kernel) (by decide +kernel) W.b_list (by decide +kernel)) (fun _ => rfl))) (bt_one (tst_not (tst_chain (snd_int _ _ _) (snd_callB W.co op_len (by decide +kernel) W.b_len (by decide +kernel) (snds_cons v_need_web_web snds_nil) (fun _ => rfl)) (snd_gint W.co (by decide +kernel) W.g_MOST_ROWS (by decide +kernel)) op_le op_le rfl))))) (ss_cons (s_raise W.co W.exc (by decide +kernel) (snd_str _ _ _) (fun _ => rfl) (by decide +kernel) (by decide +kernel)) ss_nil) ss_nil) (ss_cons (s_assign (snd_int _ _ _) V_need_web (by decide +kernel) (.inl (by decide +kernel)) (fun _ _ _ => rfl)) (ss_cons (s_for (is_seq v_need_web_web ⟨V_need_web, (by decide +kernel), .inl (by decide +kernel)⟩) (ss_cons (s_if (tst_not (tst_val (snd_isi W.co .list v_need_web_row (fun _ => rfl) (by decide +kernel) W.b_isinstance (by decide +kernel) (by decide +kernel) W.b_list (by decide +kernel)) (fun _ => rfl))) (ss_cons (s_raise W.co W.exc (by decide +kernel) (snd_str _ _ _) (fun _ => rfl) (by decide +kernel) (by decide +kernel)) ss_nil) ss_nil) (ss_cons (s_for (is_seq v_need_web_row ⟨V_need_web, (by decide +kernel), .inl (by decide +kernel)⟩) (ss_cons (s_if (tst_not (tst_val (snd_callF W.co (ok_is_step W) (by decide +kernel) (by decide +kernel) (by decide +kernel) (snds_cons v_need_web_step snds_nil) (fun _ => rfl)) (fun _ => rfl))) (ss_cons (s_raise W.co W.exc (by decide +kernel) (snd_str _ _ _) (fun _ => rfl) (by decide +kernel) (by decide +kernel)) ss_nil) ss_nil) (ss_cons (s_if (tst_cmp (snd_idx v_need_web_step (snd_int _ _ _) (fun _ _ => rfl)) (snd_str _ _ _) op_ne rfl) (ss_cons (s_assign (snd_bin v_need_web_deeds (snd_int _ _ _) op_add) V_need_web (by decide +kernel) (.inl (by decide +kernel)) (fun _ _ _ => rfl)) ss_nil) ss_nil) ss_nil)) rfl (fun _ _ => rfl)) ss_nil)) rfl (fun _ _ => rfl)) (ss_cons (s_if (tst_cmp v_need_web_deeds (snd_gint W.co (by decide +kernel) W.g_MOST_DEEDS (by decide +kernel)) op_gt rfl) (ss_cons (s_raise W.co W.exc (by decide +kernel) (snd_str _ _ _) (fun _ => rfl) (by decide +kernel) (by decide +kernel)) ss_nil) ss_nil) (ss_cons (s_ret v_need_web_web) ss_nil)))))
theorem ok_step_text : CallOk C (Str.ofString "step_text") 1 f_step_text := callOk_of (n := 0) W.co W.fn_step_text (f := d_step_text) (ss_cons (s_ret (snd_Join (snd_str _ _ _) (snd_comp' [((Str.ofString "word"), 1)] (is_seq v_step_text_step ⟨VarsOk.of (by decide +kernel) (by decide +kernel), (by decide +kernel), .inl (by decide +kernel)⟩) cs_nil (snd_callT W.co op_strOf (by decide +kernel) W.b_str (by decide +kernel) (snds_cons (snd_var (by decide +kernel) (.inl (by decide +kernel)) (by decide +kernel)) snds_nil) (fun _ => rfl)) (compOk_of (by decide +kernel)) (fun _ _ => rfl)) (fun _ => rfl) rfl (fun _ => rfl))) ss_nil)
theorem ok_shown : CallOk C (Str.ofString "shown") 5 f_shown := callOk_of (n := 4) W.co W.fn_shown (f := d_shown) (ss_cons (s_expr (snd_callF W.co (ok_need_web W) (by decide +kernel) (by decide +kernel) (by decide +kernel) (snds_cons v_shown_web snds_nil) (fun _ => rfl)) (fun _ => rfl)) (ss_cons (s_ret (snd_Join (snd_str _ _ _) (snd_comp' [((Str.ofString "row"), 1)] (is_seq v_shown_web ⟨VarsOk.of (by decide +kernel) (by decide +kernel), (by decide +kernel), .inl (by decide +kernel)⟩) cs_nil (snd_Join (snd_str _ _ _) (snd_comp' [((Str.ofString "step"), 2)] (is_seq (snd_var (by decide +kernel) (.inl (by decide +kernel)) (by decide +kernel)) ⟨VarsOk.of (by decide +kernel) (by decide +kernel), (by decide +kernel), .inl (by decide +kernel)⟩) cs_nil (snd_callF W.co (ok_step_text W) (by decide +kernel) (by decide +kernel) (by decide +kernel) (snds_cons (snd_var (by decide +kernel) (.inl (by decide +kernel)) (by decide +kernel)) snds_nil) (fun _ => rfl)) (compOk_of (by decide +kernel)) (fun _ _ => rfl)) (fun _ => rfl) rfl (fun _ => rfl)) (compOk_of (by decide +kernel)) (fun _ _ => rfl)) (fun _ => rfl) rfl (fun _ => rfl))) ss_nil))
theorem ok_number_of : CallOk C (Str.ofString "number_of") 1 f_number_of := callOk_of (n := 0) W.co W.fn_number_of (f := d_number_of) (ss_cons (s_assign v_number_of_word V_number_of (by decide +kernel) (.inl (by decide +kernel)) (fun _ _ _ => rfl)) (ss_cons (s_if (tst_val (snd_Starts v_number_of_word (snd_str _ _ _) (fun _ => rfl) rfl (fun _ => rfl)) (fun _ => rfl)) (ss_cons (s_assign (snd_fromS v_number_of_word (snd_int _ _ _)) V_number_of (by decide +kernel) (.inl (by decide +kernel)) (fun _ _ _ => rfl)) ss_nil) ss_nil) (ss_cons (s_if (tst_boolop (bt_or (tst_cmp v_number_of_figures (snd_str _ _ _) op_eq rfl) (bt_one (tst_cmp (snd_callB W.co op_len (by decide +kernel) W.b_len (by decide +kernel) (snds_cons v_number_of_figures snds_nil) (fun _ => rfl)) (snd_int _ _ _) op_gt rfl)))) (ss_cons (s_raise W.co W.exc (by decide +kernel) (snd_str _ _ _) (fun _ => rfl) (by decide +kernel) (by decide +kernel)) ss_nil) ss_nil) (ss_cons (s_for (is_str v_number_of_figures ⟨V_number_of, (by decide +kernel), .inl (by decide +kernel)⟩) (ss_cons (s_if (tst_cmp v_number_of_sign (snd_gstr W.co (by decide +kernel) W.g_FIGURES (by decide +kernel)) op_notInStr rfl) (ss_cons (s_raise W.co W.exc (by decide +kernel) (snd_str _ _ _) (fun _ => rfl) (by decide +kernel) (by decide +kernel)) ss_nil) ss_nil) ss_nil) rfl (fun _ _ => rfl)) (ss_cons (s_ret (snd_callT W.co op_intStr (by decide +kernel) W.b_int (by decide +kernel) (snds_cons v_number_of_word snds_nil) (fun _ => rfl))) ss_nil)))))
theorem ok_step_of : CallOk C (Str.ofString "step_of") 2 f_step_of := callOk_of (n := 1) W.co W.fn_step_of (f := d_step_of) (ss_cons (s_assign (snd_Split v_step_of_text (snd_str _ _ _) (fun _ => rfl) rfl (fun _ => rfl)) V_step_of (by decide +kernel) (.inl (by decide +kernel)) (fun _ _ _ => rfl)) (ss_cons (s_if (tst_cmp v_step_of_words (snd_list (snds_cons (snd_str _ _ _) snds_nil) (fun _ => rfl) (by decide +kernel)) op_eq rfl) (ss_cons (s_ret (snd_tuple (snds_cons (snd_str _ _ _) snds_nil) (fun _ => rfl) (by decide +kernel))) ss_nil) ss_nil) (ss_cons (s_if (tst_boolop (bt_and (tst_cmp (snd_callB W.co op_len (by decide +kernel) W.b_len (by decide +kernel) (snds_cons v_step_of_words snds_nil) (fun _ => rfl)) (snd_int _ _ _) op_eq rfl) (bt_one (tst_cmp (snd_idx v_step_of_words (snd_int _ _ _) (fun _ _ => rfl)) (snd_str _ _ _) op_eq rfl)))) (ss_cons (s_ret (snd_tuple (snds_cons (snd_str _ _ _) (snds_cons (snd_callF W.co (ok_number_of W) (by decide +kernel) (by decide +kernel) (by decide +kernel) (snds_cons (snd_idx v_step_of_words (snd_int _ _ _) (fun _ _ => rfl)) snds_nil) (fun _ => rfl)) snds_nil)) (fun _ => rfl) (by decide +kernel))) ss_nil) ss_nil) (ss_cons (s_if (tst_boolop (bt_and (tst_cmp (snd_callB W.co op_len (by decide +kernel) W.b_len (by decide +kernel) (snds_cons v_step_of_words snds_nil) (fun _ => rfl)) (snd_int _ _ _) op_eq rfl) (bt_one (tst_cmp (snd_idx v_step_of_words (snd_int _ _ _) (fun _ _ => rfl)) (snd_str _ _ _) op_eq rfl)))) (ss_cons (s_ret (snd_tuple (snds_cons (snd_str _ _ _) (snds_cons (snd_callF W.co (ok_number_of W) (by decide +kernel) (by decide +kernel) (by decide +kernel) (snds_cons (snd_idx v_step_of_words (snd_int _ _ _) (fun _ _ => rfl)) snds_nil) (fun _ => rfl)) (snds_cons (snd_callF W.co (ok_number_of W) (by decide +kernel) (by decide +kernel) (by decide +kernel) (snds_cons (snd_idx v_step_of_words (snd_int _ _ _) (fun _ _ => rfl)) snds_nil) (fun _ => rfl)) snds_nil))) (fun _ => rfl) (by decide +kernel))) ss_nil) ss_nil) (ss_cons (s_raise W.co W.exc (by decide +kernel) (snd_str _ _ _) (fun _ => rfl) (by decide +kernel) (by decide +kernel)) ss_nil)))))
theorem ok_row_of : CallOk C (Str.ofString "row_of") 3 f_row_of := callOk_of (n := 2) W.co W.fn_row_of (f := d_row_of) (ss_cons (s_if (tst_cmp v_row_of_text (snd_str _ _ _) op_eq rfl) (ss_cons (s_ret (snd_list snds_nil (fun _ => rfl) (by decide +kernel))) ss_nil) ss_nil) (ss_cons (s_ret (snd_comp' [((Str.ofString "part"), 1)] (is_seq (snd_Split v_row_of_text (snd_str _ _ _) (fun _ => rfl) rfl (fun _ => rfl)) ⟨VarsOk.of (by decide +kernel) (by decide +kernel), (by decide +kernel), .inl (by decide +kernel)⟩) cs_nil (snd_callF W.co (ok_step_of W) (by decide +kernel) (by decide +kernel) (by decide +kernel) (snds_cons (snd_var (by decide +kernel) (.inl (by decide +kernel)) (by decide +kernel)) snds_nil) (fun _ => rfl)) (compOk_of (by decide +kernel)) (fun _ _ => rfl))) ss_nil))
theorem ok_read : CallOk C (Str.ofString "read") 6 f_read := callOk_of (n := 5) W.co W.fn_read (f := d_read) (ss_cons (s_if (tst_not (tst_val (snd_isi W.co .str v_read_text (fun _ => rfl) (by decide +kernel) W.b_isinstance (by decide +kernel) (by decide +kernel) W.b_str (by decide +kernel)) (fun _ => rfl))) (ss_cons (s_raise W.co W.exc (by decide +kernel) (snd_str _ _ _) (fun _ => rfl) (by decide +kernel) (by decide +kernel)) ss_nil) ss_nil) (ss_cons (s_assignComp' [((Str.ofString "part"), 2)] (is_seq (snd_Split v_read_text (snd_str _ _ _) (fun _ => rfl) rfl (fun _ => rfl)) ⟨VarsOk.of (by decide +kernel) (by decide +kernel), (by decide +kernel), .inl (by decide +kernel)⟩) cs_nil (snd_callF W.co (ok_row_of W) (by decide +kernel) (by decide +kernel) (by decide +kernel) (snds_cons (snd_var (by decide +kernel) (.inl (by decide +kernel)) (by decide +kernel)) snds_nil) (fun _ => rfl)) (compOk_of (by decide +kernel)) (fun _ _ => rfl) V_read (by decide +kernel) (by decide +kernel) (swap_yes (by decide +kernel))) (ss_cons (s_tryH W.co W.exc (xs_expr (snd_callF W.co (ok_need_web W) (by decide +kernel) (by decide +kernel) (by decide +kernel) (snds_cons v_read_web snds_nil) (fun _ => rfl)) (fun _ => rfl)) (fun c hc hs => h_raise W.co W.exc (plain_of hc hs) (by decide +kernel) (by decide +kernel) (by decide +kernel) (by decide +kernel)) (by decide +kernel) (by decide +kernel) (by decide +kernel) (by decide +kernel)) (ss_cons (s_if (tst_cmp (snd_callF W.co (ok_shown W) (by decide +kernel) (by decide +kernel) (by decide +kernel) (snds_cons v_read_web snds_nil) (fun _ => rfl)) v_read_text op_ne rfl) (ss_cons (s_raise W.co W.exc (by decide +kernel) (snd_str _ _ _) (fun _ => rfl) (by decide +kernel) (by decide +kernel)) ss_nil) ss_nil) (ss_cons (s_ret v_read_web) ss_nil)))))
theorem ok__law_cell_at : CallOk C (Str.ofString "_law_cell_at") 1 f__law_cell_at := callOk_of (n := 0) W.co W.fn__law_cell_at (f := d__law_cell_at) (ss_cons (s_if (tst_cmp v__law_cell_at__law_k (snd_callB W.co op_len (by decide +kernel) W.b_len (by decide +kernel) (snds_cons v__law_cell_at__law_script snds_nil) (fun _ => rfl)) op_lt rfl) (ss_cons (s_ret (snd_idx v__law_cell_at__law_script v__law_cell_at__law_k (fun _ _ => rfl))) ss_nil) ss_nil) (ss_cons (s_ret (snd_int _ _ _)) ss_nil))
theorem ok__law_number_by : CallOk C (Str.ofString "_law_number_by") 1 f__law_number_by := callOk_of (n := 0) W.co W.fn__law_number_by (f := d__law_number_by) (ss_cons (s_if (tst_cmp (snd_bin v__law_number_by__law_cell (snd_int _ _ _) op_fmod) (snd_int _ _ _) op_eq rfl) (ss_cons (s_ret (snd_bin (snd_bin (snd_bin (snd_bin (snd_bin v__law_number_by__law_cell (snd_int _ _ _) op_fdiv) (snd_bin (snd_int _ _ _) (snd_int _ _ _) op_pow) op_mul) (snd_int _ _ _) op_add) (snd_bin (snd_bin (snd_int _ _ _) (snd_bin (snd_int _ _ _) (snd_int _ _ _) op_pow) op_mul) (snd_int _ _ _) op_sub) op_fmod) (snd_bin (snd_bin (snd_int _ _ _) (snd_int _ _ _) op_pow) (snd_int _ _ _) op_sub) op_sub)) ss_nil) ss_nil) (ss_cons (s_ret (snd_bin (snd_bin (snd_bin v__law_number_by__law_cell (snd_int _ _ _) op_fdiv) (snd_int _ _ _) op_fmod) (snd_int _ _ _) op_sub)) ss_nil))
theorem ok__law_step_by : CallOk C (Str.ofString "_law_step_by") 2 f__law_step_by := callOk_of (n := 1) W.co W.fn__law_step_by (f := d__law_step_by) (ss_cons (s_if (tst_cmp (snd_bin v__law_step_by__law_cell (snd_int _ _ _) op_fmod) (snd_int _ _ _) op_lt rfl) (ss_cons (s_ret (snd_tuple (snds_cons (snd_str _ _ _) (snds_cons (snd_bin (snd_bin v__law_step_by__law_cell (snd_int _ _ _) op_fdiv) (snd_int _ _ _) op_fmod) (snds_cons (snd_callF W.co (ok__law_number_by W) (by decide +kernel) (by decide +kernel) (by decide +kernel) (snds_cons (snd_bin v__law_step_by__law_cell (snd_int _ _ _) op_fdiv) snds_nil) (fun _ => rfl)) snds_nil))) (fun _ => rfl) (by decide +kernel))) ss_nil) ss_nil) (ss_cons (s_if (tst_cmp (snd_bin v__law_step_by__law_cell (snd_int _ _ _) op_fmod) (snd_int _ _ _) op_lt rfl) (ss_cons (s_ret (snd_tuple (snds_cons (snd_str _ _ _) (snds_cons (snd_bin (snd_bin v__law_step_by__law_cell (snd_int _ _ _) op_fdiv) (snd_int _ _ _) op_fmod) snds_nil)) (fun _ => rfl) (by decide +kernel))) ss_nil) ss_nil) (ss_cons (s_ret (snd_tuple (snds_cons (snd_str _ _ _) snds_nil) (fun _ => rfl) (by decide +kernel))) ss_nil)))
theorem ok__law_web_by : CallOk C (Str.ofString "_law_web_by") 3 f__law_web_by := callOk_of (n := 2) W.co W.fn__law_web_by (f := d__law_web_by) (ss_cons (s_assign (snd_callF W.co (ok__law_cell_at W) (by decide +kernel) (by decide +kernel) (by decide +kernel) (snds_cons v__law_web_by__law_script (snds_cons (snd_int _ _ _) snds_nil)) (fun _ => rfl)) V__law_web_by (by decide +kernel) (.inl (by decide +kernel)) (fun _ _ _ => rfl)) (ss_cons (s_assignComp' [((Str.ofString "_law_k"), 5)] (is_range1 W.co (snd_bin (snd_int _ _ _) (snd_bin v__law_web_by__law_first (snd_int _ _ _) op_fmod) op_add) (fun _ => rfl) ⟨VarsOk.of (by decide +kernel) (by decide +kernel), (by decide +kernel), .inl (by decide +kernel)⟩ (by decide +kernel) W.b_range (by decide +kernel)) cs_nil (snd_list snds_nil (fun _ => rfl) (by decide +kernel)) (compOk_of (by decide +kernel)) (fun _ _ => rfl) V__law_web_by (by decide +kernel) (by decide +kernel) (swap_yes (by decide +kernel))) (ss_cons (s_for (is_range1 W.co (snd_bin (snd_bin v__law_web_by__law_first (snd_int _ _ _) op_fdiv) (snd_int _ _ _) op_fmod) (fun _ => rfl) ⟨V__law_web_by, (by decide +kernel), .inl (by decide +kernel)⟩ (by decide +kernel) W.b_range (by decide +kernel)) (ss_cons (s_assign (snd_callF W.co (ok__law_cell_at W) (by decide +kernel) (by decide +kernel) (by decide +kernel) (snds_cons v__law_web_by__law_script (snds_cons (snd_bin (snd_int _ _ _) v__law_web_by__law_k op_add) snds_nil)) (fun _ => rfl)) V__law_web_by (by decide +kernel) (.inl (by decide +kernel)) (fun _ _ _ => rfl)) (ss_cons (s_expr (snd_append (snd_idx v__law_web_by__law_web (snd_bin (snd_bin v__law_web_by__law_cell (snd_int _ _ _) op_fdiv) (snd_callB W.co op_len (by decide +kernel) W.b_len (by decide +kernel) (snds_cons v__law_web_by__law_web snds_nil) (fun _ => rfl)) op_fmod) (fun _ _ => rfl)) (snd_callF W.co (ok__law_step_by W) (by decide +kernel) (by decide +kernel) (by decide +kernel) (snds_cons (snd_bin v__law_web_by__law_cell (snd_bin (snd_int _ _ _) v__law_web_by__law_k op_mul) op_add) snds_nil) (fun _ => rfl)) (fun _ => rfl) rfl (fun _ => rfl)) (fun _ => rfl)) ss_nil)) rfl (fun _ _ => rfl)) (ss_cons (s_ret v__law_web_by__law_web) ss_nil))))
theorem ok__law_text_by : CallOk C (Str.ofString "_law_text_by") 1 f__law_text_by := callOk_of (n := 0) W.co W.fn__law_text_by (f := d__law_text_by) (ss_cons (s_assign (snd_list snds_nil (fun _ => rfl) (by decide +kernel)) V__law_text_by (by decide +kernel) (.inl (by decide +kernel)) (fun _ _ _ => rfl)) (ss_cons (s_for (is_seq v__law_text_by__law_web ⟨V__law_text_by, (by decide +kernel), .inl (by decide +kernel)⟩) (ss_cons (s_assign (snd_list snds_nil (fun _ => rfl) (by decide +kernel)) V__law_text_by (by decide +kernel) (.inl (by decide +kernel)) (fun _ _ _ => rfl)) (ss_cons (s_for (is_seq v__law_text_by__law_row ⟨V__law_text_by, (by decide +kernel), .inl (by decide +kernel)⟩) (ss_cons (s_expr (snd_append v__law_text_by__law_parts (snd_Join (snd_str _ _ _) (snd_comp' [((Str.ofString "_law_word"), 5)] (is_seq v__law_text_by__law_step_here ⟨VarsOk.of (by decide +kernel) (by decide +kernel), (by decide +kernel), .inl (by decide +kernel)⟩) cs_nil (snd_callT W.co op_strOf (by decide +kernel) W.b_str (by decide +kernel) (snds_cons (snd_var (by decide +kernel) (.inl (by decide +kernel)) (by decide +kernel)) snds_nil) (fun _ => rfl)) (compOk_of (by decide +kernel)) (fun _ _ => rfl)) (fun _ => rfl) rfl (fun _ => rfl)) (fun _ => rfl) rfl (fun _ => rfl)) (fun _ => rfl)) ss_nil) rfl (fun _ _ => rfl)) (ss_cons (s_expr (snd_append v__law_text_by__law_rows (snd_Join (snd_str _ _ _) v__law_text_by__law_parts (fun _ => rfl) rfl (fun _ => rfl)) (fun _ => rfl) rfl (fun _ => rfl)) (fun _ => rfl)) ss_nil))) rfl (fun _ _ => rfl)) (ss_cons (s_ret (snd_Join (snd_str _ _ _) v__law_text_by__law_rows (fun _ => rfl) rfl (fun _ => rfl))) ss_nil)))
theorem ok__law_changed : CallOk C (Str.ofString "_law_changed") 1 f__law_changed := callOk_of (n := 0) W.co W.fn__law_changed (f := d__law_changed) (ss_cons (s_assign (snd_str _ _ _) V__law_changed (by decide +kernel) (.inl (by decide +kernel)) (fun _ _ _ => rfl)) (ss_cons (s_assign (snd_bin v__law_changed__law_some (snd_str _ _ _) op_add) V__law_changed (by decide +kernel) (.inl (by decide +kernel)) (fun _ _ _ => rfl)) (ss_cons (s_assign (snd_bin (snd_bin v__law_changed__law_cell (snd_int _ _ _) op_fdiv) (snd_bin (snd_callB W.co op_len (by decide +kernel) W.b_len (by decide +kernel) (snds_cons v__law_changed__law_text snds_nil) (fun _ => rfl)) (snd_int _ _ _) op_add) op_fmod) V__law_changed (by decide +kernel) (.inl (by decide +kernel)) (fun _ _ _ => rfl)) (ss_cons (s_assign (snd_idxS v__law_changed__law_some (snd_bin (snd_bin v__law_changed__law_cell (snd_int _ _ _) op_fdiv) (snd_int _ _ _) op_fmod) (fun _ _ => rfl)) V__law_changed (by decide +kernel) (.inl (by decide +kernel)) (fun _ _ _ => rfl)) (ss_cons (s_if (tst_cmp (snd_bin v__law_changed__law_cell (snd_int _ _ _) op_fmod) (snd_int _ _ _) op_eq rfl) (ss_cons (s_ret (snd_bin (snd_bin (snd_uptoS v__law_changed__law_text v__law_changed__law_at) v__law_changed__law_sign op_add) (snd_fromS v__law_changed__law_text v__law_changed__law_at) op_add)) ss_nil) ss_nil) (ss_cons (s_if (tst_cmp (snd_bin v__law_changed__law_cell (snd_int _ _ _) op_fmod) (snd_int _ _ _) op_eq rfl) (ss_cons (s_ret (snd_bin (snd_uptoS v__law_changed__law_text v__law_changed__law_at) (snd_fromS v__law_changed__law_text (snd_bin v__law_changed__law_at (snd_int _ _ _) op_add)) op_add)) ss_nil) ss_nil) (ss_cons (s_ret (snd_bin (snd_bin (snd_uptoS v__law_changed__law_text v__law_changed__law_at) v__law_changed__law_sign op_add) (snd_fromS v__law_changed__law_text (snd_bin v__law_changed__law_at (snd_int _ _ _) op_add)) op_add)) ss_nil)))))))
theorem ok__law_odd : CallOk C (Str.ofString "_law_odd") 1 f__law_odd := by
  refine callOk_of (n := 0) W.co W.fn__law_odd (f := d__law_odd) ?_
  refine ss_cons ?_ ?_
  · refine s_assign (sg := sg__law_odd) ?_ ?_ ?_ ?_ ?_
    · refine snd_list ?_ ?_ ?_
      · iterate 12 (refine snds_cons ?_ ?_; (exact snd_str _ _ _))
        exact snds_nil
      · exact fun _ => rfl
      · decide +kernel
    · exact V__law_odd
    · decide +kernel
    · exact .inl (by decide +kernel)
    · exact fun _ _ _ => rfl
  refine ss_cons ?_ ?_
  · refine s_assign (sg := sg__law_odd) ?_ ?_ ?_ ?_ ?_
    · refine snd_bin ?_ ?_ ?_
      · exact v__law_odd__law_some
      · refine snd_list ?_ ?_ ?_
        · iterate 9 (refine snds_cons ?_ ?_; (exact snd_str _ _ _))
          exact snds_nil
        · exact fun _ => rfl
        · decide +kernel
      · exact op_add
    · exact V__law_odd
    · decide +kernel
    · exact .inl (by decide +kernel)
    · exact fun _ _ _ => rfl
  refine ss_cons ?_ ?_
  · refine s_assign (sg := sg__law_odd) ?_ ?_ ?_ ?_ ?_
    · refine snd_bin ?_ ?_ ?_
      · exact v__law_odd__law_some
      · refine snd_list ?_ ?_ ?_
        · refine snds_cons ?_ ?_
          · exact snd_bin (snd_str _ _ _) (snd_bin (snd_str _ _ _) (snd_int _ _ _) op_mul) op_add
          refine snds_cons ?_ ?_
          · exact snd_bin (snd_bin (snd_str _ _ _) (snd_int _ _ _) op_mul) (snd_str _ _ _) op_add
          exact snds_cons (snd_str _ _ _) snds_nil
        · exact fun _ => rfl
        · decide +kernel
      · exact op_add
    · exact V__law_odd
    · decide +kernel
    · exact .inl (by decide +kernel)
    · exact fun _ _ _ => rfl
  refine ss_cons ?_ ss_nil
  exact s_ret (snd_idx v__law_odd__law_some (snd_bin v__law_odd__law_cell (snd_int _ _ _) op_fmod) (fun _ _ => rfl))
theorem ok__law_number : CallOk C (Str.ofString "_law_number") 1 f__law_number := callOk_of (n := 0) W.co W.fn__law_number (f := d__law_number) (ss_cons (s_assign (snd_ifexp (tst_cmp (snd_uptoS v__law_number__law_word (snd_int _ _ _)) (snd_str _ _ _) op_eq rfl) (snd_fromS v__law_number__law_word (snd_int _ _ _)) v__law_number__law_word) V__law_number (by decide +kernel) (.inl (by decide +kernel)) (fun _ _ _ => rfl)) (ss_cons (s_if (tst_boolop (bt_or (tst_not (tst_chain (snd_int _ _ _) (snd_callB W.co op_len (by decide +kernel) W.b_len (by decide +kernel) (snds_cons v__law_number__law_figures snds_nil) (fun _ => rfl)) (snd_int _ _ _) op_le op_le rfl)) (bt_one (tst_cmp (snd_comp' [((Str.ofString "_law_sign"), 2)] (is_str v__law_number__law_figures ⟨VarsOk.of (by decide +kernel) (by decide +kernel), (by decide +kernel), .inl (by decide +kernel)⟩) (cs_one (tst_cmp (snd_var (by decide +kernel) (.inl (by decide +kernel)) (by decide +kernel)) (snd_str _ _ _) op_notInStr rfl)) (snd_var (by decide +kernel) (.inl (by decide +kernel)) (by decide +kernel)) (compOk_of (by decide +kernel)) (fun _ _ => rfl)) (snd_list snds_nil (fun _ => rfl) (by decide +kernel)) op_ne rfl)))) (ss_cons (s_ret (snd_none _ _)) ss_nil) ss_nil) (ss_cons (s_if (tst_boolop (bt_and (tst_cmp (snd_idxS v__law_number__law_figures (snd_int _ _ _) (fun _ _ => rfl)) (snd_str _ _ _) op_eq rfl) (bt_one (tst_cmp v__law_number__law_word (snd_str _ _ _) op_ne rfl)))) (ss_cons (s_ret (snd_none _ _)) ss_nil) ss_nil) (ss_cons (s_ret (snd_callT W.co op_intStr (by decide +kernel) W.b_int (by decide +kernel) (snds_cons v__law_number__law_word snds_nil) (fun _ => rfl))) ss_nil))))
theorem ok__law_step : CallOk C (Str.ofString "_law_step") 2 f__law_step := callOk_of (n := 1) W.co W.fn__law_step (f := d__law_step) (ss_cons (s_assign (snd_Split v__law_step__law_text (snd_str _ _ _) (fun _ => rfl) rfl (fun _ => rfl)) V__law_step (by decide +kernel) (.inl (by decide +kernel)) (fun _ _ _ => rfl)) (ss_cons (s_if (tst_cmp v__law_step__law_words (snd_list (snds_cons (snd_str _ _ _) snds_nil) (fun _ => rfl) (by decide +kernel)) op_eq rfl) (ss_cons (s_ret (snd_tuple (snds_cons (snd_str _ _ _) snds_nil) (fun _ => rfl) (by decide +kernel))) ss_nil) ss_nil) (ss_cons (s_if (tst_boolop (bt_or (tst_cmp (snd_idx v__law_step__law_words (snd_int _ _ _) (fun _ _ => rfl)) (snd_tuple (snds_cons (snd_str _ _ _) (snds_cons (snd_str _ _ _) snds_nil)) (fun _ => rfl) (by decide +kernel)) op_notIn rfl) (bt_one (tst_cmp (snd_callB W.co op_len (by decide +kernel) W.b_len (by decide +kernel) (snds_cons v__law_step__law_words snds_nil) (fun _ => rfl)) (snd_bin (snd_int _ _ _) (snd_callT W.co op_intOf (by decide +kernel) W.b_int (by decide +kernel) (snds_cons (snd_cmp (snd_idx v__law_step__law_words (snd_int _ _ _) (fun _ _ => rfl)) (snd_str _ _ _) op_eq rfl) snds_nil) (fun _ => rfl)) op_sub) op_ne rfl)))) (ss_cons (s_ret (snd_none _ _)) ss_nil) ss_nil) (ss_cons (s_assignComp' [((Str.ofString "_law_word"), 3)] (is_seq (snd_from v__law_step__law_words (snd_int _ _ _)) ⟨VarsOk.of (by decide +kernel) (by decide +kernel), (by decide +kernel), .inl (by decide +kernel)⟩) cs_nil (snd_callF W.co (ok__law_number W) (by decide +kernel) (by decide +kernel) (by decide +kernel) (snds_cons (snd_var (by decide +kernel) (.inl (by decide +kernel)) (by decide +kernel)) snds_nil) (fun _ => rfl)) (compOk_of (by decide +kernel)) (fun _ _ => rfl) V__law_step (by decide +kernel) (by decide +kernel) (swap_yes (by decide +kernel))) (ss_cons (s_if (tst_boolop (bt_or (tst_cmp (snd_none _ _) v__law_step__law_numbers op_in rfl) (bt_one (tst_not (tst_chain (snd_int _ _ _) (snd_idx v__law_step__law_numbers (snd_int _ _ _) (fun _ _ => rfl)) (snd_int _ _ _) op_le op_le rfl))))) (ss_cons (s_ret (snd_none _ _)) ss_nil) ss_nil) (ss_cons (s_ret (snd_callT W.co op_tuple (by decide +kernel) W.b_tuple (by decide +kernel) (snds_cons (snd_bin (snd_list (snds_cons (snd_idx v__law_step__law_words (snd_int _ _ _) (fun _ _ => rfl)) snds_nil) (fun _ => rfl) (by decide +kernel)) v__law_step__law_numbers op_add) snds_nil) (fun _ => rfl))) ss_nil))))))
theorem ok__law_due : CallOk C (Str.ofString "_law_due") 3 f__law_due := callOk_of (n := 2) W.co W.fn__law_due (f := d__law_due) (ss_cons (s_assign (snd_list snds_nil (fun _ => rfl) (by decide +kernel)) V__law_due (by decide +kernel) (.inl (by decide +kernel)) (fun _ _ _ => rfl)) (ss_cons (s_for (is_seq (snd_Split v__law_due__law_text (snd_str _ _ _) (fun _ => rfl) rfl (fun _ => rfl)) ⟨V__law_due, (by decide +kernel), .inl (by decide +kernel)⟩) (ss_cons (s_expr (snd_append v__law_due__law_web (snd_ifexp (tst_cmp v__law_due__law_part (snd_str _ _ _) op_ne rfl) (snd_comp' [((Str.ofString "_law_one"), 7)] (is_seq (snd_Split v__law_due__law_part (snd_str _ _ _) (fun _ => rfl) rfl (fun _ => rfl)) ⟨VarsOk.of (by decide +kernel) (by decide +kernel), (by decide +kernel), .inl (by decide +kernel)⟩) cs_nil (snd_callF W.co (ok__law_step W) (by decide +kernel) (by decide +kernel) (by decide +kernel) (snds_cons (snd_var (by decide +kernel) (.inl (by decide +kernel)) (by decide +kernel)) snds_nil) (fun _ => rfl)) (compOk_of (by decide +kernel)) (fun _ _ => rfl)) (snd_list snds_nil (fun _ => rfl) (by decide +kernel))) (fun _ => rfl) rfl (fun _ => rfl)) (fun _ => rfl)) ss_nil) rfl (fun _ _ => rfl)) (ss_cons (s_if (tst_boolop (bt_or (tst_cmp (snd_callB W.co op_len (by decide +kernel) W.b_len (by decide +kernel) (snds_cons v__law_due__law_web snds_nil) (fun _ => rfl)) (snd_int _ _ _) op_gt rfl) (bt_one (tst_cmp (snd_comp' [((Str.ofString "_law_row"), 6)] (is_seq v__law_due__law_web ⟨VarsOk.of (by decide +kernel) (by decide +kernel), (by decide +kernel), .inl (by decide +kernel)⟩) (cs_one (tst_cmp (snd_none _ _) (snd_var (by decide +kernel) (.inl (by decide +kernel)) (by decide +kernel)) op_in rfl)) (snd_var (by decide +kernel) (.inl (by decide +kernel)) (by decide +kernel)) (compOk_of (by decide +kernel)) (fun _ _ => rfl)) (snd_list snds_nil (fun _ => rfl) (by decide +kernel)) op_ne rfl)))) (ss_cons (s_ret (snd_none _ _)) ss_nil) ss_nil) (ss_cons (s_assign (snd_int _ _ _) V__law_due (by decide +kernel) (.inl (by decide +kernel)) (fun _ _ _ => rfl)) (ss_cons (s_for (is_seq v__law_due__law_web ⟨V__law_due, (by decide +kernel), .inl (by decide +kernel)⟩) (ss_cons (s_assign (snd_bin v__law_due__law_deeds (snd_callB W.co op_len (by decide +kernel) W.b_len (by decide +kernel) (snds_cons (snd_comp' [((Str.ofString "_law_step_here"), 5)] (is_seq v__law_due__law_row ⟨VarsOk.of (by decide +kernel) (by decide +kernel), (by decide +kernel), .inl (by decide +kernel)⟩) (cs_one (tst_cmp (snd_var (by decide +kernel) (.inl (by decide +kernel)) (by decide +kernel)) (snd_tuple (snds_cons (snd_str _ _ _) snds_nil) (fun _ => rfl) (by decide +kernel)) op_ne rfl)) (snd_var (by decide +kernel) (.inl (by decide +kernel)) (by decide +kernel)) (compOk_of (by decide +kernel)) (fun _ _ => rfl)) snds_nil) (fun _ => rfl)) op_add) V__law_due (by decide +kernel) (.inl (by decide +kernel)) (fun _ _ _ => rfl)) ss_nil) rfl (fun _ _ => rfl)) (ss_cons (s_ret (snd_ifexp (tst_cmp v__law_due__law_deeds (snd_int _ _ _) op_lt rfl) v__law_due__law_web (snd_none _ _))) ss_nil))))))
theorem ok__law_read : CallOk C (Str.ofString "_law_read") 7 f__law_read := callOk_of (n := 6) W.co W.fn__law_read (f := d__law_read) (ss_cons (s_tryAs W.co W.exc (xs_ret (snd_callF W.co (ok_read W) (by decide +kernel) (by decide +kernel) (by decide +kernel) (snds_cons v__law_read__law_text snds_nil) (fun _ => rfl))) (ss_cons (s_assign (snd_boolop (bs_or (snd_isiX W.co W.exc v__law_read_error (fun _ => rfl) (by decide +kernel) W.b_isinstance (by decide +kernel) (by decide +kernel) (by decide +kernel) (.inl ⟨(by decide +kernel), (by decide +kernel)⟩)) (bs_one (snd_isiX W.co W.exc v__law_read_error (fun _ => rfl) (by decide +kernel) W.b_isinstance (by decide +kernel) (by decide +kernel) (by decide +kernel) (.inl ⟨(by decide +kernel), (by decide +kernel)⟩))))) V__law_read (by decide +kernel) (.inl (by decide +kernel)) (fun _ _ _ => rfl)) (ss_cons (s_assign (snd_boolop (bs_or v__law_read__law_other (bs_or (snd_isiX W.co W.exc v__law_read_error (fun _ => rfl) (by decide +kernel) W.b_isinstance (by decide +kernel) (by decide +kernel) (by decide +kernel) (.inl ⟨(by decide +kernel), (by decide +kernel)⟩)) (bs_one (snd_isiX W.co W.exc v__law_read_error (fun _ => rfl) (by decide +kernel) W.b_isinstance (by decide +kernel) (by decide +kernel) (by decide +kernel) (.inl ⟨(by decide +kernel), (by decide +kernel)⟩)))))) V__law_read (by decide +kernel) (.inl (by decide +kernel)) (fun _ _ _ => rfl)) (ss_cons (s_ret (snd_ifexp (tst_boolop (bt_and (tst_val (snd_isiX W.co W.exc v__law_read_error (fun _ => rfl) (by decide +kernel) W.b_isinstance (by decide +kernel) (by decide +kernel) (by decide +kernel) (.inl ⟨(by decide +kernel), (by decide +kernel)⟩)) (fun _ => rfl)) (bt_and (tst_val (snd_isiX W.co W.exc v__law_read_error (fun _ => rfl) (by decide +kernel) W.b_isinstance (by decide +kernel) (by decide +kernel) (by decide +kernel) (.inr ⟨rfl, W.b_ValueError⟩)) (fun _ => rfl)) (bt_one (tst_not (tst_val v__law_read__law_other (fun _ => rfl))))))) (snd_none _ _) (snd_str _ _ _))) ss_nil))) V__law_read (by decide +kernel) (by decide +kernel) (by decide +kernel) (by decide +kernel) (by decide +kernel) (by decide +kernel)) ss_nil)
theorem ok__law_same : CallOk C (Str.ofString "_law_same") 1 f__law_same := callOk_of (n := 0) W.co W.fn__law_same (f := d__law_same) (ss_cons (s_if (tst_boolop (bt_or (tst_not (tst_val (snd_isi W.co .list v__law_same__law_found (fun _ => rfl) (by decide +kernel) W.b_isinstance (by decide +kernel) (by decide +kernel) W.b_list (by decide +kernel)) (fun _ => rfl))) (bt_one (tst_cmp v__law_same__law_found v__law_same__law_web op_ne rfl)))) (ss_cons (s_ret (snd_bool _ _ _)) ss_nil) ss_nil) (ss_cons (s_for (is_seq v__law_same__law_found ⟨V__law_same, (by decide +kernel), .inl (by decide +kernel)⟩) (ss_cons (s_if (tst_not (tst_val (snd_isi W.co .list v__law_same__law_row (fun _ => rfl) (by decide +kernel) W.b_isinstance (by decide +kernel) (by decide +kernel) W.b_list (by decide +kernel)) (fun _ => rfl))) (ss_cons (s_ret (snd_bool _ _ _)) ss_nil) ss_nil) (ss_cons (s_for (is_seq v__law_same__law_row ⟨V__law_same, (by decide +kernel), .inl (by decide +kernel)⟩) (ss_cons (s_if (tst_boolop (bt_or (tst_not (tst_val (snd_isi W.co .tuple v__law_same__law_step_here (fun _ => rfl) (by decide +kernel) W.b_isinstance (by decide +kernel) (by decide +kernel) W.b_tuple (by decide +kernel)) (fun _ => rfl))) (bt_one (tst_cmp (snd_comp' [((Str.ofString "_law_word"), 4)] (is_seq (snd_from v__law_same__law_step_here (snd_int _ _ _)) ⟨VarsOk.of (by decide +kernel) (by decide +kernel), (by decide +kernel), .inl (by decide +kernel)⟩) (cs_one (tst_val (snd_isi W.co .bool (snd_var (by decide +kernel) (.inl (by decide +kernel)) (by decide +kernel)) (fun _ => rfl) (by decide +kernel) W.b_isinstance (by decide +kernel) (by decide +kernel) W.b_bool (by decide +kernel)) (fun _ => rfl))) (snd_var (by decide +kernel) (.inl (by decide +kernel)) (by decide +kernel)) (compOk_of (by decide +kernel)) (fun _ _ => rfl)) (snd_list snds_nil (fun _ => rfl) (by decide +kernel)) op_ne rfl)))) (ss_cons (s_ret (snd_bool _ _ _)) ss_nil) ss_nil) ss_nil) rfl (fun _ _ => rfl)) ss_nil)) rfl (fun _ _ => rfl)) (ss_cons (s_ret (snd_bool _ _ _)) ss_nil)))
theorem ok_law : CallOk C (Str.ofString "law") 8 f_law := callOk_of (n := 7) W.co W.fn_law (f := d_law) (ss_cons (s_assign (snd_callF W.co (ok__law_web_by W) (by decide +kernel) (by decide +kernel) (by decide +kernel) (snds_cons v_law__law_script snds_nil) (fun _ => rfl)) V_law (by decide +kernel) (.inl (by decide +kernel)) (fun _ _ _ => rfl)) (ss_cons (s_assign (snd_callF W.co (ok__law_text_by W) (by decide +kernel) (by decide +kernel) (by decide +kernel) (snds_cons v_law__law_web snds_nil) (fun _ => rfl)) V_law (by decide +kernel) (.inl (by decide +kernel)) (fun _ _ _ => rfl)) (ss_cons (s_assignComp' [((Str.ofString "_law_row"), 8)] (is_seq v_law__law_web ⟨VarsOk.of (by decide +kernel) (by decide +kernel), (by decide +kernel), .inl (by decide +kernel)⟩) cs_nil (snd_callT W.co op_list (by decide +kernel) W.b_list (by decide +kernel) (snds_cons (snd_var (by decide +kernel) (.inl (by decide +kernel)) (by decide +kernel)) snds_nil) (fun _ => rfl)) (compOk_of (by decide +kernel)) (fun _ _ => rfl) V_law (by decide +kernel) (by decide +kernel) (swap_yes (by decide +kernel))) (ss_cons (s_assign (snd_callF W.co (ok_shown W) (by decide +kernel) (by decide +kernel) (by decide +kernel) (snds_cons v_law__law_handed snds_nil) (fun _ => rfl)) V_law (by decide +kernel) (.inl (by decide +kernel)) (fun _ _ _ => rfl)) (ss_cons (s_if (tst_boolop (bt_or (tst_not (tst_val (snd_isi W.co .str v_law__law_found (fun _ => rfl) (by decide +kernel) W.b_isinstance (by decide +kernel) (by decide +kernel) W.b_str (by decide +kernel)) (fun _ => rfl))) (bt_or (tst_cmp v_law__law_found v_law__law_text op_ne rfl) (bt_or (tst_cmp v_law__law_handed v_law__law_web op_ne rfl) (bt_one (tst_not (tst_val (snd_callF W.co (ok__law_same W) (by decide +kernel) (by decide +kernel) (by decide +kernel) (snds_cons (snd_callF W.co (ok__law_read W) (by decide +kernel) (by decide +kernel) (by decide +kernel) (snds_cons v_law__law_text snds_nil) (fun _ => rfl)) (snds_cons v_law__law_web snds_nil)) (fun _ => rfl)) (fun _ => rfl)))))))) (ss_cons (s_ret (snd_bool _ _ _)) ss_nil) ss_nil) (ss_cons (s_assign (snd_callF W.co (ok__law_cell_at W) (by decide +kernel) (by decide +kernel) (by decide +kernel) (snds_cons v_law__law_script (snds_cons (snd_int _ _ _) snds_nil)) (fun _ => rfl)) V_law (by decide +kernel) (.inl (by decide +kernel)) (fun _ _ _ => rfl)) (ss_cons (s_if (tst_cmp (snd_bin v_law__law_cell (snd_int _ _ _) op_fmod) (snd_int _ _ _) op_eq rfl) (ss_cons (s_ret (snd_cmp (snd_callF W.co (ok__law_read W) (by decide +kernel) (by decide +kernel) (by decide +kernel) (snds_cons (snd_idx (snd_list (snds_cons (snd_none _ _) (snds_cons (snd_int _ _ _) (snds_cons (snd_list (snds_cons (snd_str _ _ _) snds_nil) (fun _ => rfl) (by decide +kernel)) (snds_cons (snd_bool _ _ _) snds_nil)))) (fun _ => rfl) (by decide +kernel)) (snd_bin (snd_bin v_law__law_cell (snd_int _ _ _) op_fdiv) (snd_int _ _ _) op_fmod) (fun _ _ => rfl)) snds_nil) (fun _ => rfl)) (snd_none _ _) op_isNone rfl)) ss_nil) ss_nil) (ss_cons (s_if (tst_cmp (snd_bin v_law__law_cell (snd_int _ _ _) op_fmod) (snd_int _ _ _) op_eq rfl) (ss_cons (s_assign (snd_callF W.co (ok__law_odd W) (by decide +kernel) (by decide +kernel) (by decide +kernel) (snds_cons (snd_bin v_law__law_cell (snd_int _ _ _) op_fdiv) snds_nil) (fun _ => rfl)) V_law (by decide +kernel) (.inl (by decide +kernel)) (fun _ _ _ => rfl)) ss_nil) ss_nil) (ss_cons (s_if (tst_cmp (snd_bin v_law__law_cell (snd_int _ _ _) op_fmod) (snd_int _ _ _) op_eq rfl) (ss_cons (s_assign (snd_callF W.co (ok__law_changed W) (by decide +kernel) (by decide +kernel) (by decide +kernel) (snds_cons v_law__law_text (snds_cons (snd_bin v_law__law_cell (snd_int _ _ _) op_fdiv) snds_nil)) (fun _ => rfl)) V_law (by decide +kernel) (.inl (by decide +kernel)) (fun _ _ _ => rfl)) ss_nil) ss_nil) (ss_cons (s_assign (snd_callF W.co (ok__law_due W) (by decide +kernel) (by decide +kernel) (by decide +kernel) (snds_cons v_law__law_text snds_nil) (fun _ => rfl)) V_law (by decide +kernel) (.inl (by decide +kernel)) (fun _ _ _ => rfl)) (ss_cons (s_assign (snd_callF W.co (ok__law_read W) (by decide +kernel) (by decide +kernel) (by decide +kernel) (snds_cons v_law__law_text snds_nil) (fun _ => rfl)) V_law (by decide +kernel) (.inl (by decide +kernel)) (fun _ _ _ => rfl)) (ss_cons (s_if (tst_cmp v_law__law_due_here (snd_none _ _) op_isNone rfl) (ss_cons (s_ret (snd_cmp v_law__law_told (snd_none _ _) op_isNone rfl)) ss_nil) ss_nil) (ss_cons (s_ret (snd_callF W.co (ok__law_same W) (by decide +kernel) (by decide +kernel) (by decide +kernel) (snds_cons v_law__law_told (snds_cons v_law__law_due_here snds_nil)) (fun _ => rfl))) ss_nil)))))))))))))
end
end Mine.L12

set_option linter.unusedVariables false
set_option linter.unusedSimpArgs false
namespace Mine.L12
open PySem PySem.StrLaws PySem.NumText PyProof.Rows Mine Mine.Com

abbrev NT : Str := Str.ofString "NoText"
noncomputable def dNumTail : DS := (dSeq (dIfS (dOr (dBin eqM (dVar 1) (dConst (.str (Str.ofString "")))) (dBin gtM (dCall lenM (dCons (dVar 1) dNil)) (dConst (.int 30)))) (dSeq (dRaise (Str.ofString "NoText") (dConst (.str (Str.ofString "a number is wanted")))) dSkip) dSkip) (dSeq (dFor (iStr (dVar 1)) (putAt 2) (dSeq (dIfS (dBin notInStrM (dVar 2) (dConst (.str (Str.ofString "0123456789")))) (dSeq (dRaise (Str.ofString "NoText") (dConst (.str (Str.ofString "a number is wanted")))) dSkip) dSkip) dSkip)) (dSeq (dRet (dCall intStrM (dCons (dVar 0) dNil))) dSkip)))
theorem empty_of {F : Str} (h : (F == Str.ofString "") = true) : F.cps.toList = [] := by
  rw [eq_of_beq h]; decide +kernel
theorem ne_empty_of {F : Str} (h : (F == Str.ofString "") = false) : F.cps.toList ≠ [] := fun e => by
  have : F = Str.ofString "" := str_ext (by rw [e]; decide +kernel)
  rw [this] at h; simp at h
theorem pNum_none {w : Str} (h : numOk w.cps.toList = false) : (pNum w).isSome = false := by unfold pNum; rw [h]; rfl

theorem num_tail {w F : Str} {ρ : Rho} {μ : MH} (g : Good w) (gF : Good F) (hF : F.cps.toList = figs w.cps.toList) (h0 : ρ 0 = some (.str w)) (h1 : ρ 1 = some (.str F)) :
    Elem (pNum w).isSome NT (fun v μ' => pNum w = some ((pNum w).getD 0) ∧ v = .int ((pNum w).getD 0) ∧ μ' = μ) μ (defK (dNumTail ρ μ)) := by
  have e0 : eqM (.str F) (.str (Str.ofString "")) μ = .ok (.bool (F == Str.ofString "")) μ := eq_str gF.ok (by decide +kernel)
  have el : lenM [.str F] μ = .ok (.int F.length) μ := if_pos (by have := gF.len; omega)
  have hl := len_list F
  cases hz : (F == Str.ofString "") with
  | true =>
    have hn : numOk w.cps.toList = false := by unfold numOk; rw [← hF, empty_of hz]; rfl
    simp [dNumTail, ev_var, h1, e0, hz]
    exact .no μ (pNum_none hn) rfl (List.prefix_refl _)
  | false =>
    by_cases h30 : (30 : Int) < F.length
    · have hn : numOk w.cps.toList = false := by
        unfold numOk; rw [← hF, decide_eq_false (by omega)]; simp
      simp [dNumTail, ev_var, h1, e0, hz, el, h30]
      exact .no μ (pNum_none hn) rfl (List.prefix_refl _)
    · simp [dNumTail, ev_var, h1, e0, hz, el, h30]
      refine loop_rule_exc (P := fun o => Elem _ _ _ μ (defK (seqK o _))) (fun i ρ μ' => μ' = μ ∧ ρ 0 = some (.str w) ∧ (F.cps.toList.take i).all isDig = true) (fun _ _ _ _ => trivial) ⟨rfl, h0, by simp⟩ ?_ ?_
      · rintro i v ρ μ' hv ⟨rfl, h0, ha⟩
        obtain ⟨c, hc, rfl⟩ := map_get hv
        cases hd : isDig c with
        | true =>
          simp [putAt, ev_var, notIn_str, contains_dig, hd, h0]
          obtain ⟨hi, he⟩ := List.getElem?_eq_some_iff.mp hc
          intro x hx
          rw [List.take_succ_eq_append_getElem hi] at hx
          rcases List.mem_append.mp hx with q | q
          · exact List.all_eq_true.mp ha x q
          · rw [List.mem_singleton.mp q, he]; exact hd
        | false =>
          simp [putAt, ev_var, notIn_str, contains_dig, hd]
          have hn : numOk w.cps.toList = false := by
            unfold numOk
            have : (figs w.cps.toList).all isDig = false := by
              rw [← hF]
              cases hq : F.cps.toList.all isDig with
              | false => rfl
              | true => rw [List.all_eq_true.mp hq c (List.mem_of_getElem? hc)] at hd; cases hd
            rw [this, Bool.and_false]
          exact .no _ (pNum_none hn) rfl (List.prefix_refl _)
      · rintro ρ μ' ⟨rfl, h0, ha⟩
        have hlen : (signsL F).length = F.cps.toList.length := by rw [signsL_len]; simp
        rw [hlen, List.take_length] at ha
        have hn : numOk w.cps.toList = true := by
          unfold numOk
          rw [← hF, ha, decide_eq_true (by omega)]
          have := ne_empty_of hz
          cases hq : F.cps.toList with
          | nil => exact absurd hq this
          | cons _ _ => rfl
        have hp : pNum w = some (numVal w.cps.toList) := by unfold pNum; rw [if_pos hn]
        simp [ev_var, h0, intStr_ok hp]
        exact .yes _ _ (by rw [hp]; rfl) rfl (List.prefix_refl _) ⟨by rw [hp]; rfl, by rw [hp]; rfl, rfl⟩
theorem Good.drop {x : Str} (g : Good x) (n : Nat) : Good (dropS x n) := by
  refine ⟨strOk_iff.mpr fun c hc => strOk_iff.mp g.ok c (List.mem_of_mem_drop (i := n) (by simpa [dropS] using hc)), ?_⟩
  have := g.len
  rw [← len_list] at this ⊢
  show ((x.cps.toList.drop n).toArray.toList).length ≤ 900
  simp only [List.toList_toArray, List.length_drop]
  omega
theorem number_of_eq {w : Str} {μ : MH} (g : Good w) : Elem (pNum w).isSome NT (fun v μ' => pNum w = some ((pNum w).getD 0) ∧ v = .int ((pNum w).getD 0) ∧ μ' = μ) μ (f_number_of [.str w] μ) := by
  rw [f_number_of, ev_def (k := 1) rfl]
  rw [show d_number_of = dSeq (dAssign 1 (dVar 0)) (dSeq (dIfS (dMeth startsM (dVar 0) (dConst (.str (Str.ofString "-")))) (dSeq (dAssign 1 (dBin cutFromS (dVar 0) (dConst (.int 1)))) dSkip) dSkip) dNumTail) from rfl]
  have hcut : cutFromS (.str w) (.int 1) μ = .ok (.str (dropS w 1)) μ := cutFromS_ok (n := 1) (by have := g.len; omega)
  by_cases hm : w.cps.toList.head? = some 45
  · simp [ev_var, starts_minus, hm, hcut]
    refine num_tail g (Good.drop g 1) ?_ (by simp) (by simp)
    cases hw : w.cps.toList with
    | nil => rw [hw] at hm; cases hm
    | cons c r => rw [hw] at hm; cases hm; simp [dropS, hw, figs]
  · simp [ev_var, starts_minus, hm]
    refine num_tail g g ?_ (by simp) (by simp)
    cases hw : w.cps.toList with
    | nil => rfl
    | cons c r => rw [figs_other (fun e => hm (by rw [hw, e]; rfl))]

/-! steps -/
noncomputable def rsMv : RS → MV
  | .put b v => .tup [.str (Str.ofString "put"), .int b, .int v]
  | .get b => .tup [.str (Str.ofString "get"), .int b]
  | .fence => .tup [.str (Str.ofString "fence")]
theorem len_ws {μ : MH} {k : Nat} {ws : List Str} (h : μ[k]? = some (ws.map .str)) (hl : ws.length ≤ 1000) : lenM [.lst k] μ = .ok (.int ws.length) μ := by rw [len_lst h (by rw [List.length_map]; omega), List.length_map]
theorem idx_ws {μ : MH} {k n : Nat} {ws : List Str} {w : Str} (h : μ[k]? = some (ws.map .str)) (hn : ws[n]? = some w) (hl : n < 1000) : idxM (.lst k) (.int n) μ = .ok (.str w) μ := idx_lst h (by rw [List.getElem?_map, hn]; rfl) (by omega)
noncomputable def dStepTail : DS := (dSeq (dIfS (dAnd (dBin eqM (dCall lenM (dCons (dVar 1) dNil)) (dConst (.int 2))) (dBin eqM (dBin idxM (dVar 1) (dConst (.int 0))) (dConst (.str (Str.ofString "get"))))) (dSeq (dRet (dTup (dCons (dConst (.str (Str.ofString "get"))) (dCons (dCall f_number_of (dCons (dBin idxM (dVar 1) (dConst (.int 1))) dNil)) dNil)))) dSkip) dSkip) (dSeq (dIfS (dAnd (dBin eqM (dCall lenM (dCons (dVar 1) dNil)) (dConst (.int 3))) (dBin eqM (dBin idxM (dVar 1) (dConst (.int 0))) (dConst (.str (Str.ofString "put"))))) (dSeq (dRet (dTup (dCons (dConst (.str (Str.ofString "put"))) (dCons (dCall f_number_of (dCons (dBin idxM (dVar 1) (dConst (.int 1))) dNil)) (dCons (dCall f_number_of (dCons (dBin idxM (dVar 1) (dConst (.int 2))) dNil)) dNil))))) dSkip) dSkip) (dSeq (dRaise (Str.ofString "NoText") (dConst (.str (Str.ofString "a step is wanted")))) dSkip)))
theorem split_at {x y : Str} {μ : MH} (hy : (y.length == 0) = false) (hx : x.length ≤ 10000) : ∃ μ₁ k, splitM x (.str y) μ = .ok (.lst k) μ₁ ∧ μ <+: μ₁ ∧ k = μ.length ∧ μ₁[k]? = some ((Txt.split x y).map .str) :=
  ⟨_, _, split_ok hy hx, pre_app _ _, rfl, get_last _⟩
theorem step_tail {ws : List Str} {ρ : Rho} {μ : MH} {k : Nat} (gw : ∀ w ∈ ws, Good w) (hcnt : ws.length ≤ 1000) (hf : ws ≠ [wFence]) (hk : μ[k]? = some (ws.map .str)) (h1 : ρ 1 = some (.lst k)) :
    Elem (pStepW ws).isSome NT (fun v μ' => v = rsMv ((pStepW ws).getD .fence)) μ (defK (dStepTail ρ μ)) := by
  have hlen := len_ws hk hcnt
  unfold pStepW
  rw [if_neg hf]
  rcases ws with _ | ⟨a, _ | ⟨b, _ | ⟨c, _ | ⟨d, l⟩⟩⟩⟩
  · simp [dStepTail, ev_var, h1, hlen]
    exact .no μ rfl rfl (List.prefix_refl _)
  · simp [dStepTail, ev_var, h1, hlen]
    exact .no μ rfl rfl (List.prefix_refl _)
  · have i0 := idx_ws (n := 0) hk rfl (by decide)
    have i1 := idx_ws (n := 1) hk rfl (by decide)
    have e0 : eqM (.str a) (.str (Str.ofString "get")) μ = .ok (.bool (a == Str.ofString "get")) μ := eq_str (gw a (by simp)).ok (by decide +kernel)
    show Elem ((if a = wGet then (pNum b).map RS.get else none : Option RS)).isSome NT (fun v μ' => v = rsMv ((if a = wGet then (pNum b).map RS.get else none : Option RS).getD .fence)) μ _
    by_cases ha : a = wGet
    · have hb : (a == Str.ofString "get") = true := by rw [ha]; simp
      rw [if_pos ha]
      rw [hb] at e0
      rcases number_of_eq (μ := μ) (gw b (by simp)) with ⟨v, μ', hok, e, p, hp, rfl, rfl⟩ | ⟨μ', hok, e, p⟩
      · simp at i0 i1
        simp [dStepTail, ev_var, h1, hlen, i0, i1, e0, e]
        exact .yes _ _ (by rw [hp]; rfl) rfl p (by rw [hp]; rfl)
      · simp at i0 i1
        simp [dStepTail, ev_var, h1, hlen, i0, i1, e0, e]
        exact .no _ (by cases hq : pNum b with | none => rfl | some i => rw [hq] at hok; cases hok) rfl p
    · have hb : (a == Str.ofString "get") = false := by simpa using ha
      rw [if_neg ha]
      rw [hb] at e0
      simp at i0 i1
      simp [dStepTail, ev_var, h1, hlen, i0, i1, e0]
      exact .no μ rfl rfl (List.prefix_refl _)
  · have i0 := idx_ws (n := 0) hk rfl (by decide)
    have i1 := idx_ws (n := 1) hk rfl (by decide)
    have i2 := idx_ws (n := 2) hk rfl (by decide)
    simp at i0 i1 i2
    have e0 : eqM (.str a) (.str (Str.ofString "put")) μ = .ok (.bool (a == Str.ofString "put")) μ := eq_str (gw a (by simp)).ok (by decide +kernel)
    show Elem ((if a = wPut then (pNum b).bind fun i => (pNum c).map fun j => RS.put i j else none : Option RS)).isSome NT (fun v μ' => v = rsMv ((if a = wPut then (pNum b).bind fun i => (pNum c).map fun j => RS.put i j else none : Option RS).getD .fence)) μ _
    by_cases ha : a = wPut
    · have hb : (a == Str.ofString "put") = true := by rw [ha]; simp
      rw [if_pos ha]
      rw [hb] at e0
      rcases number_of_eq (μ := μ) (gw b (by simp)) with ⟨v, μ', hok, e, p, hp, rfl, rfl⟩ | ⟨μ', hok, e, p⟩
      · rcases number_of_eq (μ := μ') (gw c (by simp)) with ⟨v2, μ2, hok2, e2, p2, hp2, rfl, rfl⟩ | ⟨μ2, hok2, e2, p2⟩
        · simp [dStepTail, ev_var, h1, hlen, i0, i1, i2, e0, e, e2]
          exact .yes _ _ (by rw [hp, hp2]; rfl) rfl p2 (by rw [hp, hp2]; rfl)
        · simp [dStepTail, ev_var, h1, hlen, i0, i1, i2, e0, e, e2]
          refine .no _ ?_ rfl p2
          rw [hp]
          cases hq : pNum c with
          | none => rfl
          | some i => rw [hq] at hok2; cases hok2
      · simp [dStepTail, ev_var, h1, hlen, i0, i1, i2, e0, e]
        refine .no _ ?_ rfl p
        cases hq : pNum b with
        | none => rfl
        | some i => rw [hq] at hok; cases hok
    · have hb : (a == Str.ofString "put") = false := by simpa using ha
      rw [if_neg ha]
      rw [hb] at e0
      simp [dStepTail, ev_var, h1, hlen, i0, e0]
      exact .no μ rfl rfl (List.prefix_refl _)
  · have hl2 : ((l.length : Int) + 1 + 1 + 1 + 1 == 2) = false := beq_eq_false_iff_ne.mpr (by omega)
    have hl3 : ((l.length : Int) + 1 + 1 + 1 + 1 == 3) = false := beq_eq_false_iff_ne.mpr (by omega)
    simp [dStepTail, ev_var, h1, hlen, hl2, hl3]
    exact .no μ rfl rfl (List.prefix_refl _)
theorem step_of_eq {p : Str} {μ : MH} (g : Good p) : Elem (pStep p).isSome NT (fun v μ' => v = rsMv (stepD p)) μ (f_step_of [.str p] μ) := by
  rw [f_step_of, ev_def (k := 1) rfl]
  rw [show d_step_of = dSeq (dAssign 1 (dMeth splitM (dVar 0) (dConst (.str (Str.ofString " "))))) (dSeq (dIfS (dBin eqM (dVar 1) (dList (dCons (dConst (.str (Str.ofString "fence"))) dNil))) (dSeq (dRet (dTup (dCons (dConst (.str (Str.ofString "fence"))) dNil))) dSkip) dSkip) dStepTail) from rfl]
  obtain ⟨μ₁, k, hsp, p1, hkl, hk1⟩ := split_at (x := p) (y := sp1) (μ := μ) (by decide +kernel) (by have := g.len; omega)
  have gw := g.split (y := sp1)
  have hcnt := g.count (y := sp1) (by decide +kernel)
  unfold stepD pStep
  generalize Txt.split p sp1 = ws at hsp gw hcnt hk1 ⊢
  have hk : (μ₁ ++ [[MV.str (Str.ofString "fence")]])[k]? = some (ws.map .str) := get_pre (pre_app _ _) hk1
  have hj : (μ₁ ++ [[MV.str (Str.ofString "fence")]])[μ₁.length]? = some ([Str.ofString "fence"].map .str) := get_last _
  have pp : μ <+: μ₁ ++ [[MV.str (Str.ofString "fence")]] := p1.trans (pre_app _ _)
  have heq := eq_strs hk hj (fun t ht => (gw t ht).ok) (by decide +kernel)
  by_cases hf : ws = [wFence]
  · rw [decide_eq_true hf] at heq
    simp [ev_var, hsp, heq]
    have : pStepW ws = some .fence := by unfold pStepW; rw [if_pos hf]
    exact .yes _ _ (by rw [this]; rfl) rfl pp (by rw [this]; rfl)
  · rw [decide_eq_false hf] at heq
    simp [ev_var, hsp, heq]
    exact (step_tail gw hcnt hf hk (by simp)).before pp

/-! rows -/
noncomputable def RowR (k₀ : Nat) (p : Str) (v : MV) (μ : MH) : Prop := ∃ r, v = .lst r ∧ r ≠ k₀ ∧ μ[r]? = some ((rowD p).map rsMv)
theorem row_of_eq {p : Str} {μ : MH} (g : Good p) : Elem (rowOk p) NT (fun v μ' => ∃ r, v = .lst r ∧ μ.length ≤ r ∧ μ'[r]? = some ((rowD p).map rsMv)) μ (f_row_of [.str p] μ) := by
  rw [f_row_of, ev_def (k := 1) rfl]
  have e0 : eqM (.str p) (.str (Str.ofString "")) μ = .ok (.bool (p == Str.ofString "")) μ := eq_str g.ok (by decide +kernel)
  have hempty : Str.ofString "" = Str.empty := by decide +kernel
  cases hz : (p == Str.ofString "") with
  | true =>
    have hp : p = Str.empty := (eq_of_beq hz).trans hempty
    rw [hz] at e0
    have h1 : partsR p = [] := by unfold partsR; rw [if_pos hp]
    simp [d_row_of, ev_var, e0]
    exact .yes _ _ (by unfold rowOk; rw [h1]; rfl) rfl (pre_app _ _) ⟨_, rfl, Nat.le_refl _, by unfold rowD; rw [h1]; exact get_last _⟩
  | false =>
    have hp : p ≠ Str.empty := fun e => by rw [e, ← hempty] at hz; simp at hz
    rw [hz] at e0
    have h1 : partsR p = Txt.split p sp2 := by unfold partsR; rw [if_neg hp]
    obtain ⟨μ₁, k, hsp, p1, hkl, hk1⟩ := split_at (x := p) (y := sp2) (μ := μ) (by decide +kernel) (by have := g.len; omega)
    have gw := g.split (y := sp2)
    have hcnt := g.count (y := sp2) (by decide +kernel)
    simp [d_row_of, ev_var, e0, hsp, itK_lst hk1]
    unfold rowOk rowD
    rw [h1]
    generalize Txt.split p sp2 = ws at hsp gw hcnt hk1 ⊢
    rcases comp_rel (α := Str) (e := dCall f_step_of (dCons (dVar 1) dNil)) (put := putAt 1) (ρ := fun i => [MV.str p][i]?) (G := fun μ => μ[k]? = some (ws.map MV.str)) (μ₀ := μ₁) (emb := MV.str) (ok := fun q => (pStep q).isSome) (c := NT) (R := fun q v _ => v = rsMv (stepD q)) ws (fun μ' h => get_pre h hk1) hcnt (fun _ _ _ _ h _ => h) (fun q hq ν hp _ => by
        have := step_of_eq (μ := ν) (gw q hq)
        simpa [putAt, ev_var] using this) with ⟨v, μ', hok, e, p2, rfl, vs, hvs, hall⟩ | ⟨μ', hok, e, p2⟩
    · rw [e]
      exact .yes _ _ hok rfl (p1.trans p2) ⟨_, rfl, p1.length_le, by rw [hvs, hall.eq_map (g := fun q => rsMv (stepD q)) fun x v h => h, List.map_map]; rfl⟩
    · rw [e]
      exact .no _ hok rfl (p1.trans p2)
end Mine.L12

set_option linter.unusedVariables false
set_option linter.unusedSimpArgs false
namespace Mine.L12
open PySem PySem.StrLaws PySem.NumText PyProof.Rows Mine Mine.Com

abbrev BW : Str := Str.ofString "BadWeb"
/-! webs of steps as they were read -/
noncomputable def rsOk : RS → Bool
  | .put b v => boxI b && (decide (-ten30 < v) && decide (v < ten30))
  | .get b => boxI b
  | .fence => true
noncomputable def rsF : RS → Bool
  | .fence => true
  | _ => false
structure WebR (μ : MH) (k : Nat) (rs : List Nat) (W : List (List RS)) : Prop where
  top : μ[k]? = some (rs.map .lst)
  len : rs.length = W.length
  row : ∀ (i r : Nat) (row : List RS), rs[i]? = some r → W[i]? = some row → μ[r]? = some (row.map rsMv)
theorem WebR.mono {μ μ' : MH} {k : Nat} {rs : List Nat} {W : List (List RS)} (x : WebR μ k rs W) (h : μ <+: μ') : WebR μ' k rs W := ⟨get_pre h x.top, x.len, fun i r row h1 h2 => get_pre h (x.row i r row h1 h2)⟩
noncomputable def rdeeds (row : List RS) : Nat := (row.filter fun r => !rsF r).length
noncomputable def webV (W : List (List RS)) : Bool := decide (1 ≤ W.length) && decide (W.length ≤ 3) && W.all (fun row => row.all rsOk) && decide ((W.map rdeeds).sum ≤ 8)
section
variable {μ : MH}
theorem is_box_I (i : Int) : f_is_box [.int i] μ = .ok (.bool (boxI i)) μ := by
  rw [is_box_int]
  have : decide (0 ≤ i ∧ i < 4) = boxI i := by
    unfold boxI
    rw [Bool.eq_iff_iff]; simp; omega
  rw [this]
theorem is_step_rs (r : RS) : f_is_step [rsMv r] μ = .ok (.bool (rsOk r)) μ := by
  cases r with
  | put b v =>
    cases hb : boxI b with
    | false => simp [f_is_step, ev_def, d_is_step, ev_var, rsMv, is_box_I, hb, rsOk]
    | true =>
      by_cases h1 : -ten30 < v
      · simp [f_is_step, ev_def, d_is_step, ev_var, rsMv, is_box_I, hb, rsOk]
        unfold ten30 at h1 ⊢
        simp [h1]
      · simp [f_is_step, ev_def, d_is_step, ev_var, rsMv, is_box_I, hb, rsOk]
        unfold ten30 at h1 ⊢
        simp [h1]
  | get b => simp [f_is_step, ev_def, d_is_step, ev_var, rsMv, is_box_I, rsOk]
  | fence => simp [f_is_step, ev_def, d_is_step, ev_var, rsMv, rsOk]
noncomputable def rsKind : RS → MV
  | .put _ _ => .str (Str.ofString "put")
  | .get _ => .str (Str.ofString "get")
  | .fence => .str (Str.ofString "fence")
@[simp] theorem idx_rs (r : RS) : idxM (rsMv r) (.int 0) μ = .ok (rsKind r) μ := by cases r <;> simp [rsMv, rsKind]
@[simp] theorem ne_rs (r : RS) : neM (rsKind r) (.str (Str.ofString "fence")) μ = .ok (.bool (!rsF r)) μ := by cases r <;> simp [rsF, rsKind]
theorem rdeeds_take {row : List RS} {i : Nat} {s : RS} (h : row[i]? = some s) : rdeeds (row.take (i + 1)) = rdeeds (row.take i) + if rsF s then 0 else 1 := by
  obtain ⟨hlt, he⟩ := List.getElem?_eq_some_iff.mp h
  rw [List.take_succ_eq_append_getElem hlt, he]
  unfold rdeeds
  rw [List.filter_append, List.length_append]
  cases hf : rsF s <;> simp [hf]
theorem rsum_take {W : List (List RS)} {i : Nat} {row : List RS} (h : W[i]? = some row) : ((W.take (i + 1)).map rdeeds).sum = ((W.take i).map rdeeds).sum + rdeeds row := by
  obtain ⟨hlt, he⟩ := List.getElem?_eq_some_iff.mp h
  rw [List.take_succ_eq_append_getElem hlt, he]
  simp
theorem all_take {α : Type} {l : List α} {i : Nat} {x : α} {p : α → Bool} (h : l[i]? = some x) (h1 : (l.take i).all p = true) (h2 : p x = true) : (l.take (i + 1)).all p = true := by
  obtain ⟨hlt, he⟩ := List.getElem?_eq_some_iff.mp h
  rw [List.take_succ_eq_append_getElem hlt, he, List.all_append, h1]
  simp [h2]

theorem need_web_rs {k : Nat} {rs : List Nat} {W : List (List RS)} (hW : WebR μ k rs W) (hl : W.length ≤ 1000) : f_need_web [.lst k] μ = if webV W = true then .ok (.lst k) μ else .exc BW μ := by
  have hlen : lenM [.lst k] μ = .ok (.int W.length) μ := by
    rw [len_lst hW.top (by have := hW.len; simp; omega)]; simp [hW.len]
  rw [f_need_web, ev_def (k := 1) rfl]
  by_cases c1 : (1 : Int) ≤ W.length
  · by_cases c2 : (W.length : Int) ≤ 3
    · simp [d_need_web, ev_var, hlen, c1, c2, itK_lst hW.top]
      refine loop_rule_exc (P := fun o => defK (seqK o _) = _) (fun i ρ μ' => μ = μ' ∧ ρ 0 = some (.lst k) ∧ (∃ z : Int, ρ 1 = some (.int z) ∧ z = (((W.take i).map rdeeds).sum : Nat)) ∧ (W.take i).all (fun row => row.all rsOk) = true) (fun i ρ μ' h => by rw [← h.1]; exact hW.top) ⟨rfl, by simp, ⟨0, by simp, by simp⟩, by simp⟩ ?_ ?_
      · rintro i v ρ μ' hv ⟨rfl, h0, ⟨z, h1, hz⟩, ha⟩
        obtain ⟨r, hr, rfl⟩ := map_get hv
        have hi : i < W.length := by rw [← hW.len]; exact (List.getElem?_eq_some_iff.mp hr).1
        have hrow : W[i]? = some W[i] := List.getElem?_eq_getElem hi
        have hat := hW.row i r _ hr hrow
        simp only [putAt, ev_seq, ev_ifs, ev_not, ev_op1, ev_var (rho_set_self ..), Out.bind_ok, isi_lst, notK_ok, Bool.not_true, ifK_false, ev_skip, seqK_next, ev_for, ev_seqI, itK_lst hat, forK_ok]
        refine loop_rule_exc (P := fun o => NextX (seqK o _) _ _) (fun j ρ μ' => μ = μ' ∧ ρ 0 = some (.lst k) ∧ (∃ y : Int, ρ 1 = some (.int y) ∧ y = z + (rdeeds (W[i].take j) : Nat)) ∧ (W[i].take j).all rsOk = true) (fun i ρ μ' h => by rw [← h.1]; exact hat) ⟨rfl, by simp [h0], ⟨z, by simp [h1], by simp [rdeeds]⟩, by simp⟩ ?_ ?_
        · rintro j v ρ μ' hv ⟨rfl, h0, ⟨y, h1, hy⟩, hb⟩
          obtain ⟨s, hs, rfl⟩ := map_get hv
          have hd := rdeeds_take hs
          cases hok : rsOk s with
          | true =>
            have ht := all_take hs hb hok
            cases hf : rsF s
            · rw [hf] at hd; simp at hd
              simp [putAt, ev_var, is_step_rs, hok, hf, h0, h1]
              exact ⟨by omega, by simpa using ht⟩
            · rw [hf] at hd; simp at hd
              simp [putAt, ev_var, is_step_rs, hok, hf, h0, h1]
              exact ⟨by omega, by simpa using ht⟩
          | false =>
            simp [putAt, ev_var, is_step_rs, hok]
            have hv : webV W = false := by
              unfold webV
              have : W.all (fun row => row.all rsOk) = false := by
                cases hq : W.all (fun row => row.all rsOk) with
                | false => rfl
                | true =>
                  have := List.all_eq_true.mp (List.all_eq_true.mp hq _ (List.getElem_mem hi)) s (List.mem_of_getElem? hs)
                  rw [hok] at this; cases this
              rw [this]; simp
            exact hv
        · rintro ρ μ' ⟨rfl, h0, ⟨y, h1, hy⟩, hb⟩
          rw [List.length_map, List.take_length] at hy hb
          have ht := all_take hrow ha hb
          simp only [seqK_next, ev_skip, nextX_ok]
          exact ⟨trivial, h0, ⟨y, h1, by rw [rsum_take hrow]; omega⟩, ht⟩
      · rintro ρ μ' ⟨rfl, h0, ⟨z, h1, hz⟩, ha⟩
        rw [List.length_map, hW.len, List.take_length] at hz ha
        by_cases h8 : (8 : Int) < z
        · have hv : webV W = false := by
            unfold webV; rw [decide_eq_false (show ¬ (W.map rdeeds).sum ≤ 8 by omega)]; simp
          simp [ev_var, h1, h8, hv]
        · have hv : webV W = true := by
            unfold webV
            rw [decide_eq_true (show 1 ≤ W.length by omega), decide_eq_true (show W.length ≤ 3 by omega), decide_eq_true (show (W.map rdeeds).sum ≤ 8 by omega), ha]; rfl
          simp [ev_var, h0, h1, h8, hv]
    · have hv : webV W = false := by unfold webV; rw [decide_eq_false (show ¬ W.length ≤ 3 by omega)]; simp
      simp [d_need_web, ev_var, hlen, c1, c2, hv]
  · have hv : webV W = false := by unfold webV; rw [decide_eq_false (show ¬ 1 ≤ W.length by omega)]; simp
    simp [d_need_web, ev_var, hlen, c1, hv]

/-! texts of steps -/
noncomputable def wordOf : MV → Str
  | .str x => x
  | .int i => numT i
  | _ => Str.empty
noncomputable def finW : MV → Prop
  | .str _ => True
  | .int i => -ten30 < i ∧ i < ten30
  | _ => False
/-- [str(word) for word in words] -/
theorem comp_words {μ₀ : MH} {i : Nat} {ρ : Rho} (its : List MV) (hl : its.length ≤ 1000) (hf : ∀ v ∈ its, finW v) : ∃ μ', compM (fun _ => True) (putAt i) (dConst (.bool true)) (dCall strOfM (dCons (dVar i) dNil)) μ₀.length its ρ (μ₀ ++ [[]]) = .ok (.lst μ₀.length) μ' ∧ μ₀ <+: μ' ∧ μ'[μ₀.length]? = some ((its.map wordOf).map .str) := by
  have h := comp_rel (α := MV) (e := dCall strOfM (dCons (dVar i) dNil)) (put := putAt i) (ρ := ρ) (G := fun _ => True) (μ₀ := μ₀) (emb := id) (ok := fun _ => true) (c := NT) (R := fun x v _ => v = .str (wordOf x)) its (fun _ _ => trivial) hl (fun _ _ _ _ h _ => h) (fun v hv ν hp _ => by
    have hfv := hf v hv
    refine .yes (.str (wordOf v)) ν rfl ?_ (List.prefix_refl _) rfl
    cases v with
    | str x => simp [putAt, ev_var, wordOf]
    | int j => simp [putAt, ev_var, wordOf, strOf_int hfv.1 hfv.2]
    | _ => cases hfv)
  rw [List.map_id] at h
  rcases h with ⟨v, μ', hok, e, p, rfl, vs, hvs, hall⟩ | ⟨μ', hok, e, p⟩
  · exact ⟨μ', e, p, by rw [hvs, hall.eq_map (g := fun x => .str (wordOf x)) fun x v h => h, List.map_map]; rfl⟩
  · exact absurd hok (by simp)
noncomputable def rsItems : RS → List MV
  | .put b v => [.str (Str.ofString "put"), .int b, .int v]
  | .get b => [.str (Str.ofString "get"), .int b]
  | .fence => [.str (Str.ofString "fence")]
theorem rsMv_items (r : RS) : rsMv r = .tup (rsItems r) := by cases r <;> rfl
theorem items_words (r : RS) : (rsItems r).map wordOf = r.words := by cases r <;> rfl
theorem items_len (r : RS) : (rsItems r).length ≤ 1000 := by cases r <;> simp [rsItems]
theorem items_fin {r : RS} (h : r.fin) : ∀ v ∈ rsItems r, finW v := by
  cases r with
  | put b v =>
    intro x hx
    have hx' : x ∈ [MV.str (Str.ofString "put"), .int b, .int v] := hx
    simp only [List.mem_cons, List.not_mem_nil, or_false] at hx'
    rcases hx' with rfl | rfl | rfl
    · trivial
    · exact h.1
    · exact h.2
  | get b =>
    intro x hx
    have hx' : x ∈ [MV.str (Str.ofString "get"), .int b] := hx
    simp only [List.mem_cons, List.not_mem_nil, or_false] at hx'
    rcases hx' with rfl | rfl
    · trivial
    · exact h
  | fence =>
    intro x hx
    have hx' : x ∈ [MV.str (Str.ofString "fence")] := hx
    rw [List.mem_singleton.mp hx']; trivial
theorem rsOk_fin {r : RS} (h : rsOk r = true) : r.fin := by
  cases r with
  | put b v =>
    unfold rsOk boxI at h
    simp at h
    refine ⟨⟨?_, ?_⟩, h.2.1, h.2.2⟩ <;> (unfold ten30; omega)
  | get b =>
    unfold rsOk boxI at h
    simp at h
    refine ⟨?_, ?_⟩ <;> (unfold ten30; omega)
  | fence => trivial
theorem step_text_eq {r : RS} (h : r.fin) (hl : r.text.length ≤ 10000) : ∃ μ', f_step_text [rsMv r] μ = .ok (.str r.text) μ' ∧ μ <+: μ' := by
  rw [f_step_text, ev_def (k := 1) rfl]
  obtain ⟨μ', e, p, hk⟩ := comp_words (μ₀ := μ) (i := 1) (ρ := fun i => [rsMv r][i]?) (rsItems r) (items_len r) (items_fin h)
  rw [items_words] at hk
  have hj := join_ok (y := sp1) hk hl (by decide +kernel)
  refine ⟨μ', ?_, p⟩
  simp [d_step_text, ev_var, rsMv_items]
  rw [rsMv_items] at e
  rw [e]
  simp only [methK2_ok, hj]
  rfl

/-! the text of a web -/
theorem shown_eq {k : Nat} {rs : List Nat} {W : List (List RS)} (hW : WebR μ k rs W) (hv : webV W = true) (hl : (webT W).length ≤ 900) (hr : ∀ row ∈ W, row.length ≤ 1000) : ∃ μ', f_shown [.lst k] μ = .ok (.str (webT W)) μ' ∧ μ <+: μ' := by
  have hv' := hv
  unfold webV at hv'
  simp only [Bool.and_eq_true, decide_eq_true_eq] at hv'
  obtain ⟨⟨⟨v1, v3⟩, va⟩, v8⟩ := hv'
  rw [f_shown, ev_def (k := 1) rfl]
  have e0 := need_web_rs hW (by omega)
  rw [if_pos hv] at e0
  have hrows : ∀ row ∈ W, (rowT row).length ≤ 900 := fun row h => Nat.le_trans (len_join_part (y := sp3) (List.mem_map.mpr ⟨row, h, rfl⟩)) hl
  have htexts : ∀ row ∈ W, ∀ r ∈ row, r.text.length ≤ 900 := fun row h r hr => Nat.le_trans (len_join_part (y := sp2) (List.mem_map.mpr ⟨r, hr, rfl⟩)) (hrows row h)
  -- the rows, each with its place
  have hz := comp_rel (α := Nat × List RS) (e := dMeth joinM (dConst (.str (Str.ofString "; "))) (dComp (iSeq (dVar 1)) (dConst (.bool true)) (dCall f_step_text (dCons (dVar 2) dNil)) 2)) (put := putAt 1) (ρ := fun i => [MV.lst k][i]?) (G := fun μ => μ[k]? = some (rs.map MV.lst)) (μ₀ := μ) (emb := fun q => MV.lst q.1) (ok := fun _ => true) (c := NT) (R := fun q v _ => v = .str (rowT q.2)) (rs.zip W) (fun μ' h => get_pre h hW.top) (by rw [List.length_zip]; omega) (fun _ _ _ _ h _ => h) (fun q hq ν hp _ => by
    obtain ⟨i, hi⟩ := List.getElem?_of_mem hq
    obtain ⟨h1, h2⟩ := List.getElem?_zip_eq_some.mp hi
    have hat := get_pre hp (hW.row i q.1 q.2 h1 h2)
    have hm := List.mem_of_getElem? h2
    have hstep := comp_rel (α := RS) (e := dCall f_step_text (dCons (dVar 2) dNil)) (put := putAt 2) (ρ := Rho.set (fun i => [MV.lst k][i]?) 1 (.lst q.1)) (G := fun μ => μ[q.1]? = some (q.2.map rsMv)) (μ₀ := ν) (emb := rsMv) (ok := fun _ => true) (c := NT) (R := fun r v _ => v = .str r.text) q.2 (fun μ' h => get_pre h hat) (hr _ hm) (fun _ _ _ _ h _ => h) (fun r hrr ν' hp' _ => by
      obtain ⟨μ', e, p⟩ := step_text_eq (μ := ν') (rsOk_fin (List.all_eq_true.mp (List.all_eq_true.mp va _ hm) r hrr)) (Nat.le_trans (htexts _ hm r hrr) (by decide))
      exact .yes _ μ' rfl (by simpa [putAt, ev_var] using e) p rfl)
    rcases hstep with ⟨v, μ', hok, e, p, rfl, vs, hvs, hall⟩ | ⟨μ', hok, e, p⟩
    · have hvs' : μ'[ν.length]? = some ((q.2.map RS.text).map .str) := by rw [hvs, hall.eq_map (g := fun r => .str r.text) fun x v h => h, List.map_map]; rfl
      have hj := join_ok (y := sp2) hvs' (Nat.le_trans (hrows _ hm) (by decide)) (by decide +kernel)
      refine .yes (.str (rowT q.2)) μ' rfl ?_ p rfl
      simp [putAt, ev_var, itK_lst hat]
      rw [e]
      simp only [methK2_ok, hj]
      rfl
    · exact absurd hok (by simp))
  have hmap : (rs.zip W).map (fun q => MV.lst q.1) = rs.map MV.lst := by
    have : (rs.zip W).map (fun q => MV.lst q.1) = ((rs.zip W).map Prod.fst).map MV.lst := by rw [List.map_map]; rfl
    rw [this, List.map_fst_zip (by rw [hW.len]; exact Nat.le_refl _)]
  have hmap2 : (rs.zip W).map (fun q => rowT q.2) = W.map rowT := by
    have : (rs.zip W).map (fun q => rowT q.2) = ((rs.zip W).map Prod.snd).map rowT := by rw [List.map_map]; rfl
    rw [this, List.map_snd_zip (by rw [hW.len]; exact Nat.le_refl _)]
  rw [hmap] at hz
  rcases hz with ⟨v, μ', hok, e, p, rfl, vs, hvs, hall⟩ | ⟨μ', hok, e, p⟩
  · have hvs' : μ'[μ.length]? = some ((W.map rowT).map .str) := by rw [hvs, hall.eq_map (g := fun q => .str (rowT q.2)) fun x v h => h, ← hmap2, List.map_map]; rfl
    have hj := join_ok (y := sp3) hvs' (Nat.le_trans hl (by decide)) (by decide +kernel)
    refine ⟨μ', ?_, p⟩
    simp [d_shown, ev_var, e0, itK_lst hW.top]
    rw [e]
    simp only [methK2_ok, hj]
    rfl
  · exact absurd hok (by simp)
end
end Mine.L12

set_option linter.unusedVariables false
set_option linter.unusedSimpArgs false
namespace Mine.L12
open PySem PySem.StrLaws PySem.NumText PyProof.Rows Mine Mine.Com

section
variable {μ : MH}
theorem try_ok {cs : List Str} {d : Str} {f h : DS} {ρ : Rho} {r : Fl × Rho} {μ₁ : MH} (e : f ρ μ = .ok r μ₁) : dTry cs d f h ρ μ = .ok r μ₁ := by unfold dTry; rw [e]
theorem try_exc {cs : List Str} {d c : Str} {f h : DS} {ρ : Rho} {μ₁ : MH} (e : f ρ μ = .exc c μ₁) (hc : c ∈ cs) (hs : subX c d = true) : dTry cs d f h ρ μ = h ρ μ₁ := by
  unfold dTry; rw [e]; simp only [hc, hs, if_true]

/-- the signs of a shown text -/
theorem text_ok (r : RS) : ∀ c ∈ r.text.cps.toList, c < 0x110000 := fun c hc => by
  have hn : ∀ (i : Int), ∀ c ∈ (numT i).cps.toList, c < 0x110000 := fun i c hc => by
    rcases num_signs i c hc with h | h <;> omega
  have hp : ∀ c ∈ wPut.cps.toList, c < 0x110000 := by decide +kernel
  have hg : ∀ c ∈ wGet.cps.toList, c < 0x110000 := by decide +kernel
  have hf : ∀ c ∈ wFence.cps.toList, c < 0x110000 := by decide +kernel
  rcases mem_join hc with ⟨w, hw, h⟩ | h
  · cases r with
    | put b v =>
      have hw' : w ∈ [wPut, numT b, numT v] := hw
      simp only [List.mem_cons, List.not_mem_nil, or_false] at hw'
      rcases hw' with rfl | rfl | rfl
      · exact hp c h
      · exact hn b c h
      · exact hn v c h
    | get b =>
      have hw' : w ∈ [wGet, numT b] := hw
      simp only [List.mem_cons, List.not_mem_nil, or_false] at hw'
      rcases hw' with rfl | rfl
      · exact hg c h
      · exact hn b c h
    | fence =>
      have hw' : w ∈ [wFence] := hw
      rw [List.mem_singleton.mp hw'] at h; exact hf c h
  · exact (by decide +kernel : ∀ c ∈ sp1.cps.toList, c < 0x110000) c h
theorem webT_ok (W : List (List RS)) : PyData.strOk (webT W) = true := strOk_iff.mpr fun c hc => by
  rcases mem_join hc with ⟨p, hp, h⟩ | h
  · obtain ⟨row, _, rfl⟩ := List.mem_map.mp hp
    rcases mem_join h with ⟨q, hq, h'⟩ | h'
    · obtain ⟨r, _, rfl⟩ := List.mem_map.mp hq
      exact text_ok r c h'
    · exact (by decide +kernel : ∀ c ∈ sp2.cps.toList, c < 0x110000) c h'
  · exact (by decide +kernel : ∀ c ∈ sp3.cps.toList, c < 0x110000) c h
theorem webT_le {x : Str} (h : webOkP x = true) : (webT (webD x)).length ≤ x.length := by
  have hs : ∀ p ∈ Txt.split x sp3, (rowT (rowD p)).length ≤ p.length := fun p hp => (row_len (List.all_eq_true.mp h p hp)).1
  have e : webT (webD x) = Str.join sp3 ((Txt.split x sp3).map fun p => rowT (rowD p)) := by unfold webT webD; rw [List.map_map]; rfl
  have k := join_map_le (y := sp3) (g := fun p => rowT (rowD p)) hs
  rw [join_split] at k
  rw [e]; exact k

/-- rows that were made, with their places -/
theorem rows_of {k₀ : Nat} {ps : List Str} {vs : List MV} (h : All2 (RowR k₀) ps vs μ) : ∃ rs : List Nat, vs = rs.map .lst ∧ rs.length = ps.length ∧ ∀ (i r : Nat) (p : Str), rs[i]? = some r → ps[i]? = some p → μ[r]? = some ((rowD p).map rsMv) := by
  refine ⟨vs.map fun v => match v with | .lst r => r | _ => 0, ?_, by rw [List.length_map, h.len], fun i r p h1 h2 => ?_⟩
  · rw [List.map_map]
    apply List.ext_getElem?
    intro i
    rw [List.getElem?_map]
    cases hv : vs[i]? with
    | none => rfl
    | some v =>
      have hi : i < ps.length := by rw [← h.len]; exact (List.getElem?_eq_some_iff.mp hv).1
      obtain ⟨r, rfl, _⟩ := h.at_ i _ v (List.getElem?_eq_getElem hi) hv
      rfl
  · rw [List.getElem?_map] at h1
    obtain ⟨v, hv, e⟩ := Option.map_eq_some_iff.mp h1
    obtain ⟨r', rfl, _, hr⟩ := h.at_ i p v h2 hv
    have : r' = r := e
    subst this; exact hr

noncomputable def readOk (x : Str) : Bool := webOkP x && (webV (webD x) && decide (webT (webD x) = x))
theorem read_eq {x : Str} (g : Good x) : Elem (readOk x) NT (fun v μ' => ∃ k rs, v = .lst k ∧ WebR μ' k rs (webD x)) μ (f_read [.str x] μ) := by
  rw [f_read, ev_def (k := 1) rfl]
  obtain ⟨μ₁, k, hsp, p1, hkl, hk1⟩ := split_at (x := x) (y := sp3) (μ := μ) (by decide +kernel) (by have := g.len; omega)
  have gw := g.split (y := sp3)
  have hcnt := g.count (y := sp3) (by decide +kernel)
  have hz := comp_rel (α := Str) (e := dCall f_row_of (dCons (dVar 2) dNil)) (put := putAt 2) (ρ := fun i => [MV.str x][i]?) (G := fun μ => μ[k]? = some ((Txt.split x sp3).map MV.str)) (μ₀ := μ₁) (emb := MV.str) (ok := rowOk) (c := NT) (R := RowR μ₁.length) (Txt.split x sp3) (fun μ' h => get_pre h hk1) hcnt (fun p v ν ν' ⟨r, h1, h2, h3⟩ st => ⟨r, h1, h2, st r _ h2 h3⟩) (fun q hq ν hp hlt => by
    have := (row_of_eq (μ := ν) (gw q hq)).mono (R' := RowR μ₁.length q) (fun v μ' _ ⟨r, h1, h2, h3⟩ => ⟨r, h1, by omega, h3⟩)
    simpa [putAt, ev_var] using this)
  rcases hz with ⟨v, μ₂, hok, e, p2, rfl, vs, hvs, hall⟩ | ⟨μ₂, hok, e, p2⟩
  · obtain ⟨rs, rfl, hrl, hrow⟩ := rows_of hall
    have hW : WebR μ₂ μ₁.length rs (webD x) := by
      refine ⟨hvs, by unfold webD; rw [List.length_map, hrl], fun i r row h1 h2 => ?_⟩
      unfold webD at h2
      obtain ⟨p, hp, rfl⟩ := map_get h2
      exact hrow i r p h1 hp
    have hwl : (webD x).length ≤ 1000 := by unfold webD; rw [List.length_map]; exact hcnt
    have hn := need_web_rs hW hwl
    have hokp : webOkP x = true := hok
    have pp := p1.trans p2
    cases hv : webV (webD x) with
    | false =>
      rw [if_neg (by rw [hv]; simp)] at hn
      have hr : readOk x = false := by unfold readOk; rw [hv]; simp
      simp [d_read, ev_var, hsp, itK_lst hk1]
      rw [e]
      simp [ev_var]
      rw [try_exc (c := BW) (μ₁ := μ₂) (by simp [ev_var, hn]) (by decide +kernel) (by decide +kernel)]
      simp
      exact .no _ hr rfl pp
    | true =>
      rw [if_pos hv] at hn
      have hlt := webT_le hokp
      have hl900 := g.len
      obtain ⟨μ₃, e3, p3⟩ := shown_eq hW hv (by omega) (fun row hr => by
        unfold webD at hr
        obtain ⟨p, hp, rfl⟩ := List.mem_map.mp hr
        unfold rowD partsR
        rw [List.length_map]
        split
        · simp
        · exact (gw p hp).count (by decide +kernel))
      have hne : neM (.str (webT (webD x))) (.str x) μ₃ = .ok (.bool (!(webT (webD x) == x))) μ₃ := ne_str (webT_ok _) g.ok
      simp [d_read, ev_var, hsp, itK_lst hk1]
      rw [e]
      simp [ev_var]
      rw [try_ok (r := (.next, Rho.set (fun i => [MV.str x][i]?) 1 (.lst μ₁.length))) (μ₁ := μ₂) (by simp [ev_var, hn])]
      by_cases ht : webT (webD x) = x
      · have hr : readOk x = true := by unfold readOk; rw [hv, hokp, decide_eq_true ht]; rfl
        have hb : (webT (webD x) == x) = true := by rw [ht]; simp
        rw [hb] at hne
        simp [ev_var, e3, hne]
        exact .yes _ _ hr rfl (pp.trans p3) ⟨_, rfl, rs, hW.mono p3⟩
      · have hr : readOk x = false := by unfold readOk; rw [decide_eq_false ht]; simp
        have hb : (webT (webD x) == x) = false := by simpa using ht
        rw [hb] at hne
        simp [ev_var, e3, hne]
        exact .no _ hr rfl (pp.trans p3)
  · have hr : readOk x = false := by unfold readOk webOkP; rw [hok]; simp
    simp [d_read, ev_var, hsp, itK_lst hk1]
    rw [e]
    simp
    exact .no _ hr rfl (p1.trans p2)
/-- what is no text is refused -/
theorem read_odd {v : MV} (h : isiM .str v μ = .ok (.bool false) μ) : f_read [v] μ = .exc NT μ := by
  rw [f_read, ev_def (k := 1) rfl]
  simp [d_read, ev_var, h]

/-! _law_read -/
theorem law_read_exc {v : MV} {μ' : MH} (e : f_read [v] μ = .exc NT μ') : f__law_read [v] μ = .ok .none μ' := by
  have h1 : NT ∈ xs := by decide +kernel
  have i1 : ∀ d (μ : MH), isiX xs d (.exc NT) μ = .ok (.bool (subX NT d)) μ := fun d μ => isiX_ok h1
  have s1 : subX NT (Str.ofString "BadWeb") = false := by decide +kernel
  have s2 : subX NT (Str.ofString "NoMove") = false := by decide +kernel
  have s3 : subX NT (Str.ofString "NotOver") = false := by decide +kernel
  have s4 : subX NT (Str.ofString "NoPlace") = false := by decide +kernel
  have s5 : subX NT (Str.ofString "NoText") = true := by decide +kernel
  have s6 : subX NT (Str.ofString "ValueError") = true := by decide +kernel
  rw [f__law_read, ev_def (k := 1) rfl, d__law_read, ev_seq]
  rw [tryAs_ret (c := NT) (μ₁ := μ') (v := .none) (μ₂ := μ') (ρ' := Rho.set (Rho.set (Rho.set (fun i => [v][i]?) 1 (.exc NT)) 2 (.bool false)) 2 (.bool false)) (by simp [ev_var, e]) h1 (by decide +kernel) (by simp [ev_var, i1, s1, s2, s3, s4, s5, s6])]
  rfl
theorem law_read_ok {v u : MV} {μ' : MH} (e : f_read [v] μ = .ok u μ') : f__law_read [v] μ = .ok u μ' := by
  rw [f__law_read, ev_def (k := 1) rfl, d__law_read, ev_seq]
  have : dTryAs xs (Str.ofString "WebError") 1 (dRet (dCall f_read (dCons (dVar 0) dNil))) (dSeq (dAssign 2 (dOr (dOp1 (isiX xs (Str.ofString "BadWeb")) (dVar 1)) (dOp1 (isiX xs (Str.ofString "NoMove")) (dVar 1)))) (dSeq (dAssign 2 (dOr (dVar 2) (dOr (dOp1 (isiX xs (Str.ofString "NotOver")) (dVar 1)) (dOp1 (isiX xs (Str.ofString "NoPlace")) (dVar 1))))) (dSeq (dRet (dIf (dAnd (dOp1 (isiX xs (Str.ofString "NoText")) (dVar 1)) (dAnd (dOp1 (isiX xs (Str.ofString "ValueError")) (dVar 1)) (dNot (dVar 2)))) (dConst .none) (dConst (.str (Str.ofString "other"))))) dSkip))) (fun i => [v][i]?) μ = .ok (.ret u, fun i => [v][i]?) μ' := by
    unfold dTryAs
    simp [ev_var, e]
  rw [this]; rfl
end
end Mine.L12

set_option linter.unusedVariables false
set_option linter.unusedSimpArgs false
namespace Mine.L12
open PySem PySem.StrLaws PySem.NumText PyProof.Rows Mine Mine.Com

section
variable {μ : MH}
noncomputable def optI : Option Int → MV
  | none => .none
  | some i => .int i
noncomputable def dLnTail : DS := (dSeq (dIfS (dOr (dNot (dChain leM leM (dConst (.int 1)) (dCall lenM (dCons (dVar 1) dNil)) (dConst (.int 30)))) (dBin neM (dComp (iStr (dVar 1)) (dBin notInStrM (dVar 2) (dConst (.str (Str.ofString "0123456789")))) (dVar 2) 2) (dList dNil))) (dSeq (dRet (dConst .none)) dSkip) dSkip) (dSeq (dIfS (dAnd (dBin eqM (dBin idxS (dVar 1) (dConst (.int 0))) (dConst (.str (Str.ofString "0")))) (dBin neM (dVar 0) (dConst (.str (Str.ofString "0"))))) (dSeq (dRet (dConst .none)) dSkip) dSkip) (dSeq (dRet (dCall intStrM (dCons (dVar 0) dNil))) dSkip)))
theorem dNum_none {w : Str} (h : canon w.cps.toList = false) : dNum w = none := by unfold dNum; rw [h]; rfl
theorem dNum_none' {w : Str} (h : numOk w.cps.toList = false) : dNum w = none := dNum_none (by unfold canon; rw [h]; rfl)
theorem flat_sign {c : Nat} (h : c < 0x110000) : Flat (.str ⟨#[c]⟩) := ⟨.str ⟨#[c]⟩, by show PyData.strOk ⟨#[c]⟩ = true; exact strOk_iff.mpr (by simpa using h), fun μ => rfl⟩
theorem ln_tail {w F : Str} {ρ : Rho} (g : Good w) (gF : Good F) (hF : F.cps.toList = figs w.cps.toList) (h0 : ρ 0 = some (.str w)) (h1 : ρ 1 = some (.str F)) : ∃ μ', defK (dLnTail ρ μ) = .ok (optI (dNum w)) μ' ∧ μ <+: μ' := by
  have el : lenM [.str F] μ = .ok (.int F.length) μ := if_pos (by have := gF.len; omega)
  have hl := len_list F
  by_cases c1 : (1 : Int) ≤ F.length
  · by_cases c2 : (F.length : Int) ≤ 30
    · obtain ⟨μ₁, e1, p1, k1⟩ := comp_filter (G := fun _ => True) (put := putAt 2) (c := dBin notInStrM (dVar 2) (dConst (.str (Str.ofString "0123456789")))) (e := dVar 2) (ρ := ρ) (μ₀ := μ) F.cps.toList (fun c => MV.str ⟨#[c]⟩) (fun c => !isDig c) (fun c => MV.str ⟨#[c]⟩)
        (fun c _ ν _ => ⟨ν, by simp [putAt, ev_var, notIn_str, contains_dig], List.prefix_refl _⟩) (fun c _ ν _ => ⟨ν, by simp [putAt, ev_var], List.prefix_refl _⟩) (fun _ _ => trivial) (by have := gF.len; omega)
      have e1' : compM (fun _ => True) (putAt 2) (dBin notInStrM (dVar 2) (dConst (.str (Str.ofString "0123456789")))) (dVar 2) μ.length (signsL F) ρ (μ ++ [[]]) = .ok (.lst μ.length) μ₁ := e1
      have hne := ne_nil (get_pre (pre_app μ₁ [[]]) k1) (get_last []) (fun v hv => by
        obtain ⟨c, hc, rfl⟩ := List.mem_map.mp hv
        exact flat_sign (strOk_iff.mp gF.ok c (List.mem_filter.mp hc).1))
      rw [List.length_map] at hne
      by_cases hd : F.cps.toList.all isDig = true
      · have hf : (F.cps.toList.filter fun c => !isDig c) = [] := List.filter_eq_nil_iff.mpr fun c hc => by rw [List.all_eq_true.mp hd c hc]; simp
        have hn : numOk w.cps.toList = true := by
          unfold numOk
          rw [← hF, hd, decide_eq_true (by omega)]
          cases hq : F.cps.toList with
          | nil => rw [hq] at hl; simp at hl; omega
          | cons _ _ => rfl
        rw [hf] at hne
        simp at hne
        obtain ⟨c, r, hcr⟩ : ∃ c r, F.cps.toList = c :: r := by
          cases hq : F.cps.toList with
          | nil => rw [hq] at hl; simp at hl; omega
          | cons c r => exact ⟨c, r, rfl⟩
        have hix : ∀ ν : MH, idxS (.str F) (.int 0) ν = .ok (.str ⟨#[c]⟩) ν := fun ν => idxS_ok (n := 0) (by rw [hcr]; rfl) (by decide)
        have hc0 : c < 0x110000 := strOk_iff.mp gF.ok c (by rw [hcr]; exact List.mem_cons_self)
        have heq : ∀ ν : MH, eqM (.str ⟨#[c]⟩) (.str (Str.ofString "0")) ν = .ok (.bool (decide (c = 48))) ν := fun ν => by
          rw [eq_str (strOk_iff.mpr (by simpa using hc0)) (by decide +kernel)]
          have : ((⟨#[c]⟩ : Str) == Str.ofString "0") = decide (c = 48) := by
            have h48 : Str.ofString "0" = ⟨#[48]⟩ := by decide +kernel
            rw [h48, Bool.eq_iff_iff]; simp
          rw [this]
        have hnw : ∀ ν : MH, neM (.str w) (.str (Str.ofString "0")) ν = .ok (.bool (decide (w.cps.toList ≠ [48]))) ν := fun ν => by
          rw [ne_str g.ok (by decide +kernel)]
          have : (!(w == Str.ofString "0")) = decide (w.cps.toList ≠ [48]) := by
            have h48 : (Str.ofString "0").cps.toList = [48] := by decide +kernel
            rw [Bool.eq_iff_iff]
            simp
            exact not_congr ⟨fun e => by rw [e, h48], fun e => str_ext (by rw [e, h48])⟩
          rw [this]
        have hhead : (figs w.cps.toList).head? = some c := by rw [← hF, hcr]; rfl
        have p2 : μ <+: μ₁ ++ [[]] := p1.trans (pre_app _ _)
        refine ⟨_, ?_, p2⟩
        by_cases h48 : c = 48
        · have heq' : ∀ ν : MH, eqM (.str ⟨#[c]⟩) (.str (Str.ofString "0")) ν = .ok (.bool true) ν := fun ν => by rw [heq, decide_eq_true h48]
          by_cases hw : w.cps.toList ≠ [48]
          · have hd : dNum w = none := dNum_none (by unfold canon; rw [hn, hhead, h48, decide_eq_true hw]; rfl)
            have hnw' : ∀ ν : MH, neM (.str w) (.str (Str.ofString "0")) ν = .ok (.bool true) ν := fun ν => by rw [hnw, decide_eq_true hw]
            simp [dLnTail, ev_var, h0, h1, el, c1, c2, e1', hne, hix, heq', hnw', hd, optI]
          · have hd : dNum w = some (numVal w.cps.toList) := by unfold dNum; rw [if_pos (by unfold canon; rw [hn, decide_eq_false hw]; simp)]
            have hi : ∀ ν : MH, intStrM [.str w] ν = .ok (.int (numVal w.cps.toList)) ν := fun ν => intStr_ok (dNum_iff.mp hd).1
            have hnw' : ∀ ν : MH, neM (.str w) (.str (Str.ofString "0")) ν = .ok (.bool false) ν := fun ν => by rw [hnw, decide_eq_false hw]
            simp [dLnTail, ev_var, h0, h1, el, c1, c2, e1', hne, hix, heq', hnw', hd, hi, optI]
        · have hd : dNum w = some (numVal w.cps.toList) := by unfold dNum; rw [if_pos (by unfold canon; rw [hn, hhead, decide_eq_false (fun e => h48 (Option.some.inj e))]; simp)]
          have hi : ∀ ν : MH, intStrM [.str w] ν = .ok (.int (numVal w.cps.toList)) ν := fun ν => intStr_ok (dNum_iff.mp hd).1
          simp [dLnTail, ev_var, h0, h1, el, c1, c2, e1', hne, hix, heq, h48, hd, hi, optI]
      · have hf : 0 < (F.cps.toList.filter fun c => !isDig c).length := by
          rw [List.length_pos_iff]
          intro e
          rw [List.filter_eq_nil_iff] at e
          apply hd
          rw [List.all_eq_true]
          intro c hc
          have := e c hc
          simpa using this
        have hn : numOk w.cps.toList = false := by
          unfold numOk; rw [← hF]
          have : F.cps.toList.all isDig = false := by simpa using hd
          rw [this]; simp
        rw [decide_eq_true hf] at hne
        refine ⟨μ₁ ++ [[]], ?_, p1.trans (pre_app _ _)⟩
        simp [dLnTail, ev_var, h1, el, c1, c2, e1', hne, dNum_none' hn, optI]
    · have hn : numOk w.cps.toList = false := by unfold numOk; rw [← hF, decide_eq_false (by omega)]; simp
      exact ⟨μ, by simp [dLnTail, ev_var, h1, el, c1, c2, dNum_none' hn, optI], List.prefix_refl _⟩
  · have hn : numOk w.cps.toList = false := by
      unfold numOk; rw [← hF]
      have : F.cps.toList = [] := List.eq_nil_of_length_eq_zero (by omega)
      rw [this]; rfl
    exact ⟨μ, by simp [dLnTail, ev_var, h1, el, c1, dNum_none' hn, optI], List.prefix_refl _⟩
theorem law_number_eq {w : Str} (g : Good w) : ∃ μ', f__law_number [.str w] μ = .ok (optI (dNum w)) μ' ∧ μ <+: μ' := by
  rw [f__law_number, ev_def (k := 1) rfl]
  rw [show d__law_number = dSeq (dAssign 1 (dIf (dBin eqM (dBin cutToS (dVar 0) (dConst (.int 1))) (dConst (.str (Str.ofString "-")))) (dBin cutFromS (dVar 0) (dConst (.int 1))) (dVar 0))) dLnTail from rfl]
  have hcut : cutFromS (.str w) (.int 1) μ = .ok (.str (dropS w 1)) μ := cutFromS_ok (n := 1) (by have := g.len; omega)
  have hto : cutToS (.str w) (.int 1) μ = .ok (.str (takeS w 1)) μ := cutToS_one (by have := g.len; omega)
  have ht : (takeS w 1).cps.toList = w.cps.toList.take 1 := by simp [takeS]
  have heq : eqM (.str (takeS w 1)) (.str (Str.ofString "-")) μ = .ok (.bool (decide (w.cps.toList.head? = some 45))) μ := by
    rw [eq_str (strOk_iff.mpr fun c hc => strOk_iff.mp g.ok c (List.mem_of_mem_take (by rw [ht] at hc; exact hc))) (by decide +kernel)]
    have : (takeS w 1 == Str.ofString "-") = decide (w.cps.toList.head? = some 45) := by
      have h45 : (Str.ofString "-").cps.toList = [45] := by decide +kernel
      rw [Bool.eq_iff_iff, beq_iff_eq, decide_eq_true_eq]
      constructor
      · intro e
        have e2 := congrArg (fun s : Str => s.cps.toList) e
        simp only [ht, h45] at e2
        cases hw : w.cps.toList with
        | nil => rw [hw] at e2; cases e2
        | cons c r => rw [hw] at e2; cases e2; rfl
      · intro e
        apply str_ext
        rw [ht, h45]
        cases hw : w.cps.toList with
        | nil => rw [hw] at e; cases e
        | cons c r => rw [hw] at e; cases e; rfl
    rw [this]
  by_cases hm : w.cps.toList.head? = some 45
  · rw [decide_eq_true hm] at heq
    simp [ev_var, hto, heq, hcut]
    refine ln_tail g (Good.drop g 1) ?_ (by simp) (by simp)
    cases hw : w.cps.toList with
    | nil => rw [hw] at hm; cases hm
    | cons c r => rw [hw] at hm; cases hm; simp [dropS, hw, figs]
  · rw [decide_eq_false hm] at heq
    simp [ev_var, hto, heq]
    refine ln_tail g g ?_ (by simp) (by simp)
    cases hw : w.cps.toList with
    | nil => rfl
    | cons c r => rw [figs_other (fun e => hm (by rw [hw, e]; rfl))]
end
end Mine.L12

set_option linter.unusedVariables false
set_option linter.unusedSimpArgs false
namespace Mine.L12
open PySem PySem.StrLaws PySem.NumText PyProof.Rows Mine Mine.Com

section
variable {μ : MH}
noncomputable def optS : Option RS → MV
  | none => .none
  | some r => rsMv r
theorem notIn_pg {a : Str} (h : PyData.strOk a = true) : notInM (.str a) (.tup [.str (Str.ofString "put"), .str (Str.ofString "get")]) μ = .ok (.bool (!(decide (wPut = a) || decide (wGet = a)))) μ := by
  have e : anyEq (.str a) (.tup [.str (Str.ofString "put"), .str (Str.ofString "get")]) μ = some (decide (wPut = a) || decide (wGet = a)) := by
    have hp : PyData.strOk (Str.ofString "put") = true := by decide +kernel
    have hg : PyData.strOk (Str.ofString "get") = true := by decide +kernel
    show (if (PyData.strOk a && (PyData.strOk (Str.ofString "put") && (PyData.strOk (Str.ofString "get") && true))) = true then some ((Str.ofString "put" == a) || ((Str.ofString "get" == a) || false)) else none) = _
    rw [h, hp, hg]
    show some ((Str.ofString "put" == a) || ((Str.ofString "get" == a) || false)) = _
    rw [Bool.or_false]
    congr 1
  unfold notInM
  rw [e]
theorem mapM_opt {d : Nat} : ∀ os : List (Option Int), ∃ ps, (os.map optI).mapM (toPy μ d) = some ps ∧ PyData.canLayAll0 ps = true ∧ (ps.any fun y => PyData.eqv y .none) = os.any (·.isNone)
  | [] => ⟨[], rfl, rfl, rfl⟩
  | o :: os => by
    obtain ⟨ps, e1, e2, e3⟩ := mapM_opt (d := d) os
    cases o with
    | none => exact ⟨.none :: ps, by rw [List.map_cons, List.mapM_cons, e1]; cases d <;> rfl, by rw [PyData.canLayAll0, e2]; rfl, by rw [List.any_cons, List.any_cons]; rfl⟩
    | some i => exact ⟨.int i :: ps, by rw [List.map_cons, List.mapM_cons, e1]; cases d <;> rfl, by rw [PyData.canLayAll0, e2]; rfl, by rw [List.any_cons, List.any_cons, e3]; rfl⟩
theorem in_none {j : Nat} {os : List (Option Int)} (h : μ[j]? = some (os.map optI)) : inM .none (.lst j) μ = .ok (.bool (os.any (·.isNone))) μ := by
  obtain ⟨ps, e1, e2, e3⟩ := mapM_opt (μ := μ) (d := 7) os
  have e : anyEq .none (.lst j) μ = some (os.any (·.isNone)) := by
    unfold anyEq
    rw [toPy_lst h e1]
    show (if (PyData.canLay0 .none && PyData.canLayAll0 ps) = true then some (ps.any fun y => PyData.eqv y .none) else none) = _
    rw [e2, e3]; rfl
  unfold inM
  rw [e]

/-- [_law_number(word) for word in words[1:]] -/
theorem comp_numbers {k : Nat} {ρ : Rho} {ws : List Str} (hk : μ[k]? = some (ws.map .str)) (gw : ∀ w ∈ ws, Good w) (hl : ws.length ≤ 1000) (h1 : ρ 1 = some (.lst k)) : ∃ μ' j, dComp (iSeq (dBin cutFrom (dVar 1) (dConst (.int 1)))) (dConst (.bool true)) (dCall f__law_number (dCons (dVar 3) dNil)) 3 ρ μ = .ok (.lst j) μ' ∧ μ <+: μ' ∧ μ'[j]? = some (((ws.drop 1).map dNum).map optI) := by
  have hc : cutFrom (.lst k) (.int 1) μ = .ok (.lst μ.length) (μ ++ [(ws.map MV.str).drop 1]) := cutFrom_lst (n := 1) hk (by rw [List.length_map]; unfold sizeLine; omega)
  rw [← List.map_drop] at hc
  have hk2 : (μ ++ [(ws.drop 1).map MV.str])[μ.length]? = some ((ws.drop 1).map MV.str) := get_last _
  have p1 := pre_app μ [(ws.drop 1).map MV.str]
  generalize μ ++ [(ws.drop 1).map MV.str] = ν at hc hk2 p1
  have hz := comp_rel (α := Str) (e := dCall f__law_number (dCons (dVar 3) dNil)) (put := putAt 3) (ρ := ρ) (G := fun μ' => μ'[μ.length]? = some ((ws.drop 1).map MV.str)) (μ₀ := ν) (emb := MV.str) (ok := fun _ => true) (c := NT) (R := fun w v _ => v = optI (dNum w)) (ws.drop 1) (fun μ' h => get_pre h hk2) (by rw [List.length_drop]; omega) (fun _ _ _ _ h _ => h) (fun w hw ν' hp _ => by
    obtain ⟨μ', e, p⟩ := law_number_eq (μ := ν') (gw w (List.mem_of_mem_drop hw))
    exact .yes _ μ' rfl (by simpa [putAt, ev_var] using e) p rfl)
  rcases hz with ⟨v, μ', hok, e, p, rfl, vs, hvs, hall⟩ | ⟨μ', hok, e, p⟩
  · refine ⟨μ', ν.length, ?_, p1.trans p, by rw [hvs, hall.eq_map (g := fun w => optI (dNum w)) fun x v h => h, List.map_map]; rfl⟩
    simp only [ev_comp, ev_seqI, ev_bin, ev_var h1, binK_ok, ev_const, binK2_ok, hc, itK_lst hk2, compK_ok]
    exact e
  · exact absurd hok (by simp)

noncomputable def dLsTail : DS := (dSeq (dAssign 2 (dComp (iSeq (dBin cutFrom (dVar 1) (dConst (.int 1)))) (dConst (.bool true)) (dCall f__law_number (dCons (dVar 3) dNil)) 3)) (dSeq (dIfS (dOr (dBin inM (dConst .none) (dVar 2)) (dNot (dChain leM leM (dConst (.int 0)) (dBin idxM (dVar 2) (dConst (.int 0))) (dConst (.int 3))))) (dSeq (dRet (dConst .none)) dSkip) dSkip) (dSeq (dRet (dCall tupleM (dCons (dBin addM (dList (dCons (dBin idxM (dVar 1) (dConst (.int 0))) dNil)) (dVar 2)) dNil))) dSkip)))
/-- a word and its numbers -/
noncomputable def lsV (a : Str) (os : List (Option Int)) : MV := if os.any (·.isNone) = true then .none else match os with
  | some i :: _ => if boxI i = true then .tup (.str a :: os.map optI) else .none
  | _ => .none
theorem ls_tail {k : Nat} {ρ : Rho} {a b : Str} {l : List Str} (hk : μ[k]? = some ((a :: b :: l).map .str)) (gw : ∀ w ∈ a :: b :: l, Good w) (hl : (a :: b :: l).length ≤ 1000) (h1 : ρ 1 = some (.lst k)) : ∃ μ', defK (dLsTail ρ μ) = .ok (lsV a ((b :: l).map dNum)) μ' ∧ μ <+: μ' := by
  obtain ⟨μ₁, j, e1, p1, k1⟩ := comp_numbers hk gw hl h1
  have k1' : μ₁[j]? = some (((b :: l).map dNum).map optI) := k1
  have hin := in_none k1'
  unfold lsV
  cases hn : ((b :: l).map dNum).any (·.isNone) with
  | true =>
    rw [hn] at hin
    refine ⟨μ₁, ?_, p1⟩
    unfold dLsTail
    simp only [ev_seq, ev_assign, e1, asgK_ok, seqK_next]
    simp [ev_var, hin]
  | false =>
    rw [hn] at hin
    have hb : dNum b ≠ none := fun e => by rw [List.map_cons, List.any_cons, e] at hn; cases hn
    cases hi : dNum b with
    | none => exact absurd hi hb
    | some i =>
      have hix : idxM (.lst j) (.int 0) μ₁ = .ok (.int i) μ₁ := idx_lst (n := 0) k1' (by rw [List.map_cons, List.map_cons, hi]; rfl) (by decide)
      simp only [List.map_cons, hi]
      by_cases hb0 : (0 : Int) ≤ i
      · by_cases hb3 : i ≤ 3
        · have hbx : boxI i = true := by unfold boxI; simp [hb0, hb3]
          have hk1 : (μ₁ ++ [[MV.str a]])[j]? = some (((b :: l).map dNum).map optI) := get_pre (pre_app _ _) k1'
          have hia : idxM (.lst k) (.int 0) μ₁ = .ok (.str a) μ₁ := idx_lst (n := 0) (get_pre p1 hk) rfl (by decide)
          have hadd := add_lst (get_last (μ := μ₁) [MV.str a]) hk1 (by simp at hl ⊢; unfold sizeLine; omega)
          have htup := tuple_lst (get_last (μ := μ₁ ++ [[MV.str a]]) ([MV.str a] ++ ((b :: l).map dNum).map optI)) (by simp at hl ⊢; omega)
          refine ⟨_, ?_, (p1.trans (pre_app μ₁ [[MV.str a]])).trans (pre_app _ [[MV.str a] ++ ((b :: l).map dNum).map optI])⟩
          unfold dLsTail
          simp only [ev_seq, ev_assign, e1, asgK_ok, seqK_next]
          simp only [ev_ifs, ev_or, ev_bin, ev_const, ev_var (rho_set_self ..), binK_ok, binK2_ok, hin, orK_false, ev_not, ev_chain, chK_ok, hix, chK2_ok, le_int, decide_eq_true hb0, chK3_true, decide_eq_true hb3, notK_ok, Bool.not_true, ifK_false, ev_skip, seqK_next, ev_seq, ev_ret, ev_call, ev_cons, ev_list, ev_nil]
          rw [ev_var (show (Rho.set ρ 2 (MV.lst j)) 1 = some (.lst k) by simp [h1])]
          simp only [binK_ok, ev_const, binK2_ok, hia, consK_ok, consK2_ok, ev_nil, listK_ok, ev_var (rho_set_self ..), hadd, Out.bind_ok, htup, retK_ok, seqK_ret, defK_ret, hbx, if_true]
          simp [optI, hi]
        · have hbx : boxI i = false := by unfold boxI; simp [hb3]
          refine ⟨μ₁, ?_, p1⟩
          unfold dLsTail
          simp only [ev_seq, ev_assign, e1, asgK_ok, seqK_next]
          simp [ev_var, hin, hix, hb0, hb3, hbx]
      · have hbx : boxI i = false := by unfold boxI; simp [hb0]
        refine ⟨μ₁, ?_, p1⟩
        unfold dLsTail
        simp only [ev_seq, ev_assign, e1, asgK_ok, seqK_next]
        simp [ev_var, hin, hix, hb0, hbx]
theorem law_step_eq {p : Str} (g : Good p) : ∃ μ', f__law_step [.str p] μ = .ok (optS (dStep p)) μ' ∧ μ <+: μ' := by
  rw [f__law_step, ev_def (k := 1) rfl]
  rw [show d__law_step = dSeq (dAssign 1 (dMeth splitM (dVar 0) (dConst (.str (Str.ofString " "))))) (dSeq (dIfS (dBin eqM (dVar 1) (dList (dCons (dConst (.str (Str.ofString "fence"))) dNil))) (dSeq (dRet (dTup (dCons (dConst (.str (Str.ofString "fence"))) dNil))) dSkip) dSkip) (dSeq (dIfS (dOr (dBin notInM (dBin idxM (dVar 1) (dConst (.int 0))) (dTup (dCons (dConst (.str (Str.ofString "put"))) (dCons (dConst (.str (Str.ofString "get"))) dNil)))) (dBin neM (dCall lenM (dCons (dVar 1) dNil)) (dBin subM (dConst (.int 3)) (dCall intOfM (dCons (dBin eqM (dBin idxM (dVar 1) (dConst (.int 0))) (dConst (.str (Str.ofString "get")))) dNil))))) (dSeq (dRet (dConst .none)) dSkip) dSkip) dLsTail)) from rfl]
  obtain ⟨μ₁, k, hsp, p1, hkl, hk1⟩ := split_at (x := p) (y := sp1) (μ := μ) (by decide +kernel) (by have := g.len; omega)
  have gw := g.split (y := sp1)
  have hcnt := g.count (y := sp1) (by decide +kernel)
  have hpos := split_pos p sp1
  unfold dStep
  generalize Txt.split p sp1 = ws at hsp gw hcnt hk1 hpos ⊢
  have hk : (μ₁ ++ [[MV.str (Str.ofString "fence")]])[k]? = some (ws.map .str) := get_pre (pre_app _ _) hk1
  have hj : (μ₁ ++ [[MV.str (Str.ofString "fence")]])[μ₁.length]? = some ([Str.ofString "fence"].map .str) := get_last _
  have pp : μ <+: μ₁ ++ [[MV.str (Str.ofString "fence")]] := p1.trans (pre_app _ _)
  have heq := eq_strs hk hj (fun t ht => (gw t ht).ok) (by decide +kernel)
  have hlen := len_ws hk hcnt
  unfold dStepW
  by_cases hf : ws = [wFence]
  · rw [decide_eq_true hf] at heq
    rw [if_pos hf]
    exact ⟨_, by simp [ev_var, hsp, heq, optS, rsMv], pp⟩
  · rw [decide_eq_false hf] at heq
    rw [if_neg hf]
    cases ws with
    | nil => exact absurd hpos (by simp)
    | cons a l =>
      have ga := (gw a List.mem_cons_self).ok
      have hi0 := idx_ws (n := 0) hk rfl (by decide)
      simp at hi0
      have hnp := notIn_pg (μ := μ₁ ++ [[MV.str (Str.ofString "fence")]]) ga
      have heg : eqM (.str a) (.str (Str.ofString "get")) (μ₁ ++ [[MV.str (Str.ofString "fence")]]) = .ok (.bool (a == Str.ofString "get")) (μ₁ ++ [[MV.str (Str.ofString "fence")]]) := eq_str ga (by decide +kernel)
      by_cases hput : a = wPut
      · subst hput
        have hg : (wPut == Str.ofString "get") = false := by decide +kernel
        rw [hg] at heg
        simp at hnp
        rcases l with _ | ⟨b, _ | ⟨c, _ | ⟨d, l⟩⟩⟩
        · exact ⟨_, by simp [ev_var, hsp, heq, hi0, hnp, hlen, heg, intOfM, optS], pp⟩
        · refine ⟨_, ?_, pp⟩
          have hng : ¬ wPut = wGet := by decide +kernel
          simp [ev_var, hsp, heq, hi0, hnp, hlen, heg, intOfM, optS, hng]
        · obtain ⟨μ', e, p'⟩ := ls_tail (ρ := Rho.set (fun i => [MV.str p][i]?) 1 (.lst k)) hk gw hcnt (by simp)
          refine ⟨μ', ?_, pp.trans p'⟩
          simp only [ev_seq, ev_assign, ev_meth, ev_var (show (fun i => [MV.str p][i]?) 0 = some (.str p) from rfl), methK_str, ev_const, methK2_ok, hsp, asgK_ok, seqK_next, ev_ifs, ev_bin, ev_var (rho_set_self ..), binK_ok, ev_list, ev_cons, ev_nil, consK_ok, consK2_ok, listK_ok, binK2_ok, heq, ifK_false, ev_skip, ev_or, hi0, ev_tup, tupK_ok, hnp, orK_false, ev_call, Out.bind_ok, hlen, heg, intOfM]
          simp
          simp at e
          rw [e]
          congr 1
          unfold lsV
          cases hb : dNum b with
          | none => rfl
          | some i =>
            cases hc : dNum c with
            | none => rfl
            | some j =>
              cases hx : boxI i with
              | true => simp [optS, hb, hc, hx, rsMv, optI]
              | false => simp [optS, hb, hc, hx]
        · refine ⟨_, ?_, pp⟩
          have h3 : ((l.length : Int) + 1 + 1 + 1 + 1 == 3) = false := beq_eq_false_iff_ne.mpr (by omega)
          simp [ev_var, hsp, heq, hi0, hnp, hlen, heg, intOfM, optS, h3]
      · by_cases hget : a = wGet
        · subst hget
          have hg : (wGet == Str.ofString "get") = true := by decide +kernel
          rw [hg] at heg
          simp at hnp
          rcases l with _ | ⟨b, _ | ⟨c, l⟩⟩
          · exact ⟨_, by simp [ev_var, hsp, heq, hi0, hnp, hlen, heg, intOfM, optS], pp⟩
          · obtain ⟨μ', e, p'⟩ := ls_tail (ρ := Rho.set (fun i => [MV.str p][i]?) 1 (.lst k)) hk gw hcnt (by simp)
            refine ⟨μ', ?_, pp.trans p'⟩
            simp only [ev_seq, ev_assign, ev_meth, ev_var (show (fun i => [MV.str p][i]?) 0 = some (.str p) from rfl), methK_str, ev_const, methK2_ok, hsp, asgK_ok, seqK_next, ev_ifs, ev_bin, ev_var (rho_set_self ..), binK_ok, ev_list, ev_cons, ev_nil, consK_ok, consK2_ok, listK_ok, binK2_ok, heq, ifK_false, ev_skip, ev_or, hi0, ev_tup, tupK_ok, hnp, orK_false, ev_call, Out.bind_ok, hlen, heg, intOfM]
            simp
            simp at e
            rw [e]
            congr 1
            unfold lsV
            cases hb : dNum b with
            | none => rfl
            | some i =>
              cases hx : boxI i with
              | true => simp [optS, hb, hx, rsMv, optI]
              | false => simp [optS, hb, hx]
          · refine ⟨_, ?_, pp⟩
            have hgp : ¬ wGet = wPut := by decide +kernel
            cases l with
            | nil => simp [ev_var, hsp, heq, hi0, hnp, hlen, heg, intOfM, optS, hgp]
            | cons d l =>
              have h4 : ((l.length : Int) + 1 + 1 + 1 + 1 == 2) = false := beq_eq_false_iff_ne.mpr (by omega)
              simp [ev_var, hsp, heq, hi0, hnp, hlen, heg, intOfM, optS, h4]
        · have hno : (!(decide (wPut = a) || decide (wGet = a))) = true := by
            rw [decide_eq_false (Ne.symm hput), decide_eq_false (Ne.symm hget)]; rfl
          rw [hno] at hnp
          refine ⟨_, ?_, pp⟩
          rcases l with _ | ⟨b, _ | ⟨c, _ | ⟨d, l⟩⟩⟩ <;> simp [ev_var, hsp, heq, hi0, hnp, optS, hput, hget]
end
end Mine.L12

set_option linter.unusedVariables false
set_option linter.unusedSimpArgs false
namespace Mine.L12
open PySem PySem.StrLaws PySem.NumText PyProof.Rows Mine Mine.Com

section
variable {μ : MH}
/-! what the law says of a text -/
noncomputable def rowS (p : Str) : List MV := (partsR p).map fun q => optS (dStep q)
noncomputable def RowG (kw : Nat) (F : Str → List MV) (p : Str) (v : MV) (μ : MH) : Prop := ∃ r, v = .lst r ∧ r ≠ kw ∧ μ[r]? = some (F p)
theorem rowG_stays {kw : Nat} {F : Str → List MV} : ∀ x v (μ μ' : MH), RowG kw F x v μ → Stays kw μ μ' → RowG kw F x v μ' := fun p v ν ν' ⟨r, h1, h2, h3⟩ st => ⟨r, h1, h2, st r _ h2 h3⟩
theorem rowsG_of {kw : Nat} {F : Str → List MV} {ps : List Str} {vs : List MV} (h : All2 (RowG kw F) ps vs μ) : ∃ rs : List Nat, vs = rs.map .lst ∧ rs.length = ps.length ∧ ∀ (i r : Nat) (p : Str), rs[i]? = some r → ps[i]? = some p → r ≠ kw ∧ μ[r]? = some (F p) := by
  refine ⟨vs.map fun v => match v with | .lst r => r | _ => 0, ?_, by rw [List.length_map, h.len], fun i r p h1 h2 => ?_⟩
  · rw [List.map_map]
    apply List.ext_getElem?
    intro i
    rw [List.getElem?_map]
    cases hv : vs[i]? with
    | none => rfl
    | some v =>
      have hi : i < ps.length := by rw [← h.len]; exact (List.getElem?_eq_some_iff.mp hv).1
      obtain ⟨r, rfl, _⟩ := h.at_ i _ v (List.getElem?_eq_getElem hi) hv
      rfl
  · rw [List.getElem?_map] at h1
    obtain ⟨v, hv, e⟩ := Option.map_eq_some_iff.mp h1
    obtain ⟨r', rfl, hn, hr⟩ := h.at_ i p v h2 hv
    have : r' = r := e
    subst this; exact ⟨hn, hr⟩

theorem due_row {p : Str} {ρ : Rho} (g : Good p) (h2 : ρ 2 = some (.str p)) : ∃ μ' r, dIf (dBin neM (dVar 2) (dConst (.str (Str.ofString "")))) (dComp (iSeq (dMeth splitM (dVar 2) (dConst (.str (Str.ofString "; "))))) (dConst (.bool true)) (dCall f__law_step (dCons (dVar 7) dNil)) 7) (dList dNil) ρ μ = .ok (.lst r) μ' ∧ μ <+: μ' ∧ μ.length ≤ r ∧ μ'[r]? = some (rowS p) := by
  have e0 : neM (.str p) (.str (Str.ofString "")) μ = .ok (.bool (!(p == Str.ofString ""))) μ := ne_str g.ok (by decide +kernel)
  have hempty : Str.ofString "" = Str.empty := by decide +kernel
  cases hz : (p == Str.ofString "") with
  | true =>
    have hp : p = Str.empty := (eq_of_beq hz).trans hempty
    rw [hz] at e0
    have h1 : partsR p = [] := by unfold partsR; rw [if_pos hp]
    refine ⟨μ ++ [[]], μ.length, by simp [ev_var, h2, e0], pre_app _ _, Nat.le_refl _, ?_⟩
    unfold rowS; rw [h1]; exact get_last _
  | false =>
    have hp : p ≠ Str.empty := fun e => by rw [e, ← hempty] at hz; simp at hz
    rw [hz] at e0
    have h1 : partsR p = Txt.split p sp2 := by unfold partsR; rw [if_neg hp]
    obtain ⟨μ₁, k, hsp, p1, hkl, hk1⟩ := split_at (x := p) (y := sp2) (μ := μ) (by decide +kernel) (by have := g.len; omega)
    have gw := g.split (y := sp2)
    have hcnt := g.count (y := sp2) (by decide +kernel)
    unfold rowS
    rw [h1]
    generalize Txt.split p sp2 = ws at hsp gw hcnt hk1 ⊢
    have hz := comp_rel (α := Str) (e := dCall f__law_step (dCons (dVar 7) dNil)) (put := putAt 7) (ρ := ρ) (G := fun μ => μ[k]? = some (ws.map MV.str)) (μ₀ := μ₁) (emb := MV.str) (ok := fun _ => true) (c := NT) (R := fun q v _ => v = optS (dStep q)) ws (fun μ' h => get_pre h hk1) hcnt (fun _ _ _ _ h _ => h) (fun q hq ν hp _ => by
        obtain ⟨μ', e, p⟩ := law_step_eq (μ := ν) (gw q hq)
        exact .yes _ μ' rfl (by simpa [putAt, ev_var] using e) p rfl)
    rcases hz with ⟨v, μ', hok, e, p2, rfl, vs, hvs, hall⟩ | ⟨μ', hok, e, p2⟩
    · refine ⟨μ', μ₁.length, ?_, p1.trans p2, p1.length_le, by rw [hvs, hall.eq_map (g := fun q => optS (dStep q)) fun x v h => h]⟩
      simp [ev_var, h2, e0, hsp, itK_lst hk1]
      exact e
    · exact absurd hok (by simp)

theorem mapM_optS {d : Nat} : ∀ os : List (Option RS), ∃ ps, (os.map optS).mapM (toPy μ (d + 1)) = some ps ∧ PyData.canLayAll0 ps = true ∧ (ps.any fun y => PyData.eqv y .none) = os.any (·.isNone)
  | [] => ⟨[], rfl, rfl, rfl⟩
  | o :: os => by
    obtain ⟨ps, e1, e2, e3⟩ := mapM_optS (d := d) os
    have hp : PyData.strOk (Str.ofString "put") = true := by decide +kernel
    have hg : PyData.strOk (Str.ofString "get") = true := by decide +kernel
    have hf : PyData.strOk (Str.ofString "fence") = true := by decide +kernel
    cases o with
    | none => exact ⟨.none :: ps, by rw [List.map_cons, List.mapM_cons, e1]; cases d <;> rfl, by rw [PyData.canLayAll0, e2]; rfl, by rw [List.any_cons, List.any_cons]; rfl⟩
    | some r =>
      cases r with
      | put b v => exact ⟨.tuple [.str (Str.ofString "put"), .int b, .int v] :: ps, by rw [List.map_cons, List.mapM_cons, e1]; cases d <;> rfl, by simp [PyData.canLayAll0, PyData.canLay0, e2, hp], by rw [List.any_cons, List.any_cons, e3]; rfl⟩
      | get b => exact ⟨.tuple [.str (Str.ofString "get"), .int b] :: ps, by rw [List.map_cons, List.mapM_cons, e1]; cases d <;> rfl, by simp [PyData.canLayAll0, PyData.canLay0, e2, hg], by rw [List.any_cons, List.any_cons, e3]; rfl⟩
      | fence => exact ⟨.tuple [.str (Str.ofString "fence")] :: ps, by rw [List.map_cons, List.mapM_cons, e1]; cases d <;> rfl, by simp [PyData.canLayAll0, PyData.canLay0, e2, hf], by rw [List.any_cons, List.any_cons, e3]; rfl⟩
theorem rowS_map (p : Str) : rowS p = ((partsR p).map dStep).map optS := by unfold rowS; rw [List.map_map]; rfl
noncomputable def rowBad (p : Str) : Bool := (partsR p).any fun q => (dStep q).isNone
theorem in_noneS {r : Nat} {p : Str} (h : μ[r]? = some (rowS p)) : inM .none (.lst r) μ = .ok (.bool (rowBad p)) μ := by
  rw [rowS_map] at h
  obtain ⟨ps, e1, e2, e3⟩ := mapM_optS (μ := μ) (d := 6) ((partsR p).map dStep)
  have hb : rowBad p = ((partsR p).map dStep).any (·.isNone) := by unfold rowBad; rw [List.any_map]; rfl
  have e : anyEq .none (.lst r) μ = some (rowBad p) := by
    unfold anyEq
    rw [toPy_lst h e1]
    show (if (PyData.canLay0 .none && PyData.canLayAll0 ps) = true then some (ps.any fun y => PyData.eqv y .none) else none) = _
    rw [e2, e3, hb]; rfl
  unfold inM
  rw [e]
theorem rows_py : ∀ l : List Nat, (∀ r ∈ l, ∃ p, μ[r]? = some (rowS p)) → ∃ ps, (l.map MV.lst).mapM (toPy μ 7) = some ps ∧ PyData.canLayAll0 ps = true ∧ ps.length = l.length
  | [], _ => ⟨[], rfl, rfl, rfl⟩
  | r :: l, h => by
    obtain ⟨ps, e1, e2, e3⟩ := rows_py l fun x hx => h x (List.mem_cons_of_mem _ hx)
    obtain ⟨p, hp⟩ := h r List.mem_cons_self
    rw [rowS_map] at hp
    obtain ⟨qs, q1, q2, _⟩ := mapM_optS (μ := μ) (d := 5) ((partsR p).map dStep)
    refine ⟨.list qs :: ps, ?_, by simp [PyData.canLayAll0, PyData.canLay0, e2, q2], by simp [e3]⟩
    have : toPy μ 7 (.lst r) = some (.list qs) := by
      show (match μ[r]? with | some xs => (xs.mapM (toPy μ 6)).map PyData.list | none => none) = _
      rw [hp]
      show ((((partsR p).map dStep).map optS).mapM (toPy μ 6)).map PyData.list = _
      rw [q1]; rfl
    rw [List.map_cons, List.mapM_cons, this, e1]; rfl
theorem ne_rows {k j : Nat} {l : List Nat} (h : μ[k]? = some (l.map .lst)) (hj : μ[j]? = some []) (hr : ∀ r ∈ l, ∃ p, μ[r]? = some (rowS p)) : neM (.lst k) (.lst j) μ = .ok (.bool (decide (0 < l.length))) μ := by
  obtain ⟨ps, e1, h1, h2⟩ := rows_py l hr
  rw [neM, toPy_lst h e1, toPy_lst (ps := []) hj rfl]
  simp only [PyData.canLay0, h1, PyData.canLayAll0, Bool.and_self, if_true]
  cases ps with
  | nil => simp at h2; simp [PyData.eqv, PyData.eqvAll, ← h2]
  | cons p r => simp at h2; simp [PyData.eqv, PyData.eqvAll]; omega
theorem ne_fenceT (r : RS) : neM (rsMv r) (.tup [.str (Str.ofString "fence")]) μ = .ok (.bool (!rsF r)) μ := by
  have hp : PyData.strOk (Str.ofString "put") = true := by decide +kernel
  have hg : PyData.strOk (Str.ofString "get") = true := by decide +kernel
  have hf : PyData.strOk (Str.ofString "fence") = true := by decide +kernel
  have n1 : (Str.ofString "put" == Str.ofString "fence") = false := by decide +kernel
  have n2 : (Str.ofString "get" == Str.ofString "fence") = false := by decide +kernel
  cases r with
  | put b v =>
    show (if (PyData.canLay0 (.tuple [.str (Str.ofString "put"), .int b, .int v]) && PyData.canLay0 (.tuple [.str (Str.ofString "fence")])) = true then Out.ok (MV.bool (!PyData.eqv (.tuple [.str (Str.ofString "put"), .int b, .int v]) (.tuple [.str (Str.ofString "fence")]))) μ else .stuck) = _
    simp [PyData.canLay0, PyData.canLayAll0, hp, hf, PyData.eqv, PyData.eqvAll, n1, rsF]
  | get b =>
    show (if (PyData.canLay0 (.tuple [.str (Str.ofString "get"), .int b]) && PyData.canLay0 (.tuple [.str (Str.ofString "fence")])) = true then Out.ok (MV.bool (!PyData.eqv (.tuple [.str (Str.ofString "get"), .int b]) (.tuple [.str (Str.ofString "fence")]))) μ else .stuck) = _
    simp [PyData.canLay0, PyData.canLayAll0, hg, hf, PyData.eqv, PyData.eqvAll, n2, rsF]
  | fence =>
    show (if (PyData.canLay0 (.tuple [.str (Str.ofString "fence")]) && PyData.canLay0 (.tuple [.str (Str.ofString "fence")])) = true then Out.ok (MV.bool (!PyData.eqv (.tuple [.str (Str.ofString "fence")]) (.tuple [.str (Str.ofString "fence")]))) μ else .stuck) = _
    simp [PyData.canLay0, PyData.canLayAll0, hf, PyData.eqv, PyData.eqvAll, rsF]
theorem row_good {p : Str} (h : rowBad p = false) : rowS p = (rowD p).map rsMv := by
  unfold rowS rowD
  rw [List.map_map]
  refine List.map_congr_left fun q hq => ?_
  have : (dStep q).isSome = true := by
    unfold rowBad at h
    cases e : dStep q with
    | some r => rfl
    | none =>
      have : ((partsR p).any fun q => (dStep q).isNone) = true := List.any_eq_true.mpr ⟨q, hq, by rw [e]; rfl⟩
      rw [this] at h; cases h
  rw [dStep_D this]; rfl

noncomputable def dDueTail2 : DS := (dSeq (dAssign 3 (dConst (.int 0))) (dSeq (dFor (iSeq (dVar 1)) (putAt 4) (dSeq (dAssign 3 (dBin addM (dVar 3) (dCall lenM (dCons (dComp (iSeq (dVar 4)) (dBin neM (dVar 5) (dTup (dCons (dConst (.str (Str.ofString "fence"))) dNil))) (dVar 5) 5) dNil)))) dSkip)) (dSeq (dRet (dIf (dBin ltM (dVar 3) (dConst (.int 9))) (dVar 1) (dConst .none))) dSkip)))
theorem due_tail2 {kw : Nat} {rs : List Nat} {W : List (List RS)} {ρ : Rho} (hW : WebR μ kw rs W) (hl : W.length ≤ 3) (hr : ∀ row ∈ W, row.length ≤ 1000) (h1 : ρ 1 = some (.lst kw)) :
    ∃ μ', defK (dDueTail2 ρ μ) = .ok (if (W.map rdeeds).sum ≤ 8 then .lst kw else .none) μ' ∧ μ <+: μ' := by
  have q : Gives (defK (dDueTail2 ρ μ)) (fun v μ' => v = (if (W.map rdeeds).sum ≤ 8 then .lst kw else .none) ∧ μ <+: μ') := by
    unfold dDueTail2
    simp only [ev_seq, ev_assign, ev_const, asgK_ok, seqK_next, ev_for, ev_seqI, ev_var (show (Rho.set ρ 3 (MV.int 0)) 1 = some (.lst kw) by simp [h1]), itK_lst hW.top, forK_ok]
    refine loop_rule (P := fun o => Gives (defK (seqK o _)) _) (fun i ρ ν => μ <+: ν ∧ ρ 1 = some (.lst kw) ∧ ∃ z : Int, ρ 3 = some (.int z) ∧ z = (((W.take i).map rdeeds).sum : Nat)) (fun i ρ ν h => get_pre h.1 hW.top) ⟨List.prefix_refl _, by simp [h1], 0, by simp, by simp⟩ ?_ ?_
    · rintro i v ρ ν hv ⟨hp, h1, z, h3, hz⟩
      obtain ⟨r, hrr, rfl⟩ := map_get hv
      have hi : i < W.length := by rw [← hW.len]; exact (List.getElem?_eq_some_iff.mp hrr).1
      have hrow : W[i]? = some W[i] := List.getElem?_eq_getElem hi
      have hat := get_pre hp (hW.row i r _ hrr hrow)
      have hs := rsum_take hrow
      obtain ⟨μ₁, e1, p1, k1⟩ := comp_filter (G := fun μ => μ[r]? = some (W[i].map rsMv)) (put := putAt 5) (c := dBin neM (dVar 5) (dTup (dCons (dConst (.str (Str.ofString "fence"))) dNil))) (e := dVar 5) (ρ := Rho.set ρ 4 (.lst r)) (μ₀ := ν) W[i] rsMv (fun r => !rsF r) rsMv
        (fun r _ ν' _ => ⟨ν', by simp [putAt, ev_var, ne_fenceT], List.prefix_refl _⟩) (fun r _ ν' _ => ⟨ν', by simp [putAt, ev_var], List.prefix_refl _⟩) (fun ν' h => get_pre h hat) (hr _ (List.getElem_mem hi))
      have hlen : lenM [.lst ν.length] μ₁ = .ok (.int (rdeeds W[i])) μ₁ := by
        have hle := List.length_filter_le (fun r => !rsF r) W[i]
        have := hr _ (List.getElem_mem hi)
        rw [len_lst k1 (by rw [List.length_map]; omega), List.length_map]; rfl
      simp only [putAt, ev_seq, ev_assign, ev_bin, ev_var (show (Rho.set ρ 4 (MV.lst r)) 3 = some (.int z) by simp [h3]), binK_ok, ev_call, ev_cons, ev_comp, ev_seqI, ev_var (rho_set_self ..), itK_lst hat, compK_ok]
      rw [e1]
      simp [hlen, h1]
      exact ⟨hp.trans p1, by rw [← List.map_take]; omega⟩
    · rintro ρ ν ⟨hp, h1, z, h3, hz⟩
      rw [List.length_map, hW.len, List.take_length] at hz
      by_cases h9 : z < 9
      · simp [ev_var, h1, h3, h9]
        exact ⟨by omega, hp⟩
      · simp [ev_var, h1, h3, h9]
        exact ⟨by omega, hp⟩
  obtain ⟨v, μ', e, rfl, p⟩ := q
  exact ⟨μ', e, p⟩

noncomputable def dueOk (x : Str) : Bool := decide ((Txt.split x sp3).length ≤ 3) && (!(Txt.split x sp3).any rowBad && decide (((webD x).map rdeeds).sum ≤ 8))
noncomputable def dDueTail : DS := (dSeq (dIfS (dOr (dBin gtM (dCall lenM (dCons (dVar 1) dNil)) (dConst (.int 3))) (dBin neM (dComp (iSeq (dVar 1)) (dBin inM (dConst .none) (dVar 6)) (dVar 6) 6) (dList dNil))) (dSeq (dRet (dConst .none)) dSkip) dSkip) dDueTail2)
inductive DueR (x : Str) (μ : MH) (o : Out MV) : Prop
  | yes (k : Nat) (rs : List Nat) (μ' : MH) (h : dueOk x = true) (e : o = .ok (.lst k) μ') (p : μ <+: μ') (w : WebR μ' k rs (webD x)) : DueR x μ o
  | no (μ' : MH) (h : dueOk x = false) (e : o = .ok .none μ') (p : μ <+: μ') : DueR x μ o
theorem due_tail {x : Str} {kw : Nat} {rs : List Nat} {ρ : Rho} {μ₀ : MH} (g : Good x) (hp0 : μ₀ <+: μ) (ht : μ[kw]? = some (rs.map .lst)) (hl : rs.length = (Txt.split x sp3).length) (hrow : ∀ (i r : Nat) (p : Str), rs[i]? = some r → (Txt.split x sp3)[i]? = some p → μ[r]? = some (rowS p)) (h1 : ρ 1 = some (.lst kw)) :
    DueR x μ₀ (defK (dDueTail ρ μ)) := by
  have gw := g.split (y := sp3)
  have hcnt := g.count (y := sp3) (by decide +kernel)
  have hlen : lenM [.lst kw] μ = .ok (.int (Txt.split x sp3).length) μ := by rw [len_lst ht (by rw [List.length_map]; omega), List.length_map, hl]
  by_cases h3 : (3 : Int) < (Txt.split x sp3).length
  · have hd : dueOk x = false := by unfold dueOk; rw [decide_eq_false (by omega)]; rfl
    refine .no μ hd ?_ hp0
    simp [dDueTail, ev_var, h1, hlen, h3]
  · have hmap : (rs.zip (Txt.split x sp3)).map (fun q => MV.lst q.1) = rs.map MV.lst := by
      have : (rs.zip (Txt.split x sp3)).map (fun q => MV.lst q.1) = ((rs.zip (Txt.split x sp3)).map Prod.fst).map MV.lst := by rw [List.map_map]; rfl
      rw [this, List.map_fst_zip (by rw [hl]; exact Nat.le_refl _)]
    have hsnd : (rs.zip (Txt.split x sp3)).map Prod.snd = Txt.split x sp3 := List.map_snd_zip (by rw [hl]; exact Nat.le_refl _)
    have hat : ∀ q ∈ rs.zip (Txt.split x sp3), μ[q.1]? = some (rowS q.2) := fun q hq => by
      obtain ⟨i, hi⟩ := List.getElem?_of_mem hq
      obtain ⟨h1, h2⟩ := List.getElem?_zip_eq_some.mp hi
      exact hrow i q.1 q.2 h1 h2
    obtain ⟨μ₁, e1, p1, k1⟩ := comp_filter (G := fun μ => μ[kw]? = some (rs.map MV.lst)) (put := putAt 6) (c := dBin inM (dConst .none) (dVar 6)) (e := dVar 6) (ρ := ρ) (μ₀ := μ) (rs.zip (Txt.split x sp3)) (fun q => MV.lst q.1) (fun q => rowBad q.2) (fun q => MV.lst q.1)
      (fun q hq ν hp => ⟨ν, by simp [putAt, ev_var, in_noneS (get_pre hp (hat q hq))], List.prefix_refl _⟩) (fun q hq ν hp => ⟨ν, by simp [putAt, ev_var], List.prefix_refl _⟩) (fun ν h => get_pre h ht) (by rw [List.length_zip]; omega)
    rw [hmap] at e1
    have k1' : μ₁[μ.length]? = some ((((rs.zip (Txt.split x sp3)).filter fun q => rowBad q.2).map Prod.fst).map MV.lst) := by rw [k1, List.map_map]; rfl
    have hne := ne_rows (get_pre (pre_app μ₁ [[]]) k1') (get_last []) (fun r hr => by
      obtain ⟨q, hq, rfl⟩ := List.mem_map.mp hr
      exact ⟨q.2, get_pre (p1.trans (pre_app _ _)) (hat q (List.mem_filter.mp hq).1)⟩)
    rw [List.length_map] at hne
    have p2 : μ <+: μ₁ ++ [[]] := p1.trans (pre_app _ _)
    cases hb : (Txt.split x sp3).any rowBad with
    | true =>
      have hd : dueOk x = false := by unfold dueOk; rw [hb]; simp
      have hpos : 0 < ((rs.zip (Txt.split x sp3)).filter fun q => rowBad q.2).length := by
        rw [List.length_pos_iff]
        intro e
        rw [← hsnd, List.any_map] at hb
        obtain ⟨q, hq, hqb⟩ := List.any_eq_true.mp hb
        exact (List.filter_eq_nil_iff.mp e) q hq hqb
      rw [decide_eq_true hpos] at hne
      refine .no _ hd ?_ (hp0.trans p2)
      simp [dDueTail, ev_var, h1, hlen, h3, itK_lst ht]
      rw [e1]
      simp [hne]
    | false =>
      have hnil : ((rs.zip (Txt.split x sp3)).filter fun q => rowBad q.2) = [] := List.filter_eq_nil_iff.mpr fun q hq hqb => by
        have : (Txt.split x sp3).any rowBad = true := by
          rw [← hsnd, List.any_map]; exact List.any_eq_true.mpr ⟨q, hq, hqb⟩
        rw [this] at hb; cases hb
      rw [hnil] at hne
      simp at hne
      have hW : WebR (μ₁ ++ [[]]) kw rs (webD x) := by
        refine ⟨get_pre p2 ht, by unfold webD; rw [List.length_map, hl], fun i r row h1 h2 => ?_⟩
        unfold webD at h2
        obtain ⟨p, hp, rfl⟩ := map_get h2
        have hbp : rowBad p = false := by
          cases e : rowBad p with
          | false => rfl
          | true =>
            have : (Txt.split x sp3).any rowBad = true := List.any_eq_true.mpr ⟨p, List.mem_of_getElem? hp, e⟩
            rw [this] at hb; cases hb
        rw [← row_good hbp]
        exact get_pre p2 (hrow i r p h1 hp)
      have hwl : (webD x).length ≤ 3 := by unfold webD; rw [List.length_map]; omega
      obtain ⟨μ₂, e2, p3⟩ := due_tail2 hW hwl (fun row hr => by
        unfold webD at hr
        obtain ⟨p, hp, rfl⟩ := List.mem_map.mp hr
        unfold rowD partsR
        rw [List.length_map]
        split
        · simp
        · exact (gw p hp).count (by decide +kernel)) h1
      have hE : defK (dDueTail ρ μ) = defK (dDueTail2 ρ (μ₁ ++ [[]])) := by
        simp [dDueTail, ev_var, h1, hlen, h3, itK_lst ht]
        rw [e1]
        simp [hne]
      rw [hE, e2]
      by_cases h8 : ((webD x).map rdeeds).sum ≤ 8
      · rw [if_pos h8]
        exact .yes kw rs μ₂ (by unfold dueOk; rw [hb, decide_eq_true h8, decide_eq_true (by omega)]; rfl) rfl (hp0.trans (p2.trans p3)) (hW.mono p3)
      · rw [if_neg h8]
        exact .no μ₂ (by unfold dueOk; rw [decide_eq_false h8]; simp) rfl (hp0.trans (p2.trans p3))
theorem law_due_eq {x : Str} (g : Good x) : DueR x μ (f__law_due [.str x] μ) := by
  rw [f__law_due, ev_def (k := 1) rfl]
  rw [show d__law_due = dSeq (dAssign 1 (dList dNil)) (dSeq (dFor (iSeq (dMeth splitM (dVar 0) (dConst (.str (Str.ofString " | "))))) (putAt 2) (dSeq (dExpr (dAppend (dVar 1) (dIf (dBin neM (dVar 2) (dConst (.str (Str.ofString "")))) (dComp (iSeq (dMeth splitM (dVar 2) (dConst (.str (Str.ofString "; "))))) (dConst (.bool true)) (dCall f__law_step (dCons (dVar 7) dNil)) 7) (dList dNil)))) dSkip)) dDueTail) from rfl]
  obtain ⟨μ₁, k, hsp, p1, hkl, hk1⟩ := split_at (x := x) (y := sp3) (μ := μ ++ [[]]) (by decide +kernel) (by have := g.len; omega)
  have gw := g.split (y := sp3)
  have hcnt := g.count (y := sp3) (by decide +kernel)
  have hkw : k ≠ μ.length := by rw [hkl]; simp
  have hw1 : μ₁[μ.length]? = some [] := get_pre p1 (get_last [])
  simp only [ev_seq, ev_assign, ev_list, ev_nil, listK_ok, asgK_ok, seqK_next, ev_for, ev_seqI, ev_meth, ev_var (show (Rho.set (fun i => [MV.str x][i]?) 1 (MV.lst μ.length)) 0 = some (.str x) by simp), methK_str, ev_const, methK2_ok, hsp, itK_lst hk1, forK_ok]
  refine loop_rule (P := fun o => DueR x μ (defK (seqK o _))) (fun i ρ ν => μ <+: ν ∧ ρ 1 = some (.lst μ.length) ∧ ν[k]? = some ((Txt.split x sp3).map MV.str) ∧ i ≤ (Txt.split x sp3).length ∧ ∃ acc, ν[μ.length]? = some acc ∧ All2 (RowG μ.length rowS) ((Txt.split x sp3).take i) acc ν) (fun i ρ ν h => h.2.2.1) ⟨(pre_app _ _).trans p1, by simp, hk1, Nat.zero_le _, [], hw1, by simpa using All2.nil⟩ ?_ ?_
  · rintro i v ρ ν hv ⟨hp, h1, hk, hi, acc, hacc, hall⟩
    obtain ⟨p, hpp, rfl⟩ := map_get hv
    have hlt : i < (Txt.split x sp3).length := (List.getElem?_eq_some_iff.mp hpp).1
    have hlw : μ.length < ν.length := (List.getElem?_eq_some_iff.mp hacc).1
    obtain ⟨μ₂, r, e2, p2, hr, k2⟩ := due_row (μ := ν) (ρ := Rho.set ρ 2 (.str p)) (gw p (List.mem_of_getElem? hpp)) (by simp)
    have hal := hall.len
    rw [List.length_take] at hal
    have hap := appK2_ok (v := .lst r) (get_pre p2 hacc) (by unfold sizeLine; omega)
    have st : Stays μ.length ν (μ₂.set μ.length (acc ++ [.lst r])) := (stays_pre p2).trans stays_set
    have hnew : RowG μ.length rowS p (.lst r) (μ₂.set μ.length (acc ++ [.lst r])) := ⟨r, rfl, by omega, by rw [get_set_ne (by omega)]; exact k2⟩
    have hsn := (hall.mono rowG_stays st).snoc hnew
    have htk : (Txt.split x sp3).take i ++ [p] = (Txt.split x sp3).take (i + 1) := by
      rw [List.take_succ_eq_append_getElem hlt, (List.getElem?_eq_some_iff.mp hpp).2]
    rw [htk] at hsn
    simp only [putAt, ev_seq, ev_expr, ev_append, ev_var (show (Rho.set ρ 2 (MV.str p)) 1 = some (.lst μ.length) by simp [h1]), appK_lst, e2, hap, exprK_ok, seqK_next, ev_skip, nextTo_ok]
    exact ⟨pre_set (hp.trans p2) (Nat.le_refl _), by simp [h1], by rw [get_set_ne (Ne.symm hkw)]; exact get_pre p2 hk, hlt, _, get_set_self (get_pre p2 hacc), hsn⟩
  · rintro ρ ν ⟨hp, h1, hk, hi, acc, hacc, hall⟩
    rw [List.length_map, List.take_length] at hall
    obtain ⟨rs, rfl, hrl, hrow⟩ := rowsG_of hall
    simp only [seqK_next]
    exact due_tail g hp hacc hrl (fun i r p h1 h2 => (hrow i r p h1 h2).2) h1
end
end Mine.L12

set_option linter.unusedVariables false
set_option linter.unusedSimpArgs false
namespace Mine.L12
open PySem Mine Mine.Com

/-! numbers -/
noncomputable def numP (c : Int) : Int := if c.fmod 5 = 0 then (c.fdiv 5 * 610666465330867800319356957143791 + 5).fmod 1999999999999999999999999999999 - 999999999999999999999999999999 else (c.fdiv 5).fmod 9 - 4
theorem pow1 : (48271 : Int) ^ 7 = 610666465330867800319356957143791 := by decide +kernel
theorem numP_ok (c : Int) : -big < numP c ∧ numP c < big := by
  unfold numP big
  split
  · obtain ⟨a1, a2⟩ := fmod_nn (c.fdiv 5 * 610666465330867800319356957143791 + 5) (b := 1999999999999999999999999999999) (by first | assumption | exact Nat.zero_le _ | exact lt_big (by assumption) (by assumption) | decide | omega)
    omega
  · obtain ⟨a1, a2⟩ := fmod_nn (c.fdiv 5) (b := 9) (by first | assumption | exact Nat.zero_le _ | exact lt_big (by assumption) (by assumption) | decide | omega)
    omega
section
variable {μ : MH}
theorem pow_int {a b : Int} {r : Int} (h0 : 0 ≤ b) (h1 : (Builtin.Int.intBits a : Int) * b ≤ 2 ^ 27) (hr : a ^ b.toNat = r) : powM (.int a) (.int b) μ = .ok (.int r) μ := by
  simp only [powM, intM]
  rw [if_pos ⟨h0, h1⟩, hr]
theorem mul_int {a b : Int} (h : IntMulOk a b) : mulM (.int a) (.int b) μ = .ok (.int (a * b)) μ := by
  exact if_pos h
theorem number_by_eq {c : Int} (h : Builtin.Int.intBits c ≤ 2000000) : f__law_number_by [.int c] μ = .ok (.int (numP c)) μ := by
  have d1 := fmod_int (μ := μ) c (show (5 : Int) ≠ 0 by decide)
  have d2 := fdiv_int (μ := μ) c (show (0 : Int) < 5 ∧ (5 : Int) < 2 ^ 30 by decide)
  have d3 := fmod_int (μ := μ) (c.fdiv 5) (show (9 : Int) ≠ 0 by decide)
  have p1 : powM (.int 48271) (.int 7) μ = .ok (.int 610666465330867800319356957143791) μ := pow_int (by decide) (by decide +kernel) pow1
  have p2 : powM (.int 10) (.int 30) μ = .ok (.int 1000000000000000000000000000000) μ := pow_int (by decide) (by decide +kernel) (by decide +kernel)
  have m1 : mulM (.int (c.fdiv 5)) (.int 610666465330867800319356957143791) μ = .ok (.int (c.fdiv 5 * 610666465330867800319356957143791)) μ := mul_int (IntMulOk.of_le (m := 2000000) (n := 200) (intBits_fdiv_le h) (by decide +kernel) (by decide))
  have m2 : mulM (.int 2) (.int 1000000000000000000000000000000) μ = .ok (.int 2000000000000000000000000000000) μ := mul_int (a := 2) (IntMulOk.of_left (by decide +kernel))
  have f1 := fmod_int (μ := μ) (c.fdiv 5 * 610666465330867800319356957143791 + 5) (show (1999999999999999999999999999999 : Int) ≠ 0 by decide)
  rw [f__law_number_by, ev_def (k := 1) rfl]
  unfold numP
  by_cases hc : c.fmod 5 = 0
  · simp only [d__law_number_by, ev_seq, ev_ifs, ev_bin, ev_var (show (fun i => [MV.int c][i]?) 0 = some (.int c) from rfl), binK_ok, ev_const, binK2_ok, d1, hc, eq_int, beq_self_eq_true, ifK_true, ev_ret, d2, p1, p2, m1, m2, add_int, sub_int]
    rw [show (2000000000000000000000000000000 : Int) - 1 = 1999999999999999999999999999999 from by decide, f1]
    simp only [binK_ok, ev_bin, ev_const, p2, binK2_ok, sub_int, retK_ok, seqK_ret, defK_ret]
    rw [show (1000000000000000000000000000000 : Int) - 1 = 999999999999999999999999999999 from by decide]
    simp
  · have hc' : (c.fmod 5 == 0) = false := by simpa using hc
    simp [d__law_number_by, ev_var, d1, d2, d3, hc, hc']
end
noncomputable def stepP (c : Int) : St := if c.fmod 7 < 3 then .put ((c.fdiv 7).fmod 4).toNat (numP (c.fdiv 28)) else if c.fmod 7 < 6 then .get ((c.fdiv 7).fmod 4).toNat else .fence
theorem stepP_ok (c : Int) : (stepP c).ok := by
  obtain ⟨a1, a2⟩ := fmod_nn (c.fdiv 7) (b := 4) (by first | assumption | exact Nat.zero_le _ | exact lt_big (by assumption) (by assumption) | decide | omega)
  unfold stepP
  split
  · exact ⟨by first | assumption | exact Nat.zero_le _ | exact lt_big (by assumption) (by assumption) | decide | omega, numP_ok _⟩
  · split
    · show _ < 4; omega
    · trivial
theorem step_by_eq {c : Int} (h : Builtin.Int.intBits c ≤ 2000000) (μ : MH) : f__law_step_by [.int c] μ = .ok (stepP c).mv μ := by
  obtain ⟨a1, a2⟩ := fmod_nn (c.fdiv 7) (b := 4) (by first | assumption | exact Nat.zero_le _ | exact lt_big (by assumption) (by assumption) | decide | omega)
  have e1 : (((c.fdiv 7).fmod 4).toNat : Int) = (c.fdiv 7).fmod 4 := by first | assumption | exact Nat.zero_le _ | exact lt_big (by assumption) (by assumption) | decide | omega
  have d1 := fmod_int (μ := μ) c (show (7 : Int) ≠ 0 by decide)
  have d2 := fdiv_int (μ := μ) c (show (0 : Int) < 7 ∧ (7 : Int) < 2 ^ 30 by decide)
  have d3 := fmod_int (μ := μ) (c.fdiv 7) (show (4 : Int) ≠ 0 by decide)
  have d4 := fdiv_int (μ := μ) c (show (0 : Int) < 28 ∧ (28 : Int) < 2 ^ 30 by decide)
  have d5 := number_by_eq (μ := μ) (c := c.fdiv 28) (intBits_fdiv_le h)
  rw [f__law_step_by, ev_def (k := 1) rfl]
  unfold stepP
  by_cases h1 : c.fmod 7 < 3
  · simp [d__law_step_by, ev_var, d1, d2, d3, d4, d5, h1, St.mv, e1]
  · by_cases h2 : c.fmod 7 < 6
    · simp [d__law_step_by, ev_var, d1, d2, d3, d4, d5, h1, h2, St.mv, e1]
    · simp [d__law_step_by, ev_var, d1, d2, d3, d4, d5, h1, h2, St.mv]
theorem cell_bits {ns : List Int} (hl : (PyData.list (ns.map .int)).layable0 = true) (i k : Nat) (hk : k < 9) : Builtin.Int.intBits (ns[i]?.getD 0 + 3 * (k : Int)) ≤ 2000000 := by
  have h1 : Builtin.Int.intBits (ns[i]?.getD 0) ≤ 1048576 := by
    cases e : ns[i]? with
    | none => show Builtin.Int.intBits 0 ≤ _; decide
    | some x => exact intBits_le_of_item (List.mem_of_getElem? e) hl
  have h2 : Builtin.Int.intBits (3 * (k : Int)) ≤ 64 := intBits_le_64 (by first | assumption | exact Nat.zero_le _ | exact lt_big (by assumption) (by assumption) | decide | omega) (by first | assumption | exact Nat.zero_le _ | exact lt_big (by assumption) (by assumption) | decide | omega)
  have := intBits_add_le h1 h2
  omega
theorem web_by (ns : List Int) (h : ns.length ≤ 1000) (hl : (PyData.list (ns.map .int)).layable0 = true) (μ : MH) : ∃ μ' W, f__law_web_by [.scr ns] μ = .ok (.lst μ.length) μ' ∧ μ <+: μ' ∧ WebAt μ' μ.length (ids μ.length W.length) W ∧ WebOk W ∧ total W ≤ 8 :=
  web_by_eq2 (dv := 11) (fs := f__law_step_by) (stp := stepP) (by decide) (fun i μ hi => step_by_eq (cell_bits hl _ i hi) μ) (fun i _ => stepP_ok _) h
end Mine.L12

set_option linter.unusedVariables false
set_option linter.unusedSimpArgs false
namespace Mine.L12
open PySem PySem.StrLaws PySem.NumText PyProof.Rows Mine Mine.Com

section
variable {μ : MH}
/-! the law's own text of a web -/
theorem text_by_eq {k : Nat} {rs : List Nat} {W : List (List RS)} (hW : WebR μ k rs W) (hf : ∀ row ∈ W, ∀ r ∈ row, r.fin) (hl : (webT W).length ≤ 900) (hr : ∀ row ∈ W, row.length ≤ 1000) (hw : W.length ≤ 1000) : ∃ μ', f__law_text_by [.lst k] μ = .ok (.str (webT W)) μ' ∧ μ <+: μ' := by
  have hrows : ∀ row ∈ W, (rowT row).length ≤ 900 := fun row h => Nat.le_trans (len_join_part (y := sp3) (List.mem_map.mpr ⟨row, h, rfl⟩)) hl
  have htexts : ∀ row ∈ W, ∀ r ∈ row, r.text.length ≤ 900 := fun row h r hr => Nat.le_trans (len_join_part (y := sp2) (List.mem_map.mpr ⟨r, hr, rfl⟩)) (hrows row h)
  have q : Gives (f__law_text_by [.lst k] μ) (fun v μ' => v = .str (webT W) ∧ μ <+: μ') := by
    rw [f__law_text_by, ev_def (k := 1) rfl]
    have hk1 := get_pre (pre_app μ [[]]) hW.top
    simp only [d__law_text_by, ev_seq, ev_assign, ev_list, ev_nil, listK_ok, asgK_ok, seqK_next, ev_for, ev_seqI, ev_var (show (Rho.set (fun i => [MV.lst k][i]?) 1 (MV.lst μ.length)) 0 = some (.lst k) by simp), itK_lst hk1, forK_ok]
    refine loop_rule (P := fun o => Gives (defK (seqK o _)) _) (fun i ρ ν => μ <+: ν ∧ ρ 1 = some (.lst μ.length) ∧ ν[μ.length]? = some (((W.take i).map rowT).map MV.str)) (fun i ρ ν h => get_pre h.1 hW.top) ⟨pre_app _ _, by simp, by simp⟩ ?_ ?_
    · rintro i v ρ ν hv ⟨hp, h1, hk⟩
      obtain ⟨r, hrr, rfl⟩ := map_get hv
      have hi : i < W.length := by rw [← hW.len]; exact (List.getElem?_eq_some_iff.mp hrr).1
      have hrow : W[i]? = some W[i] := List.getElem?_eq_getElem hi
      have hat := get_pre hp (hW.row i r _ hrr hrow)
      have hm := List.getElem_mem hi
      have hlt : μ.length < ν.length := (List.getElem?_eq_some_iff.mp hk).1
      have hat1 := get_pre (pre_app ν [[]]) hat
      simp only [putAt, ev_seq, ev_assign, ev_list, ev_nil, listK_ok, asgK_ok, seqK_next, ev_for, ev_seqI, ev_var (show (Rho.set (Rho.set ρ 2 (MV.lst r)) 3 (MV.lst ν.length)) 2 = some (.lst r) by simp), itK_lst hat1, forK_ok]
      refine loop_rule (P := fun o => NextTo (seqK o _) _) (fun j ρ ν' => ν <+: ν' ∧ ρ 1 = some (.lst μ.length) ∧ ρ 3 = some (.lst ν.length) ∧ ν'[ν.length]? = some (((W[i].take j).map RS.text).map MV.str)) (fun j ρ ν' h => get_pre h.1 hat) ⟨pre_app _ _, by simp [h1], by simp, by simp⟩ ?_ ?_
      · rintro j v ρ ν' hv ⟨hp', h1, h3, hk'⟩
        obtain ⟨s, hs, rfl⟩ := map_get hv
        have hms := List.mem_of_getElem? hs
        obtain ⟨μ', e, p, hk2⟩ := comp_words (μ₀ := ν') (i := 5) (ρ := Rho.set ρ 4 (rsMv s)) (rsItems s) (items_len s) (items_fin (hf _ hm s hms))
        rw [items_words] at hk2
        have hj := join_ok (y := sp1) hk2 (Nat.le_trans (htexts _ hm s hms) (by decide)) (by decide +kernel)
        have hcl := (hr _ hm)
        have htl := List.length_take_le j W[i]
        have hjl : j < W[i].length := (List.getElem?_eq_some_iff.mp hs).1
        have hap := appK2_ok (v := .str s.text) (get_pre p hk') (by rw [List.length_map, List.length_map, List.length_take]; unfold sizeLine; omega)
        simp only [putAt, ev_seq, ev_expr, ev_append, ev_var (show (Rho.set ρ 4 (MV.tup (rsItems s))) 3 = some (.lst ν.length) by simp [h3]), appK_lst, ev_meth, ev_const, methK_str, ev_comp, ev_seqI, ev_var (rho_set_self ..), rsMv_items, itK_tup, compK_ok]
        rw [rsMv_items] at e
        rw [e]
        simp only [methK2_ok]
        rw [show joinM (Str.ofString " ") (.lst ν'.length) μ' = .ok (.str s.text) μ' from hj, hap]
        simp only [exprK_ok, seqK_next, ev_skip, nextTo_ok]
        refine ⟨pre_set (hp'.trans p) (Nat.le_refl _), by simp [h1], by simp [h3], ?_⟩
        rw [get_set_self (get_pre p hk'), List.take_succ_eq_append_getElem hjl, (List.getElem?_eq_some_iff.mp hs).2, List.map_append, List.map_append]; rfl
      · rintro ρ ν' ⟨hp', h1, h3, hk'⟩
        rw [List.length_map, List.take_length] at hk'
        have hj := join_ok (y := sp2) hk' (Nat.le_trans (hrows _ hm) (by decide)) (by decide +kernel)
        have hap := appK2_ok (v := .str (rowT W[i])) (get_pre hp' hk) (by rw [List.length_map, List.length_map, List.length_take]; unfold sizeLine; omega)
        simp only [seqK_next, ev_seq, ev_expr, ev_append, ev_var h1, appK_lst, ev_meth, ev_const, methK_str, ev_var h3, methK2_ok]
        rw [show joinM (Str.ofString "; ") (.lst ν.length) ν' = .ok (.str (rowT W[i])) ν' from hj, hap]
        simp only [exprK_ok, seqK_next, ev_skip, nextTo_ok]
        refine ⟨pre_set (hp.trans hp') (Nat.le_refl _), h1, ?_⟩
        rw [get_set_self (get_pre hp' hk), List.take_succ_eq_append_getElem hi, List.map_append, List.map_append]; rfl
    · rintro ρ ν ⟨hp, h1, hk⟩
      rw [List.length_map, hW.len, List.take_length] at hk
      have hj := join_ok (y := sp3) hk (Nat.le_trans hl (by decide)) (by decide +kernel)
      simp only [seqK_next, ev_seq, ev_ret, ev_meth, ev_const, methK_str, ev_var h1, methK2_ok]
      rw [show joinM (Str.ofString " | ") (.lst μ.length) ν = .ok (.str (webT W)) ν from hj]
      simp only [retK_ok, seqK_ret, defK_ret, gives_ok]
      exact ⟨trivial, hp⟩
  obtain ⟨v, μ', e, rfl, p⟩ := q
  exact ⟨μ', e, p⟩

/-! webs compared -/
theorem rows_same : ∀ {rs rs' : List Nat} {W : List (List RS)}, rs.length = W.length → rs'.length = W.length → (∀ (i r : Nat) (row : List RS), rs[i]? = some r → W[i]? = some row → μ[r]? = some (row.map rsMv)) → (∀ (i r : Nat) (row : List RS), rs'[i]? = some r → W[i]? = some row → μ[r]? = some (row.map rsMv)) →
    ∃ ps, (rs.map MV.lst).mapM (toPy μ 7) = some ps ∧ (rs'.map MV.lst).mapM (toPy μ 7) = some ps ∧ PyData.canLayAll0 ps = true
  | [], [], [], _, _, _, _ => ⟨[], rfl, rfl, rfl⟩
  | r :: rs, r' :: rs', row :: W, h1, h2, h3, h4 => by
    obtain ⟨ps, e1, e2, e3⟩ := rows_same (rs := rs) (rs' := rs') (W := W) (by simpa using h1) (by simpa using h2) (fun i r row a b => h3 (i + 1) r row a b) (fun i r row a b => h4 (i + 1) r row a b)
    have a1 := h3 0 r row rfl rfl
    have a2 := h4 0 r' row rfl rfl
    have hm : row.map rsMv = (row.map some).map optS := by rw [List.map_map]; rfl
    obtain ⟨qs, q1, q2, _⟩ := mapM_optS (μ := μ) (d := 5) (row.map some)
    have t : ∀ z, μ[z]? = some (row.map rsMv) → toPy μ 7 (.lst z) = some (.list qs) := fun z hz => by
      show (match μ[z]? with | some xs => (xs.mapM (toPy μ 6)).map PyData.list | none => none) = _
      rw [hz]
      show ((row.map rsMv).mapM (toPy μ 6)).map PyData.list = _
      rw [hm, q1]; rfl
    exact ⟨.list qs :: ps, by rw [List.map_cons, List.mapM_cons, t r a1, e1]; rfl, by rw [List.map_cons, List.mapM_cons, t r' a2, e2]; rfl, by simp [PyData.canLayAll0, PyData.canLay0, e3, q2]⟩
  | [], _ :: _, [], _, h2, _, _ => absurd h2 (by simp)
  | [], _, _ :: _, h1, _, _, _ => absurd h1 (by simp)
  | _ :: _, _, [], h1, _, _, _ => absurd h1 (by simp)
  | _ :: _, [], _ :: _, _, h2, _, _ => absurd h2 (by simp)
theorem ne_webR {k j : Nat} {rs rs' : List Nat} {W : List (List RS)} (h : WebR μ k rs W) (h' : WebR μ j rs' W) : neM (.lst k) (.lst j) μ = .ok (.bool false) μ := by
  obtain ⟨ps, e1, e2, e3⟩ := rows_same h.len h'.len h.row h'.row
  rw [neM, toPy_lst h.top e1, toPy_lst h'.top e2]
  have hc : PyData.canLay0 (.list ps) = true := by rw [PyData.canLay0]; exact e3
  simp only [hc, Bool.and_self, if_true]
  rw [eqv_refl _ hc]; rfl
theorem drop_items (r : RS) : ∀ v ∈ (rsItems r).drop 1, ∃ i, v = MV.int i := by
  cases r with
  | put b v =>
    intro x hx
    have hx' : x ∈ [MV.int b, .int v] := hx
    simp only [List.mem_cons, List.not_mem_nil, or_false] at hx'
    rcases hx' with rfl | rfl
    · exact ⟨b, rfl⟩
    · exact ⟨v, rfl⟩
  | get b =>
    intro x hx
    have hx' : x ∈ [MV.int b] := hx
    exact ⟨b, List.mem_singleton.mp hx'⟩
  | fence =>
    intro x hx
    have hx' : x ∈ ([] : List MV) := hx
    simp at hx'
theorem same_eq {k j : Nat} {rs rs' : List Nat} {W : List (List RS)} (h : WebR μ k rs W) (h' : WebR μ j rs' W) : ∃ μ', f__law_same [.lst k, .lst j] μ = .ok (.bool true) μ' ∧ μ <+: μ' := by
  have hne := ne_webR h h'
  have q : Gives (f__law_same [.lst k, .lst j] μ) (fun v μ' => v = .bool true ∧ μ <+: μ') := by
    rw [f__law_same, ev_def (k := 2) rfl]
    simp [d__law_same, ev_var, hne, itK_lst h.top]
    refine loop_rule (P := fun o => Gives (defK (seqK o _)) _) (fun i ρ ν => μ <+: ν) (fun i ρ ν hp => get_pre hp h.top) (List.prefix_refl _) ?_ ?_
    · rintro i v ρ ν hv hp
      obtain ⟨r, hrr, rfl⟩ := map_get hv
      have hi : i < W.length := by rw [← h.len]; exact (List.getElem?_eq_some_iff.mp hrr).1
      have hrow : W[i]? = some W[i] := List.getElem?_eq_getElem hi
      have hat := get_pre hp (h.row i r _ hrr hrow)
      simp only [putAt, ev_seq, ev_ifs, ev_not, ev_op1, ev_var (rho_set_self ..), Out.bind_ok, isi_lst, notK_ok, Bool.not_true, ifK_false, ev_skip, seqK_next, ev_for, ev_seqI, itK_lst hat, forK_ok]
      refine loop_rule (P := fun o => NextTo (seqK o _) _) (fun j ρ ν' => ν <+: ν') (fun j ρ ν' hp' => get_pre hp' hat) (List.prefix_refl _) ?_ ?_
      · rintro a v ρ ν' hv hp'
        obtain ⟨s, hs, rfl⟩ := map_get hv
        have hil := items_len s
        have hcut : cutFrom (.tup (rsItems s)) (.int 1) ν' = .ok (.tup ((rsItems s).drop 1)) ν' := cutFrom_tup (n := 1) (by unfold sizeLine; omega)
        obtain ⟨μ₁, e1, p1, k1⟩ := comp_filter (G := fun _ => True) (put := putAt 4) (c := dOp1 (isiM .bool) (dVar 4)) (e := dVar 4) (ρ := Rho.set ρ 3 (.tup (rsItems s))) (μ₀ := ν') ((rsItems s).drop 1) id (fun _ => false) id
          (fun v hv ν₁ _ => by
            obtain ⟨z, rfl⟩ := drop_items s v hv
            exact ⟨ν₁, by simp [putAt, ev_var], List.prefix_refl _⟩) (fun v hv ν₁ _ => ⟨ν₁, by simp [putAt, ev_var], List.prefix_refl _⟩) (fun _ _ => trivial) (by rw [List.length_drop]; omega)
        rw [List.map_id] at e1
        have k1' : μ₁[ν'.length]? = some [] := by rw [k1]; simp
        have hnn := ne_nil (get_pre (pre_app μ₁ [[]]) k1') (get_last []) (by simp)
        simp at hnn
        simp only [putAt, rsMv_items, ev_seq, ev_ifs, ev_or, ev_not, ev_op1, ev_var (rho_set_self ..), Out.bind_ok, isi_tup, notK_ok, Bool.not_true, orK_false, ev_bin, ev_comp, ev_seqI, binK_ok, ev_const, binK2_ok, hcut, itK_tup, compK_ok]
        rw [e1]
        simp only [binK_ok, ev_list, ev_nil, listK_ok, binK2_ok, hnn, ifK_false, ev_skip, seqK_next, nextTo_ok]
        exact hp'.trans (p1.trans (pre_app _ _))
      · rintro ρ ν' hp'
        simp only [seqK_next, ev_skip, nextTo_ok]
        exact hp.trans hp'
    · rintro ρ ν hp
      simp
      exact hp
  obtain ⟨v, μ', e, rfl, p⟩ := q
  exact ⟨μ', e, p⟩
end
end Mine.L12

set_option linter.unusedVariables false
set_option linter.unusedSimpArgs false
namespace Mine.L12
open PySem PySem.StrLaws PySem.NumText PyProof.Rows Mine Mine.Com

/-! a text changed at one place -/
theorem good_app {x y : Str} {a b : Nat} (hx : PyData.strOk x = true) (hy : PyData.strOk y = true) (lx : x.length ≤ a) (ly : y.length ≤ b) (hab : a + b ≤ 900) : Good (x ++ y) := by
  refine ⟨strOk_iff.mpr fun c hc => ?_, by rw [Str.length_append]; omega⟩
  rw [Str.cps_append, Array.toList_append] at hc
  rcases List.mem_append.mp hc with h | h
  · exact strOk_iff.mp hx c h
  · exact strOk_iff.mp hy c h
theorem take_ok {x : Str} (h : PyData.strOk x = true) (n : Nat) : PyData.strOk (takeS x n) = true ∧ (takeS x n).length ≤ x.length ∧ (takeS x n).length ≤ n := by
  have e : (takeS x n).cps.toList = x.cps.toList.take n := by simp [takeS]
  refine ⟨strOk_iff.mpr fun c hc => strOk_iff.mp h c (List.mem_of_mem_take (by rw [e] at hc; exact hc)), ?_, ?_⟩
  · rw [← len_list, ← len_list, e, List.length_take]; omega
  · rw [← len_list, e, List.length_take]; omega
theorem drop_ok {x : Str} (h : PyData.strOk x = true) (n : Nat) : PyData.strOk (dropS x n) = true ∧ (dropS x n).length + min n x.length = x.length := by
  have e : (dropS x n).cps.toList = x.cps.toList.drop n := by simp [dropS]
  refine ⟨strOk_iff.mpr fun c hc => strOk_iff.mp h c (List.mem_of_mem_drop (by rw [e] at hc; exact hc)), ?_⟩
  rw [← len_list, ← len_list x, e, List.length_drop]; omega
section
variable {μ : MH}
theorem add_strs {x y : Str} (h : x.length + y.length ≤ 10000) : addM (.str x) (.str y) μ = .ok (.str (x ++ y)) μ := if_pos (by unfold sizeLine; omega)
abbrev signs1 : Str := Str.ofString " !\"#$&'()*+,-./0123456789:;<=>?@ABCDEFGHIJKLMNOPQRSTUVWXYZ[\\]^_`"
abbrev signs2 : Str := Str.ofString "abcdefghijklmnopqrstuvwxyz{|}~\n\t"
theorem signs_len : (signs1 ++ signs2).length = 96 := by decide +kernel
theorem signs_ok : ∀ c ∈ (signs1 ++ signs2).cps.toList, c < 0x110000 := by decide +kernel
theorem changed_eq {x : Str} {c : Int} (hx : PyData.strOk x = true) (hl : x.length ≤ 800) : ∃ y, f__law_changed [.str x, .int c] μ = .ok (.str y) μ ∧ Good y := by
  obtain ⟨a, ha, hal⟩ := fmod_nat (c.fdiv 3) (b := x.length + 1) (by omega)
  have ha' : (c.fdiv 3).fmod ((x.length : Int) + 1) = (a : Int) := by rw [← ha]; congr 1
  obtain ⟨b, hb, hbl⟩ := fmod_nat (c.fdiv 7) (b := 96) (by decide)
  have hb' : (c.fdiv 7).fmod 96 = (b : Int) := hb
  have hz : ((x.length : Int) + 1) ≠ 0 := by omega
  have D3 := fdiv_int (μ := μ) c (show (0 : Int) < 3 ∧ (3 : Int) < 2 ^ 30 by decide)
  have D7 := fdiv_int (μ := μ) c (show (0 : Int) < 7 ∧ (7 : Int) < 2 ^ 30 by decide)
  have M3 := fmod_int (μ := μ) c (show (3 : Int) ≠ 0 by decide)
  have M96 := fmod_int (μ := μ) (c.fdiv 7) (show (96 : Int) ≠ 0 by decide)
  have Ml := fmod_int (μ := μ) (c.fdiv 3) hz
  rw [ha'] at Ml
  rw [hb'] at M96
  have el : lenM [.str x] μ = .ok (.int x.length) μ := if_pos (by omega)
  have hs := signs_len
  have hsum : addM (.str signs1) (.str signs2) μ = .ok (.str (signs1 ++ signs2)) μ := add_strs (by rw [← Str.length_append]; omega)
  obtain ⟨z, hz'⟩ : ∃ z, (signs1 ++ signs2).cps.toList[b]? = some z := by
    have : b < (signs1 ++ signs2).cps.toList.length := by rw [len_list, hs]; exact hbl
    exact ⟨_, List.getElem?_eq_getElem this⟩
  have hix := idxS_ok (μ := μ) hz' (by omega)
  have hzo : PyData.strOk ⟨#[z]⟩ = true := strOk_iff.mpr (by simpa using signs_ok z (List.mem_of_getElem? hz'))
  have hzl : (⟨#[z]⟩ : Str).length = 1 := rfl
  have c1 := cutToS_ok (μ := μ) (x := x) (n := a) (by omega) (by omega)
  have c2 := cutFromS_ok (μ := μ) (x := x) (n := a) (by omega)
  have c3 : cutFromS (.str x) (.int ((a : Int) + 1)) μ = .ok (.str (dropS x (a + 1))) μ := cutFromS_ok (n := a + 1) (by omega)
  obtain ⟨t1, t2, t3⟩ := take_ok hx a
  obtain ⟨d1, d2⟩ := drop_ok hx a
  obtain ⟨d3, d4⟩ := drop_ok hx (a + 1)
  have a1 := add_strs (μ := μ) (x := takeS x a) (y := ⟨#[z]⟩) (by omega)
  have a2 := add_strs (μ := μ) (x := takeS x a ++ ⟨#[z]⟩) (y := dropS x a) (by rw [Str.length_append]; omega)
  have a3 := add_strs (μ := μ) (x := takeS x a) (y := dropS x (a + 1)) (by omega)
  have a4 := add_strs (μ := μ) (x := takeS x a ++ ⟨#[z]⟩) (y := dropS x (a + 1)) (by rw [Str.length_append]; omega)
  have g1 : Good (takeS x a ++ ⟨#[z]⟩) := good_app t1 hzo (Nat.le_trans t2 hl) (Nat.le_of_eq hzl) (by decide)
  have hG : ∀ {u v : Str}, PyData.strOk u = true → PyData.strOk v = true → u.length + v.length ≤ 900 → Good (u ++ v) := fun h1 h2 h3 => good_app h1 h2 (Nat.le_refl _) (Nat.le_refl _) h3
  have el1 : (takeS x a ++ ⟨#[z]⟩).length = (takeS x a).length + 1 := by rw [Str.length_append, hzl]
  rw [f__law_changed, ev_def (k := 2) rfl]
  by_cases h0 : c.fmod 3 = 0
  · refine ⟨takeS x a ++ ⟨#[z]⟩ ++ dropS x a, ?_, hG g1.ok d1 (by omega)⟩
    simp [d__law_changed, ev_var, hsum, D3, D7, M3, el, Ml, M96, hix, h0, c1, c2, a1, a2]
  · have h0' : (c.fmod 3 == 0) = false := by simpa using h0
    by_cases h1 : c.fmod 3 = 1
    · refine ⟨takeS x a ++ dropS x (a + 1), ?_, hG t1 d3 (by omega)⟩
      simp [d__law_changed, ev_var, hsum, D3, D7, M3, el, Ml, M96, hix, h1, c1, c3, a3]
    · have h1' : (c.fmod 3 == 1) = false := by simpa using h1
      refine ⟨takeS x a ++ ⟨#[z]⟩ ++ dropS x (a + 1), ?_, hG g1.ok d3 (by omega)⟩
      simp [d__law_changed, ev_var, hsum, D3, D7, M3, el, Ml, M96, hix, h0', h1', c1, c3, a1, a4]

/-! odd texts -/
abbrev odd1 : List Str := [Str.ofString "", Str.ofString " ", Str.ofString "|", Str.ofString " | ", Str.ofString " |  |  | ", Str.ofString "fence;", Str.ofString "; fence", Str.ofString "fence ", Str.ofString " fence", Str.ofString "fence fence", Str.ofString "get 4", Str.ofString "get -1"]
abbrev odd2 : List Str := [Str.ofString "get", Str.ofString "get 00", Str.ofString "put 0", Str.ofString "put 0 01", Str.ofString "put 0 -0", Str.ofString "put 0 +1", Str.ofString "put 4 1", Str.ofString "put 0 1;get 1", Str.ofString "Get 0"]
abbrev odd3 : List Str := [Str.ofString "put 0 1" ++ Txt.mul (Str.ofString "0") 30, Txt.mul (Str.ofString "get 0; ") 8 ++ Str.ofString "get 0", Str.ofString "put 0 1 |get 0"]
theorem mulOk1 : MulOk (Str.ofString "0") 30 := ⟨by decide, fun _ _ => by decide +kernel, fun _ _ => by decide +kernel⟩
theorem mulOk2 : MulOk (Str.ofString "get 0; ") 8 := ⟨by decide, fun _ _ => by decide +kernel, fun _ _ => by decide +kernel⟩
noncomputable def goodB (x : Str) : Bool := x.cps.toList.all (fun c => decide (c < 0x110000)) && decide (x.length ≤ 900)
theorem good_of {x : Str} (h : goodB x = true) : Good x := by
  unfold goodB at h
  rw [Bool.and_eq_true] at h
  exact ⟨strOk_iff.mpr fun c hc => of_decide_eq_true (List.all_eq_true.mp h.1 c hc), of_decide_eq_true h.2⟩
theorem odds_good : (odd1 ++ odd2 ++ odd3).all goodB = true := by decide +kernel
theorem odd_eq {c : Int} : ∃ y μ', f__law_odd [.int c] μ = .ok (.str y) μ' ∧ μ <+: μ' ∧ Good y := by
  have m1 : ∀ ν : MH, mulM (.str (Str.ofString "0")) (.int 30) ν = .ok (.str (Txt.mul (Str.ofString "0") 30)) ν := fun ν => if_pos mulOk1
  have m2 : ∀ ν : MH, mulM (.str (Str.ofString "get 0; ")) (.int 8) ν = .ok (.str (Txt.mul (Str.ofString "get 0; ") 8)) ν := fun ν => if_pos mulOk2
  have s1 : ∀ ν : MH, addM (.str (Str.ofString "put 0 1")) (.str (Txt.mul (Str.ofString "0") 30)) ν = .ok (.str (Str.ofString "put 0 1" ++ Txt.mul (Str.ofString "0") 30)) ν := fun ν => add_strs (by decide +kernel)
  have s2 : ∀ ν : MH, addM (.str (Txt.mul (Str.ofString "get 0; ") 8)) (.str (Str.ofString "get 0")) ν = .ok (.str (Txt.mul (Str.ofString "get 0; ") 8 ++ Str.ofString "get 0")) ν := fun ν => add_strs (by decide +kernel)
  obtain ⟨b, hb, hbl⟩ := fmod_nat c (b := 24) (by decide)
  have hb' : c.fmod 24 = (b : Int) := hb
  have hbl' : b < (odd1 ++ odd2 ++ odd3).length := hbl
  have M24 := fun ν : MH => fmod_int (μ := ν) c (show (24 : Int) ≠ 0 by decide)
  -- the three lists and their sums
  obtain ⟨μ₁, hμ₁⟩ : ∃ μ₁, μ₁ = μ ++ [odd1.map MV.str] := ⟨_, rfl⟩
  have k1 : μ₁[μ.length]? = some (odd1.map MV.str) := by rw [hμ₁]; exact get_last _
  obtain ⟨μ₂, hμ₂⟩ : ∃ μ₂, μ₂ = μ₁ ++ [odd2.map MV.str] := ⟨_, rfl⟩
  have k2 : μ₂[μ₁.length]? = some (odd2.map MV.str) := by rw [hμ₂]; exact get_last _
  have k1' : μ₂[μ.length]? = some (odd1.map MV.str) := by rw [hμ₂]; exact get_pre (pre_app _ _) k1
  have ad1 := add_lst k1' k2 (by unfold sizeLine; simp)
  obtain ⟨μ₃, hμ₃⟩ : ∃ μ₃, μ₃ = μ₂ ++ [odd1.map MV.str ++ odd2.map MV.str] := ⟨_, rfl⟩
  rw [← hμ₃] at ad1
  have k3 : μ₃[μ₂.length]? = some (odd1.map MV.str ++ odd2.map MV.str) := by rw [hμ₃]; exact get_last _
  obtain ⟨μ₄, hμ₄⟩ : ∃ μ₄, μ₄ = μ₃ ++ [odd3.map MV.str] := ⟨_, rfl⟩
  have k4 : μ₄[μ₃.length]? = some (odd3.map MV.str) := by rw [hμ₄]; exact get_last _
  have k3' : μ₄[μ₂.length]? = some (odd1.map MV.str ++ odd2.map MV.str) := by rw [hμ₄]; exact get_pre (pre_app _ _) k3
  have ad2 := add_lst k3' k4 (by unfold sizeLine; simp)
  obtain ⟨μ₅, hμ₅⟩ : ∃ μ₅, μ₅ = μ₄ ++ [odd1.map MV.str ++ odd2.map MV.str ++ odd3.map MV.str] := ⟨_, rfl⟩
  rw [← hμ₅] at ad2
  have k5 : μ₅[μ₄.length]? = some ((odd1 ++ odd2 ++ odd3).map MV.str) := by rw [hμ₅, List.map_append, List.map_append]; exact get_last _
  have hix : idxM (.lst μ₄.length) (.int b) μ₅ = .ok (.str ((odd1 ++ odd2 ++ odd3)[b])) μ₅ := idx_lst k5 (by rw [List.getElem?_map, List.getElem?_eq_getElem hbl']; rfl) (by omega)
  have pp : μ <+: μ₅ := by
    rw [hμ₅, hμ₄, hμ₃, hμ₂, hμ₁]
    exact (((pre_app _ _).trans (pre_app _ _)).trans (pre_app _ _)).trans ((pre_app _ _).trans (pre_app _ _))
  refine ⟨_, μ₅, ?_, pp, good_of (List.all_eq_true.mp odds_good _ (List.getElem_mem hbl'))⟩
  have L1 : ∀ ρ : Rho, dList (dCons (dConst (.str (Str.ofString ""))) (dCons (dConst (.str (Str.ofString " "))) (dCons (dConst (.str (Str.ofString "|"))) (dCons (dConst (.str (Str.ofString " | "))) (dCons (dConst (.str (Str.ofString " |  |  | "))) (dCons (dConst (.str (Str.ofString "fence;"))) (dCons (dConst (.str (Str.ofString "; fence"))) (dCons (dConst (.str (Str.ofString "fence "))) (dCons (dConst (.str (Str.ofString " fence"))) (dCons (dConst (.str (Str.ofString "fence fence"))) (dCons (dConst (.str (Str.ofString "get 4"))) (dCons (dConst (.str (Str.ofString "get -1"))) dNil)))))))))))) ρ μ = .ok (.lst μ.length) μ₁ := fun ρ => by rw [hμ₁]; rfl
  have L2 : ∀ ρ : Rho, dList (dCons (dConst (.str (Str.ofString "get"))) (dCons (dConst (.str (Str.ofString "get 00"))) (dCons (dConst (.str (Str.ofString "put 0"))) (dCons (dConst (.str (Str.ofString "put 0 01"))) (dCons (dConst (.str (Str.ofString "put 0 -0"))) (dCons (dConst (.str (Str.ofString "put 0 +1"))) (dCons (dConst (.str (Str.ofString "put 4 1"))) (dCons (dConst (.str (Str.ofString "put 0 1;get 1"))) (dCons (dConst (.str (Str.ofString "Get 0"))) dNil))))))))) ρ μ₁ = .ok (.lst μ₁.length) μ₂ := fun ρ => by rw [hμ₂]; rfl
  have L3 : ∀ ρ : Rho, dList (dCons (dBin addM (dConst (.str (Str.ofString "put 0 1"))) (dBin mulM (dConst (.str (Str.ofString "0"))) (dConst (.int 30)))) (dCons (dBin addM (dBin mulM (dConst (.str (Str.ofString "get 0; "))) (dConst (.int 8))) (dConst (.str (Str.ofString "get 0")))) (dCons (dConst (.str (Str.ofString "put 0 1 |get 0"))) dNil))) ρ μ₃ = .ok (.lst μ₃.length) μ₄ := fun ρ => by
    rw [hμ₄]
    simp only [ev_list, ev_cons, ev_bin, ev_const, binK_ok, binK2_ok, m1, m2, s1, s2, consK_ok, ev_nil, consK2_ok, listK_ok]
    rfl
  rw [f__law_odd, ev_def (k := 1) rfl]
  unfold d__law_odd
  simp only [ev_seq, ev_assign, L1, asgK_ok, seqK_next, ev_bin addM (dVar 1) _, ev_var (rho_set_self ..), binK_ok, L2, binK2_ok, ad1, L3, ad2, ev_ret, ev_bin idxM _ _, ev_bin fmodM _ _]
  rw [ev_var (show (Rho.set (Rho.set (Rho.set (fun i => [MV.int c][i]?) 1 (.lst μ.length)) 1 (.lst μ₂.length)) 1 (.lst μ₄.length)) 0 = some (.int c) by simp)]
  simp only [binK_ok, ev_const, binK2_ok, M24, hb', hix, retK_ok, seqK_ret, defK_ret]
end
end Mine.L12

set_option linter.unusedVariables false
set_option linter.unusedSimpArgs false
namespace Mine.L12
open PySem PySem.StrLaws PySem.NumText PyProof.Rows Mine Mine.Com

/-! numbers that were read are small -/
theorem digitsVal_lt : ∀ {l : List Nat}, AllDigits l → digitsVal l < 10 ^ l.length := by
  have key : ∀ (l : List Nat) (a : Nat), AllDigits l → l.foldl (fun acc c => acc * 10 + (c - 48)) a < (a + 1) * 10 ^ l.length := by
    intro l
    induction l with
    | nil => intro a _; simp
    | cons c r ih =>
      intro a h
      have h1 := h.head
      have := ih (a * 10 + (c - 48)) h.tail
      rw [List.foldl_cons, List.length_cons]
      have e : (a + 1) * 10 ^ (r.length + 1) = ((a + 1) * 10) * 10 ^ r.length := by rw [Nat.pow_succ, Nat.mul_comm (10 ^ r.length) 10, ← Nat.mul_assoc]
      rw [e]
      exact Nat.lt_of_lt_of_le this (Nat.mul_le_mul_right _ (by omega))
  intro l h
  have := key l 0 h
  simpa [digitsVal] using this
theorem pNum_fin {w : Str} {i : Int} (h : pNum w = some i) : -ten30 < i ∧ i < ten30 := by
  unfold pNum at h
  split at h
  · rename_i hn
    cases h
    have pw : ∀ n, n ≤ 30 → 10 ^ n ≤ 10 ^ 30 := fun n hn => Nat.pow_le_pow_right (by decide) hn
    rcases num_cases hn with ⟨r, e, _, h1, h2, h3, hv⟩ | ⟨_, h1, h2, h3, hv⟩
    · have := digitsVal_lt h3
      have := pw _ h2
      rw [hv]; unfold ten30; omega
    · have := digitsVal_lt h3
      have := pw _ h2
      rw [hv]; unfold ten30; omega
  · cases h
theorem pStep_rsOk {q : Str} {r : RS} (h : pStep q = some r) : rsOk r = r.box := by
  rcases pStepW_cases h with ⟨_, rfl⟩ | ⟨a, i, _, h1, rfl⟩ | ⟨a, b, i, j, _, h1, h2, rfl⟩
  · rfl
  · rfl
  · obtain ⟨k1, k2⟩ := pNum_fin h2
    show (boxI i && (decide (-ten30 < j) && decide (j < ten30))) = boxI i
    rw [decide_eq_true k1, decide_eq_true k2]; simp
theorem due_read (x : Str) : dueOk x = readOk x := by
  have hpos := split_pos x sp3
  have hbad : (Txt.split x sp3).any rowBad = false ↔ ∀ p ∈ Txt.split x sp3, ∀ q ∈ partsR p, (dStep q).isSome = true := by
    constructor
    · intro h p hp q hq
      cases e : dStep q with
      | some r => rfl
      | none =>
        have : (Txt.split x sp3).any rowBad = true := List.any_eq_true.mpr ⟨p, hp, List.any_eq_true.mpr ⟨q, hq, by rw [e]; rfl⟩⟩
        rw [this] at h; cases h
    · intro h
      cases e : (Txt.split x sp3).any rowBad with
      | false => rfl
      | true =>
        obtain ⟨p, hp, hb⟩ := List.any_eq_true.mp e
        obtain ⟨q, hq, hn⟩ := List.any_eq_true.mp hb
        have := h p hp q hq
        cases e2 : dStep q with
        | some r => rw [e2] at hn; cases hn
        | none => rw [e2] at this; cases this
  have hlen : (webD x).length = (Txt.split x sp3).length := by unfold webD; rw [List.length_map]
  have hall : webOkP x = true → ((webD x).all (fun row => row.all rsOk) = true ↔ ∀ p ∈ Txt.split x sp3, ∀ q ∈ partsR p, (stepD q).box = true) := fun ok => by
    have hok : ∀ p ∈ Txt.split x sp3, ∀ q ∈ partsR p, rsOk (stepD q) = (stepD q).box := fun p hp q hq => pStep_rsOk (stepD_of (List.all_eq_true.mp (List.all_eq_true.mp ok p hp) q hq))
    constructor
    · intro h p hp q hq
      rw [← hok p hp q hq]
      exact List.all_eq_true.mp (List.all_eq_true.mp h (rowD p) (List.mem_map.mpr ⟨p, hp, rfl⟩)) (stepD q) (List.mem_map.mpr ⟨q, hq, rfl⟩)
    · intro h
      refine List.all_eq_true.mpr fun row hrow => ?_
      obtain ⟨p, hp, rfl⟩ := List.mem_map.mp hrow
      refine List.all_eq_true.mpr fun r hr => ?_
      obtain ⟨q, hq, rfl⟩ := List.mem_map.mp hr
      rw [hok p hp q hq]; exact h p hp q hq
  rw [Bool.eq_iff_iff]
  unfold dueOk readOk webV
  simp only [Bool.and_eq_true, decide_eq_true_eq, Bool.not_eq_true', hbad, due_iff, hlen]
  constructor
  · rintro ⟨h1, ⟨ok, hb, ht⟩, h8⟩
    exact ⟨ok, ⟨⟨⟨hpos, h1⟩, (hall ok).mpr hb⟩, h8⟩, ht⟩
  · rintro ⟨ok, ⟨⟨⟨_, h1⟩, ha⟩, h8⟩, ht⟩
    exact ⟨h1, ⟨ok, (hall ok).mp ha, ht⟩, h8⟩

/-! the end of the law: what is due is read -/
noncomputable def dLawTail : DS := (dSeq (dAssign 6 (dCall f__law_due (dCons (dVar 2) dNil))) (dSeq (dAssign 7 (dCall f__law_read (dCons (dVar 2) dNil))) (dSeq (dIfS (dBin isNoneM (dVar 6) (dConst .none)) (dSeq (dRet (dBin isNoneM (dVar 7) (dConst .none))) dSkip) dSkip) (dSeq (dRet (dCall f__law_same (dCons (dVar 7) (dCons (dVar 6) dNil)))) dSkip))))
section
variable {μ : MH}
theorem isNone_lst (k : Nat) : isNoneM (.lst k) .none μ = .ok (.bool false) μ := (rfl)
theorem isNone_none : isNoneM .none .none μ = .ok (.bool true) μ := (rfl)
theorem tail_eq {x : Str} {ρ : Rho} (g : Good x) (h2 : ρ 2 = some (.str x)) : ∃ μ', defK (dLawTail ρ μ) = .ok (.bool true) μ' := by
  have hdr := due_read x
  rcases law_due_eq (μ := μ) g with ⟨k, rs, μ₁, hd, e, p, w⟩ | ⟨μ₁, hd, e, p⟩
  · rcases read_eq (μ := μ₁) g with ⟨v, μ₂, hok, e2, p2, k2, rs2, rfl, w2⟩ | ⟨μ₂, hok, e2, p2⟩
    · obtain ⟨μ₃, e3, p3⟩ := same_eq w2 (w.mono p2)
      refine ⟨μ₃, ?_⟩
      simp [dLawTail, ev_var, h2, e, law_read_ok e2, isNone_lst, e3]
    · rw [hd, hok] at hdr; cases hdr
  · rcases read_eq (μ := μ₁) g with ⟨v, μ₂, hok, e2, p2, k2, rs2, rfl, w2⟩ | ⟨μ₂, hok, e2, p2⟩
    · rw [hd, hok] at hdr; cases hdr
    · refine ⟨μ₂, ?_⟩
      simp [dLawTail, ev_var, h2, e, law_read_exc e2, isNone_none]

noncomputable def dLaw2 : DS := (dSeq (dAssign 5 (dCall f__law_cell_at (dCons (dVar 0) (dCons (dConst (.int 1)) dNil)))) (dSeq (dIfS (dBin eqM (dBin fmodM (dVar 5) (dConst (.int 4))) (dConst (.int 3))) (dSeq (dRet (dBin isNoneM (dCall f__law_read (dCons (dBin idxM (dList (dCons (dConst .none) (dCons (dConst (.int 5)) (dCons (dList (dCons (dConst (.str (Str.ofString "get 0"))) dNil)) (dCons (dConst (.bool true)) dNil))))) (dBin fmodM (dBin fdivM (dVar 5) (dConst (.int 4))) (dConst (.int 4)))) dNil)) (dConst .none))) dSkip) dSkip) (dSeq (dIfS (dBin eqM (dBin fmodM (dVar 5) (dConst (.int 4))) (dConst (.int 2))) (dSeq (dAssign 2 (dCall f__law_odd (dCons (dBin fdivM (dVar 5) (dConst (.int 4))) dNil))) dSkip) dSkip) (dSeq (dIfS (dBin eqM (dBin fmodM (dVar 5) (dConst (.int 4))) (dConst (.int 1))) (dSeq (dAssign 2 (dCall f__law_changed (dCons (dVar 2) (dCons (dBin fdivM (dVar 5) (dConst (.int 4))) dNil)))) dSkip) dSkip) dLawTail))))
theorem law2_eq {T : Str} {ns : List Int} {ρ : Rho} (g : Good T) (hT : T.length ≤ 800) (hns : ns.length ≤ 1000) (h0 : ρ 0 = some (.scr ns)) (h2 : ρ 2 = some (.str T)) : ∃ μ', defK (dLaw2 ρ μ) = .ok (.bool true) μ' := by
  have c1 : f__law_cell_at [.scr ns, .int 1] μ = .ok (.int (ns[1]?.getD 0)) μ := cell_at_eq (n := 1) hns (by decide)
  generalize ns[1]?.getD 0 = c at c1
  have M4 : ∀ (ν : MH) (c : Int), fmodM (.int c) (.int 4) ν = .ok (.int (c.fmod 4)) ν := fun ν c => fmod_int (μ := ν) c (by decide)
  have D4 : ∀ ν : MH, fdivM (.int c) (.int 4) ν = .ok (.int (c.fdiv 4)) ν := fun ν => fdiv_int (μ := ν) c (by decide)
  obtain ⟨m, hm, hml⟩ := fmod_nat c (b := 4) (by decide)
  have hm' : c.fmod 4 = (m : Int) := hm
  rcases (by omega : m = 3 ∨ m = 2 ∨ m = 1 ∨ m = 0) with rfl | rfl | rfl | rfl
  · -- what is no text
    obtain ⟨b, hb, hbl⟩ := fmod_nat (c.fdiv 4) (b := 4) (by decide)
    have hb' : (c.fdiv 4).fmod 4 = (b : Int) := hb
    obtain ⟨μ₁, hμ₁⟩ : ∃ μ₁, μ₁ = μ ++ [[MV.str (Str.ofString "get 0")]] := ⟨_, rfl⟩
    obtain ⟨μ₂, hμ₂⟩ : ∃ μ₂, μ₂ = μ₁ ++ [[MV.none, .int 5, .lst μ.length, .bool true]] := ⟨_, rfl⟩
    have k2 : μ₂[μ₁.length]? = some [MV.none, .int 5, .lst μ.length, .bool true] := by rw [hμ₂]; exact get_last _
    have L : ∀ ρ : Rho, dList (dCons (dConst .none) (dCons (dConst (.int 5)) (dCons (dList (dCons (dConst (.str (Str.ofString "get 0"))) dNil)) (dCons (dConst (.bool true)) dNil)))) ρ μ = .ok (.lst μ₁.length) μ₂ := fun ρ => by rw [hμ₂, hμ₁]; rfl
    have hv : ∃ v, [MV.none, .int 5, .lst μ.length, .bool true][b]? = some v ∧ ∀ ν : MH, isiM .str v ν = .ok (.bool false) ν := by
      rcases (by omega : b = 0 ∨ b = 1 ∨ b = 2 ∨ b = 3) with rfl | rfl | rfl | rfl
      · exact ⟨_, rfl, fun ν => rfl⟩
      · exact ⟨_, rfl, fun ν => rfl⟩
      · exact ⟨_, rfl, fun ν => rfl⟩
      · exact ⟨_, rfl, fun ν => rfl⟩
    obtain ⟨v, hv1, hv2⟩ := hv
    have hix : idxM (.lst μ₁.length) (.int b) μ₂ = .ok v μ₂ := idx_lst k2 hv1 (by omega)
    have hrd := law_read_exc (read_odd (hv2 μ₂))
    refine ⟨μ₂, ?_⟩
    unfold dLaw2
    simp only [ev_seq, ev_assign, ev_call, ev_cons, ev_var h0, ev_const, ev_nil, consK_ok, consK2_ok, Out.bind_ok, c1, asgK_ok, seqK_next, ev_ifs, ev_bin eqM _ _, ev_bin fmodM _ _, ev_var (rho_set_self ..), binK_ok, binK2_ok, M4, hm', eq_int]
    simp only [show (((3 : Nat) : Int) == 3) = true from rfl, ifK_true, ev_seq, ev_ret, ev_bin isNoneM _ _, ev_call, ev_cons, ev_bin idxM _ _, L, binK_ok, ev_bin fmodM _ _, ev_bin fdivM _ _, ev_var (rho_set_self ..), ev_const, binK2_ok, D4, M4, hb', hix, consK_ok, ev_nil, consK2_ok, Out.bind_ok, hrd, isNone_none, retK_ok, seqK_ret, defK_ret]
  · obtain ⟨y, μ₁, e1, p1, gy⟩ := odd_eq (μ := μ) (c := c.fdiv 4)
    obtain ⟨μ', e⟩ := tail_eq (μ := μ₁) (ρ := Rho.set (Rho.set ρ 5 (.int c)) 2 (.str y)) gy (by simp)
    refine ⟨μ', ?_⟩
    simp [dLaw2, ev_var, h0, c1, M4, D4, hm', e1]
    exact e
  · obtain ⟨y, e1, gy⟩ := changed_eq (μ := μ) (c := c.fdiv 4) g.ok hT
    obtain ⟨μ', e⟩ := tail_eq (μ := μ) (ρ := Rho.set (Rho.set ρ 5 (.int c)) 2 (.str y)) gy (by simp)
    refine ⟨μ', ?_⟩
    simp [dLaw2, ev_var, h0, h2, c1, M4, D4, hm', e1]
    exact e
  · obtain ⟨μ', e⟩ := tail_eq (μ := μ) (ρ := Rho.set ρ 5 (.int c)) g (by simp [h2])
    refine ⟨μ', ?_⟩
    simp [dLaw2, ev_var, h0, c1, M4, hm']
    exact e
end

/-! the web of a script -/
noncomputable def stR : Com.St → RS
  | .put b v => .put b v
  | .get b => .get b
  | .fence => .fence
theorem st_mv (s : Com.St) : s.mv = rsMv (stR s) := by cases s <;> rfl
noncomputable def webS (W : List (List Com.St)) : List (List RS) := W.map fun row => row.map stR
theorem webAt_r {μ : MH} {k : Nat} {rs : List Nat} {W : List (List Com.St)} (h : WebAt μ k rs W) : WebR μ k rs (webS W) := by
  refine ⟨h.top, by unfold webS; rw [List.length_map]; exact h.len, fun i r row h1 h2 => ?_⟩
  unfold webS at h2
  obtain ⟨row', hr, rfl⟩ := map_get h2
  rw [h.row i r row' h1 hr, List.map_map]
  congr 1
  exact List.map_congr_left fun s _ => st_mv s
theorem st_ok {s : Com.St} (h : s.ok) : rsOk (stR s) = true := by
  cases s with
  | put b v =>
    obtain ⟨h1, h2, h3⟩ := h
    unfold big at h2 h3
    show (boxI b && (decide (-ten30 < v) && decide (v < ten30))) = true
    unfold boxI ten30
    simp
    omega
  | get b =>
    have h1 : b < 4 := h
    show boxI b = true
    unfold boxI
    simp
    omega
  | fence => rfl
theorem rdeeds_st (row : List Com.St) : rdeeds (row.map stR) = deeds row := by
  unfold rdeeds deeds
  rw [List.filter_map, List.length_map]
  congr 1
  refine List.filter_congr fun s _ => ?_
  cases s <;> rfl
theorem webS_ok {W : List (List Com.St)} (ok : WebOk W) : webV (webS W) = true := by
  have hl : (webS W).length = W.length := by unfold webS; rw [List.length_map]
  have hs : (webS W).map rdeeds = W.map deeds := by unfold webS; rw [List.map_map]; exact List.map_congr_left fun row _ => rdeeds_st row
  have ha : (webS W).all (fun row => row.all rsOk) = true := by
    refine List.all_eq_true.mpr fun row hrow => ?_
    obtain ⟨r, hr, rfl⟩ := List.mem_map.mp hrow
    refine List.all_eq_true.mpr fun z hz => ?_
    obtain ⟨s, hs, rfl⟩ := List.mem_map.mp hz
    exact st_ok (ok.ok r hr s hs)
  unfold webV
  rw [hl, hs, ha, decide_eq_true ok.one, decide_eq_true ok.three, decide_eq_true ok.few]; rfl
theorem numT_len {i : Int} (h1 : -ten30 < i) (h2 : i < ten30) : (numT i).length ≤ 31 := by
  have h := num_back h1 h2
  unfold pNum at h
  split at h
  · rename_i hn; exact len_le hn
  · cases h
theorem text_le {r : RS} (h : r.fin) : r.text.length ≤ 67 := by
  have h1 : sp1.length = 1 := by decide +kernel
  cases r with
  | put b v =>
    have e : (RS.put b v).text.length = wPut.length + sp1.length + (Str.join sp1 [numT b, numT v]).length := join_len _ _ _ _
    have e2 : (Str.join sp1 [numT b, numT v]).length = (numT b).length + sp1.length + (numT v).length := join_len _ _ _ _
    have h3 : wPut.length = 3 := by decide +kernel
    have a := numT_len h.1.1 h.1.2
    have b := numT_len h.2.1 h.2.2
    omega
  | get b =>
    have e : (RS.get b).text.length = wGet.length + sp1.length + (numT b).length := join_len _ _ _ _
    have h3 : wGet.length = 3 := by decide +kernel
    have a := numT_len h.1 h.2
    omega
  | fence => exact (by decide +kernel : wFence.length ≤ 67)
theorem join_le {y : Str} {α : Type} {f : α → Str} {n : α → Nat} : ∀ {l : List α}, (∀ a ∈ l, (f a).length + y.length ≤ n a) → (Str.join y (l.map f)).length ≤ (l.map n).sum
  | [], _ => by simp [Str.join, Str.empty, Str.length]
  | [a], h => by
    have := h a (List.mem_singleton.mpr rfl)
    show (f a).length ≤ n a + 0
    omega
  | a :: b :: l, h => by
    have h1 := h a List.mem_cons_self
    have ih := join_le (y := y) (f := f) (n := n) (l := b :: l) fun z hz => h z (List.mem_cons_of_mem _ hz)
    rw [List.map_cons, List.map_cons, join_len]
    rw [List.map_cons] at ih
    rw [List.map_cons, List.sum_cons]
    omega
theorem sum_const {α : Type} (c : Nat) : ∀ l : List α, (l.map fun _ => c).sum = c * l.length
  | [] => rfl
  | a :: l => by rw [List.map_cons, List.sum_cons, sum_const c l, List.length_cons, Nat.mul_succ]; omega
theorem sum_rows : ∀ W : List (List Com.St), (W.map fun row => 69 * row.length + 3).sum = 69 * total W + 3 * W.length
  | [] => rfl
  | row :: W => by
    have := sum_rows W
    unfold total at this ⊢
    rw [List.map_cons, List.sum_cons, this, List.map_cons, List.sum_cons, List.length_cons]
    omega
theorem webT_len {W : List (List Com.St)} (ok : WebOk W) (ht : total W ≤ 8) : (webT (webS W)).length ≤ 800 := by
  have h2 : sp2.length = 2 := by decide +kernel
  have h3 : sp3.length = 3 := by decide +kernel
  have hrow : ∀ row ∈ W, (rowT (row.map stR)).length ≤ 69 * row.length := fun row hr => by
    have := join_le (y := sp2) (f := fun s => (stR s).text) (n := fun _ => 69) (l := row) (fun s hs => by
      have := text_le (rsOk_fin (st_ok (ok.ok row hr s hs)))
      omega)
    rw [sum_const] at this
    unfold rowT
    rw [List.map_map]
    exact this
  have := join_le (y := sp3) (f := fun row : List Com.St => rowT (row.map stR)) (n := fun row => 69 * row.length + 3) (l := W) (fun row hr => by have := hrow row hr; omega)
  rw [sum_rows] at this
  have n3 := ok.three
  unfold webT webS
  rw [List.map_map]
  exact Nat.le_trans this (by omega)

theorem law_true (ns : List Int) (h : ns.length ≤ 63) (hl : (PyData.list (ns.map .int)).layable0 = true) : ∃ μ, f_law [.scr ns] [] = .ok (.bool true) μ := by
  have hns : ns.length ≤ 1000 := by omega
  obtain ⟨μ₁, W, e1, p1, hW, ok, tot⟩ := web_by ns hns hl []
  generalize ([] : MH).length = k at e1 hW
  have hR := webAt_r hW
  have hv := webS_ok ok
  have hlen := webT_len ok tot
  have hv' := hv
  unfold webV at hv'
  simp only [Bool.and_eq_true, decide_eq_true_eq] at hv'
  obtain ⟨⟨⟨v1, v3⟩, va⟩, v8⟩ := hv'
  have hfin : ∀ row ∈ webS W, ∀ r ∈ row, r.fin := fun row hr r hrr => rsOk_fin (List.all_eq_true.mp (List.all_eq_true.mp va row hr) r hrr)
  have hsm : ∀ row ∈ webS W, row.length ≤ 1000 := fun row hr => by
    obtain ⟨r, hrr, rfl⟩ := List.mem_map.mp hr
    have := ok.small r hrr
    rw [List.length_map]; omega
  obtain ⟨μ₂, e2, p2⟩ := text_by_eq hR hfin (by omega) hsm (by omega)
  obtain ⟨μ₃, e3, p3, hH⟩ := comp_copy (i := 8) (ρ := Rho.set (Rho.set (fun i => [MV.scr ns][i]?) 1 (.lst k)) 2 (.str (webT (webS W)))) (hW.mono p2) ok
  obtain ⟨μ₄, e4, p4⟩ := shown_eq (webAt_r hH) hv (by omega) hsm
  have gT : Good (webT (webS W)) := ⟨webT_ok _, by omega⟩
  have hne1 : neM (.str (webT (webS W))) (.str (webT (webS W))) μ₄ = .ok (.bool false) μ₄ := by rw [ne_str gT.ok gT.ok]; simp
  have hne2 := ne_web (hH.mono p4) (hW.mono (p2.trans (p3.trans p4)))
  obtain ⟨b1, b2⟩ := web_back (W := webS W) (fun e => by rw [e] at v1; simp at v1) hfin
  have hro : readOk (webT (webS W)) = true := by unfold readOk; rw [b1, b2, hv, decide_eq_true rfl]; rfl
  rcases read_eq (μ := μ₄) gT with ⟨v, μ₅, hok, e5, p5, k5, rs5, rfl, w5⟩ | ⟨μ₅, hok, e5, p5⟩
  · rw [b2] at w5
    obtain ⟨μ₆, e6, p6⟩ := same_eq w5 (hR.mono (p2.trans (p3.trans (p4.trans p5))))
    have e5' := law_read_ok e5
    obtain ⟨μ', e7⟩ := law2_eq (μ := μ₆) (ns := ns) (ρ := Rho.set (Rho.set (Rho.set (Rho.set (fun i => [MV.scr ns][i]?) 1 (.lst k)) 2 (.str (webT (webS W)))) 3 (.lst μ₂.length)) 4 (.str (webT (webS W)))) gT hlen hns (by simp) (by simp)
    refine ⟨μ', ?_⟩
    rw [f_law, ev_def (k := 1) rfl]
    rw [show d_law = (dSeq (dAssign 1 (dCall f__law_web_by (dCons (dVar 0) dNil))) (dSeq (dAssign 2 (dCall f__law_text_by (dCons (dVar 1) dNil))) (dSeq (dAssign 3 (dComp (iSeq (dVar 1)) (dConst (.bool true)) (dCall listM (dCons (dVar 8) dNil)) 8)) (dSeq (dAssign 4 (dCall f_shown (dCons (dVar 3) dNil))) (dSeq (dIfS (dOr (dNot (dOp1 (isiM .str) (dVar 4))) (dOr (dBin neM (dVar 4) (dVar 2)) (dOr (dBin neM (dVar 3) (dVar 1)) (dNot (dCall f__law_same (dCons (dCall f__law_read (dCons (dVar 2) dNil)) (dCons (dVar 1) dNil))))))) (dSeq (dRet (dConst (.bool false))) dSkip) dSkip) dLaw2))))) from rfl]
    rw [← e7]
    simp [ev_var, e1, e2, itK_lst (hW.mono p2).top, e3, e4, hne1, hne2, e5', e6]
  · rw [hro] at hok; cases hok
end Mine.L12

open PySem PySem.W PyProof.Rows
set_option Elab.async false
set_option maxRecDepth 100000
namespace Mine.L12
noncomputable def fs : List FS := [⟨(Str.ofString "is_whole"), 12, [(Str.ofString "thing")], sg_is_whole⟩, ⟨(Str.ofString "is_box"), 13, [(Str.ofString "thing")], sg_is_box⟩, ⟨(Str.ofString "is_step"), 14, [(Str.ofString "thing")], sg_is_step⟩, ⟨(Str.ofString "need_web"), 15, [(Str.ofString "web")], sg_need_web⟩, ⟨(Str.ofString "step_text"), 18, [(Str.ofString "step")], sg_step_text⟩, ⟨(Str.ofString "shown"), 19, [(Str.ofString "web")], sg_shown⟩, ⟨(Str.ofString "number_of"), 20, [(Str.ofString "word")], sg_number_of⟩, ⟨(Str.ofString "step_of"), 21, [(Str.ofString "text")], sg_step_of⟩, ⟨(Str.ofString "row_of"), 22, [(Str.ofString "text")], sg_row_of⟩, ⟨(Str.ofString "read"), 23, [(Str.ofString "text")], sg_read⟩, ⟨(Str.ofString "_law_cell_at"), 25, [(Str.ofString "_law_script"), (Str.ofString "_law_k")], sg__law_cell_at⟩, ⟨(Str.ofString "_law_number_by"), 26, [(Str.ofString "_law_cell")], sg__law_number_by⟩, ⟨(Str.ofString "_law_step_by"), 27, [(Str.ofString "_law_cell")], sg__law_step_by⟩, ⟨(Str.ofString "_law_web_by"), 28, [(Str.ofString "_law_script")], sg__law_web_by⟩, ⟨(Str.ofString "_law_text_by"), 29, [(Str.ofString "_law_web")], sg__law_text_by⟩, ⟨(Str.ofString "_law_changed"), 30, [(Str.ofString "_law_text"), (Str.ofString "_law_cell")], sg__law_changed⟩, ⟨(Str.ofString "_law_odd"), 31, [(Str.ofString "_law_cell")], sg__law_odd⟩, ⟨(Str.ofString "_law_number"), 32, [(Str.ofString "_law_word")], sg__law_number⟩, ⟨(Str.ofString "_law_step"), 33, [(Str.ofString "_law_text")], sg__law_step⟩, ⟨(Str.ofString "_law_due"), 34, [(Str.ofString "_law_text")], sg__law_due⟩, ⟨(Str.ofString "_law_read"), 35, [(Str.ofString "_law_text")], sg__law_read⟩, ⟨(Str.ofString "_law_same"), 36, [(Str.ofString "_law_found"), (Str.ofString "_law_web")], sg__law_same⟩, ⟨(Str.ofString "law"), 37, [(Str.ofString "_law_script")], sg_law⟩]
noncomputable def gi : List (Str × Int) := [((Str.ofString "BOXES"), 4), ((Str.ofString "MOST_ROWS"), 3), ((Str.ofString "MOST_DEEDS"), 8), ((Str.ofString "TOO_GREAT"), 1000000000000000000000000000000)]
noncomputable def bs : List Str := [(Str.ofString "ValueError"), (Str.ofString "bool"), (Str.ofString "int"), (Str.ofString "isinstance"), (Str.ofString "len"), (Str.ofString "list"), (Str.ofString "range"), (Str.ofString "str"), (Str.ofString "tuple")]
noncomputable def gs : List (Str × Str) := [((Str.ofString "FIGURES"), (Str.ofString "0123456789"))]
noncomputable def look : Hook := hookS (List.range 400) PySem.Challenge.pw_uf030029_12 fs gi gs bs xs
noncomputable def q : Program := view PySem.Challenge.pw_uf030029_12 [1, 2, 3, 4, 5, 6, 8, 9, 10, 11, 12, 13, 14, 15, 17, 18, 19, 20, 21, 22, 23, 25, 26, 27, 28, 29, 30, 31, 32, 33, 34, 35, 36, 37]
noncomputable def lv : List (Str × WData) := [(Str.ofString "TOO_GREAT", .int 1000000000000000000000000000000)]
noncomputable def lo : List Str := [Str.ofString "TOO_GREAT"]
noncomputable def Xt (s : Shared) : Bool := xlAt q lv s && recOk (RowW.records (OpenRow.toRowW PySem.Challenge.rw_uf030029_12.row)) s
set_option linter.unusedVariables false
abbrev pp : Program := PySem.Challenge.pw_uf030029_12
abbrev SS := PySem.Str.ofString
abbrev kh := PySem.PyData.keyHash
noncomputable def fdA (k : Nat) : Arguments := match fnAt pp k with | some (.FunctionDef _ a ..) => a | _ => default
noncomputable def fdB (k : Nat) : List Stmt := match fnAt pp k with | some (.FunctionDef _ _ b ..) => b | _ => []
noncomputable def fdS (k : Nat) : Scope := match fnAt pp k with | some (.FunctionDef _ _ _ _ _ _ s ..) => s | _ => default
theorem seg_q {p : Program} {w : World} {n₀ : Nat} {ann : Option Value} {b n : Nat} {s : SharedT} {l : List Stmt} {env : PySem.Env} {c : Code} {pos : Pos} {B : List Frame} {r : Option (Flow × SharedT × Code × Pos)}
    (h : PySem.W.Fast.tw10110043849684766642 PySem.W.Fast.tw14364793385576792824 p w n₀ ann b n s ⟨(PySem.W.Fast.tw12563942051412417395 l env).wrap doneF deadEnd id id, c, pos, B⟩ = r) : segRunT treeTable p w n₀ ann b n s (piecesOf l env c pos B) = r := by
  show segRunT treeTable p w n₀ ann b n s ⟨(execs l env).wrap doneF deadEnd id id, c, pos, B⟩ = r
  rw [PySem.W.Fast.te10110043849684766642, PySem.W.Fast.te14364793385576792824, PySem.W.Fast.te12563942051412417395]
  exact h
noncomputable def ann0 : Option Value := (some (PySem.Value.ref 6))
noncomputable def env0 : PySem.Env := { scope := pp.main.scope, locals := mainNs, globals := mainNs, cells := [], code := (PySem.Value.ref 13), frame := some 14 }
noncomputable def cod0 : Code := .body (behindTheImports pp) env0
noncomputable def B0 : List Frame := [topFrame (PySem.Pos.mk 0 0 0 0)]
noncomputable def o0 (P : Params) : Obj := (Obj.mk (Value.type "tuple") none (Data.seq #[] 0) #[])
noncomputable def o1 (P : Params) : Obj := (Obj.mk Value.none none (Data.fields #[]) #[])
noncomputable def o2 (P : Params) : Obj := (Obj.mk (Value.type "code") none (Data.fields #[(Value.str (SS "<module>") 182), (Value.str (SS "<module>") 183), (Value.str (SS "/claim/cut.py") 184), (Value.int (1 : Int) 0), (Value.int (0 : Int) 0), (Value.int (0 : Int) 0), (Value.int (0 : Int) 0), (Value.int (0 : Int) 0), (Value.ref 11), (Value.bool false), (Value.int (181 : Int) 0), (Value.ref 12), Value.none, Value.none, Value.none, Value.none, (Value.int (185 : Int) 0), (Value.int (1 : Int) 0), (Value.str (SS "/claim/cut.py") 186)]) #[])
noncomputable def o3 (P : Params) : Obj := (Obj.mk (Value.type "frame") none Data.plain #[(some (Value.ref 13)), (some (Value.ref 3)), (some (Value.ref 3)), none, (some (Value.str (SS "__main__") 164)), none, (some (Value.ref 0))])
noncomputable def Ha (P : Params) : Heap := ⟨#[boot_o_0 P, boot_o_1 P, boot_o_2 P, boot_o_3 P, boot_o_4 P, boot_o_5 P, boot_o_6 P, boot_o_7 P, boot_o_8 P, boot_o_9 P, boot_o_10 P, o0 P, o1 P, o2 P, o3 P], (PySem.Life.mk [] [] [] 0 [] [] false #[] [] 0 false false false (0 : Int) [(2000 : Int), (10 : Int), (10 : Int)] false 0 true [] [] 0 false)⟩
noncomputable def Sa (w : World) (os : OsState) : Shared := ⟨Ha w.params, #[], (PySem.Drawn.mk 0 0 0 0), 187, os⟩
theorem c_pre (w : World) (os : OsState) : topGo treeTable pp w 11 ann0 12 ⟨boot_heap w.params, Array.mk [], boot_drawn, boot_toks, os⟩ (topStub pp) = some (Sa w os, ⟨denote treeTable cod0, cod0, (PySem.Pos.mk 0 0 0 0), B0⟩) := by kernel_rfl
noncomputable def T0 (P : Params) : BT := (BT.node (boot_o_0 P) (BT.node (boot_o_1 P) (BT.node (boot_o_3 P) (BT.node (boot_o_7 P) BT.nil BT.nil) (BT.node (o0 P) BT.nil BT.nil)) (BT.node (boot_o_5 P) (BT.node (boot_o_9 P) BT.nil BT.nil) (BT.node (o2 P) BT.nil BT.nil))) (BT.node (boot_o_2 P) (BT.node (boot_o_4 P) (BT.node (boot_o_8 P) BT.nil BT.nil) (BT.node (o1 P) BT.nil BT.nil)) (BT.node (boot_o_6 P) (BT.node (boot_o_10 P) BT.nil BT.nil) (BT.node (o3 P) BT.nil BT.nil))))
noncomputable def S0 (w : World) (os : OsState) : SharedT := ⟨T0 w.params, 15, (PySem.Life.mk [] [] [] 0 [] [] false #[] [] 0 false false false (0 : Int) [(2000 : Int), (10 : Int), (10 : Int)] false 0 true [] [] 0 false), #[], (PySem.Drawn.mk 0 0 0 0), 187, os⟩
theorem c_blk (w : World) (os : OsState) : segRun treeTable pp w 11 ann0 1 1 (Sa w os) (blockOf (behindTheImports pp) env0 cod0 (PySem.Pos.mk 0 0 0 0) B0) = some (.next, (S0 w os).abs, cod0, (PySem.Pos.mk 0 0 0 0)) := by kernel_rfl
noncomputable def o4 (P : Params) : Obj := (Obj.mk (Value.type "dict") none (Data.dict #[(DictEntry.mk (kh P (SS "__name__")) (Value.str (SS "__name__") 165) (Value.str (SS "fencewright.errors") 187)), (DictEntry.mk (kh P (SS "__doc__")) (Value.str (SS "__doc__") 166) Value.none), (DictEntry.mk (kh P (SS "__package__")) (Value.str (SS "__package__") 167) Value.none), (DictEntry.mk (kh P (SS "__loader__")) (Value.str (SS "__loader__") 168) (Value.builtin "__main__.__loader__#opaque")), (DictEntry.mk (kh P (SS "__spec__")) (Value.str (SS "__spec__") 169) Value.none), (DictEntry.mk (kh P (SS "__annotations__")) (Value.str (SS "__annotations__") 170) (Value.ref 6)), (DictEntry.mk (kh P (SS "__builtins__")) (Value.str (SS "__builtins__") 171) (Value.ref 4)), (DictEntry.mk (kh P (SS "__file__")) (Value.str (SS "__file__") 173) (Value.str (SS "/claim/cut.py") 172)), (DictEntry.mk (kh P (SS "__cached__")) (Value.str (SS "__cached__") 174) Value.none), (DictEntry.mk (kh P (SS "WebError")) (Value.str (SS "WebError") 206) (Value.ref 24))] 10) #[])
noncomputable def o5 (P : Params) : Obj := (Obj.mk Value.none none (Data.fields #[(Value.int (2 : Int) 0), (Value.int (0 : Int) 0), (Value.ref 20)]) #[])
noncomputable def o6 (P : Params) : Obj := (Obj.mk (Value.type "tuple") none (Data.seq #[(Value.type "ValueError")] 0) #[])
noncomputable def o7 (P : Params) : Obj := (Obj.mk (Value.type "builtin_function_or_method") none (Data.fields #[(Value.builtin "type.__prepare__"), (Value.type "type")]) #[])
noncomputable def o8 (P : Params) : Obj := (Obj.mk (Value.type "dict") none (Data.dict #[(DictEntry.mk (kh P (SS "__module__")) (Value.str (SS "__module__") 196) (Value.str (SS "fencewright.errors") 187)), (DictEntry.mk (kh P (SS "__qualname__")) (Value.str (SS "__qualname__") 198) (Value.str (SS "WebError") 197)), (DictEntry.mk (kh P (SS "__firstlineno__")) (Value.str (SS "__firstlineno__") 200) (Value.int (2 : Int) 199)), (DictEntry.mk (kh P (SS "__static_attributes__")) (Value.str (SS "__static_attributes__") 201) (Value.ref 22))] 4) #[])
noncomputable def o9 (P : Params) : Obj := (Obj.mk (Value.type "tuple") none (Data.seq #[] 0) #[])
noncomputable def o10 (P : Params) : Obj := (Obj.mk Value.none none (Data.fields #[]) #[])
noncomputable def o11 (P : Params) : Obj := (Obj.mk (Value.type "code") none (Data.fields #[(Value.str (SS "WebError") 191), (Value.str (SS "WebError") 192), (Value.str (SS "/claim/cut.py") 193), (Value.int (2 : Int) 0), (Value.int (0 : Int) 0), (Value.int (0 : Int) 0), (Value.int (0 : Int) 0), (Value.int (0 : Int) 0), (Value.ref 18), (Value.bool false), (Value.int (181 : Int) 0), (Value.ref 19), Value.none, Value.none, Value.none, Value.none, (Value.int (194 : Int) 0), (Value.int (2 : Int) 0), (Value.str (SS "/claim/cut.py") 195)]) #[])
noncomputable def o12 (P : Params) : Obj := (Obj.mk (Value.type "frame") none Data.plain #[(some (Value.ref 20)), (some (Value.ref 3)), (some (Value.ref 17)), none, (some (Value.str (SS "fencewright.errors") 187)), none, (some (Value.ref 0))])
noncomputable def o13 (P : Params) : Obj := (Obj.mk (Value.type "tuple") none (Data.seq #[] 0) #[])
noncomputable def o14 (P : Params) : Obj := (Obj.mk (Value.type "dict") none (Data.dict #[(DictEntry.mk (kh P (SS "__module__")) (Value.str (SS "__module__") 196) (Value.str (SS "fencewright.errors") 187)), (DictEntry.mk (kh P (SS "__firstlineno__")) (Value.str (SS "__firstlineno__") 200) (Value.int (2 : Int) 199)), (DictEntry.mk (kh P (SS "__static_attributes__")) (Value.str (SS "__static_attributes__") 201) (Value.ref 22)), (DictEntry.mk (kh P (SS "__weakref__")) (Value.str (SS "__weakref__") 203) (Value.ref 25)), (DictEntry.mk (kh P (SS "__doc__")) (Value.str (SS "__doc__") 204) Value.none)] 3) #[])
noncomputable def o15 (P : Params) : Obj := (Obj.mk (Value.type "type") none (Data.cls (PySem.ClassData.mk (SS "WebError") [(Value.type "ValueError")] [(Value.ref 24), (Value.type "ValueError"), (Value.type "Exception"), (Value.type "BaseException"), (Value.type "object")] 23 (SS "WebError") true [] [] false none false)) #[(some (Value.ref 15)), none, (some (Value.str (SS "WebError") 189)), (some (Value.str (SS "WebError") 197)), (some (Value.builtin "ValueError.__new__")), (some (Value.bool true))])
noncomputable def o16 (P : Params) : Obj := (Obj.mk (Value.type "getset_descriptor") none (Data.fields #[(Value.str (SS "__weakref__") 202), (Value.ref 24), (Value.builtin "ExceptionGroup.__weakref__"), Value.none]) #[])
noncomputable def o17 (P : Params) : Obj := (Obj.mk (Value.type "super") none (Data.fields #[(Value.ref 24), (Value.ref 24), (Value.ref 24)]) #[])
noncomputable def o18 (P : Params) : Obj := (Obj.mk (Value.type "builtin_function_or_method") none (Data.fields #[(Value.builtin "object.__init_subclass__"), (Value.ref 24)]) #[])
noncomputable def T1 (P : Params) : BT := (BT.node (boot_o_0 P) (BT.node (boot_o_1 P) (BT.node (o4 P) (BT.node (boot_o_7 P) (BT.node (o6 P) BT.nil BT.nil) (BT.node (o14 P) BT.nil BT.nil)) (BT.node (o0 P) (BT.node (o10 P) BT.nil BT.nil) (BT.node (o18 P) BT.nil BT.nil))) (BT.node (boot_o_5 P) (BT.node (boot_o_9 P) (BT.node (o8 P) BT.nil BT.nil) (BT.node (o16 P) BT.nil BT.nil)) (BT.node (o2 P) (BT.node (o12 P) BT.nil BT.nil) BT.nil))) (BT.node (boot_o_2 P) (BT.node (boot_o_4 P) (BT.node (boot_o_8 P) (BT.node (o7 P) BT.nil BT.nil) (BT.node (o15 P) BT.nil BT.nil)) (BT.node (o5 P) (BT.node (o11 P) BT.nil BT.nil) BT.nil)) (BT.node (boot_o_6 P) (BT.node (boot_o_10 P) (BT.node (o9 P) BT.nil BT.nil) (BT.node (o17 P) BT.nil BT.nil)) (BT.node (o3 P) (BT.node (o13 P) BT.nil BT.nil) BT.nil))))
noncomputable def S1 (w : World) (os : OsState) : SharedT := ⟨T1 w.params, 28, (PySem.Life.mk [] [] [] 0 [] [] false #[] [] 0 false false false (0 : Int) [(2000 : Int), (10 : Int), (10 : Int)] false 0 true [] [] 0 false), #[], (PySem.Drawn.mk 0 0 0 0), 207, os⟩
noncomputable def g1 : List Stmt := ((behindTheImports pp).drop 0).take 2
theorem c1 (w : World) (os : OsState) : segRunT treeTable pp w 11 ann0 1 196 (S0 w os) (piecesOf g1 env0 cod0 (PySem.Pos.mk 0 0 0 0) B0) = some (.next, S1 w os, cod0, (PySem.Pos.mk 2 0 3 8)) := seg_q (by kernel_rfl)
noncomputable def o19 (P : Params) : Obj := (Obj.mk (Value.type "dict") none (Data.dict #[(DictEntry.mk (kh P (SS "__name__")) (Value.str (SS "__name__") 165) (Value.str (SS "fencewright.errors") 187)), (DictEntry.mk (kh P (SS "__doc__")) (Value.str (SS "__doc__") 166) Value.none), (DictEntry.mk (kh P (SS "__package__")) (Value.str (SS "__package__") 167) Value.none), (DictEntry.mk (kh P (SS "__loader__")) (Value.str (SS "__loader__") 168) (Value.builtin "__main__.__loader__#opaque")), (DictEntry.mk (kh P (SS "__spec__")) (Value.str (SS "__spec__") 169) Value.none), (DictEntry.mk (kh P (SS "__annotations__")) (Value.str (SS "__annotations__") 170) (Value.ref 6)), (DictEntry.mk (kh P (SS "__builtins__")) (Value.str (SS "__builtins__") 171) (Value.ref 4)), (DictEntry.mk (kh P (SS "__file__")) (Value.str (SS "__file__") 173) (Value.str (SS "/claim/cut.py") 172)), (DictEntry.mk (kh P (SS "__cached__")) (Value.str (SS "__cached__") 174) Value.none), (DictEntry.mk (kh P (SS "WebError")) (Value.str (SS "WebError") 206) (Value.ref 24)), (DictEntry.mk (kh P (SS "BadWeb")) (Value.str (SS "BadWeb") 222) (Value.ref 37))] 11) #[])
noncomputable def o20 (P : Params) : Obj := (Obj.mk Value.none none (Data.fields #[(Value.int (2 : Int) 0), (Value.int (0 : Int) 0), (Value.ref 20), (Value.int (4 : Int) 0), (Value.int (0 : Int) 0), (Value.ref 33)]) #[])
noncomputable def o21 (P : Params) : Obj := (Obj.mk (Value.type "type") none (Data.cls (PySem.ClassData.mk (SS "WebError") [(Value.type "ValueError")] [(Value.ref 24), (Value.type "ValueError"), (Value.type "Exception"), (Value.type "BaseException"), (Value.type "object")] 23 (SS "WebError") true [] [(Value.ref 37)] false none false)) #[(some (Value.ref 15)), none, (some (Value.str (SS "WebError") 189)), (some (Value.str (SS "WebError") 197)), (some (Value.builtin "ValueError.__new__")), (some (Value.bool true))])
noncomputable def o22 (P : Params) : Obj := (Obj.mk (Value.type "tuple") none (Data.seq #[(Value.ref 24)] 0) #[])
noncomputable def o23 (P : Params) : Obj := (Obj.mk (Value.type "builtin_function_or_method") none (Data.fields #[(Value.builtin "type.__prepare__"), (Value.type "type")]) #[])
noncomputable def o24 (P : Params) : Obj := (Obj.mk (Value.type "dict") none (Data.dict #[(DictEntry.mk (kh P (SS "__module__")) (Value.str (SS "__module__") 214) (Value.str (SS "fencewright.errors") 187)), (DictEntry.mk (kh P (SS "__qualname__")) (Value.str (SS "__qualname__") 216) (Value.str (SS "BadWeb") 215)), (DictEntry.mk (kh P (SS "__firstlineno__")) (Value.str (SS "__firstlineno__") 218) (Value.int (4 : Int) 217)), (DictEntry.mk (kh P (SS "__static_attributes__")) (Value.str (SS "__static_attributes__") 219) (Value.ref 35))] 4) #[])
noncomputable def o25 (P : Params) : Obj := (Obj.mk (Value.type "tuple") none (Data.seq #[] 0) #[])
noncomputable def o26 (P : Params) : Obj := (Obj.mk Value.none none (Data.fields #[]) #[])
noncomputable def o27 (P : Params) : Obj := (Obj.mk (Value.type "code") none (Data.fields #[(Value.str (SS "BadWeb") 209), (Value.str (SS "BadWeb") 210), (Value.str (SS "/claim/cut.py") 211), (Value.int (4 : Int) 0), (Value.int (0 : Int) 0), (Value.int (0 : Int) 0), (Value.int (0 : Int) 0), (Value.int (0 : Int) 0), (Value.ref 31), (Value.bool false), (Value.int (181 : Int) 0), (Value.ref 32), Value.none, Value.none, Value.none, Value.none, (Value.int (212 : Int) 0), (Value.int (4 : Int) 0), (Value.str (SS "/claim/cut.py") 213)]) #[])
noncomputable def o28 (P : Params) : Obj := (Obj.mk (Value.type "frame") none Data.plain #[(some (Value.ref 33)), (some (Value.ref 3)), (some (Value.ref 30)), none, (some (Value.str (SS "fencewright.errors") 187)), none, (some (Value.ref 0))])
noncomputable def o29 (P : Params) : Obj := (Obj.mk (Value.type "tuple") none (Data.seq #[] 0) #[])
noncomputable def o30 (P : Params) : Obj := (Obj.mk (Value.type "dict") none (Data.dict #[(DictEntry.mk (kh P (SS "__module__")) (Value.str (SS "__module__") 214) (Value.str (SS "fencewright.errors") 187)), (DictEntry.mk (kh P (SS "__firstlineno__")) (Value.str (SS "__firstlineno__") 218) (Value.int (4 : Int) 217)), (DictEntry.mk (kh P (SS "__static_attributes__")) (Value.str (SS "__static_attributes__") 219) (Value.ref 35)), (DictEntry.mk (kh P (SS "__doc__")) (Value.str (SS "__doc__") 220) Value.none)] 2) #[])
noncomputable def o31 (P : Params) : Obj := (Obj.mk (Value.type "type") none (Data.cls (PySem.ClassData.mk (SS "BadWeb") [(Value.ref 24)] [(Value.ref 37), (Value.ref 24), (Value.type "ValueError"), (Value.type "Exception"), (Value.type "BaseException"), (Value.type "object")] 36 (SS "BadWeb") true [] [] false none false)) #[(some (Value.ref 28)), none, (some (Value.str (SS "BadWeb") 207)), (some (Value.str (SS "BadWeb") 215)), (some (Value.builtin "ValueError.__new__")), (some (Value.bool true))])
noncomputable def o32 (P : Params) : Obj := (Obj.mk (Value.type "super") none (Data.fields #[(Value.ref 37), (Value.ref 37), (Value.ref 37)]) #[])
noncomputable def o33 (P : Params) : Obj := (Obj.mk (Value.type "builtin_function_or_method") none (Data.fields #[(Value.builtin "object.__init_subclass__"), (Value.ref 37)]) #[])
noncomputable def T2 (P : Params) : BT := (BT.node (boot_o_0 P) (BT.node (boot_o_1 P) (BT.node (o19 P) (BT.node (boot_o_7 P) (BT.node (o6 P) (BT.node (o25 P) BT.nil BT.nil) BT.nil) (BT.node (o14 P) (BT.node (o33 P) BT.nil BT.nil) BT.nil)) (BT.node (o0 P) (BT.node (o10 P) (BT.node (o29 P) BT.nil BT.nil) BT.nil) (BT.node (o18 P) BT.nil BT.nil))) (BT.node (boot_o_5 P) (BT.node (boot_o_9 P) (BT.node (o8 P) (BT.node (o27 P) BT.nil BT.nil) BT.nil) (BT.node (o16 P) BT.nil BT.nil)) (BT.node (o2 P) (BT.node (o12 P) (BT.node (o31 P) BT.nil BT.nil) BT.nil) (BT.node (o23 P) BT.nil BT.nil)))) (BT.node (boot_o_2 P) (BT.node (boot_o_4 P) (BT.node (boot_o_8 P) (BT.node (o7 P) (BT.node (o26 P) BT.nil BT.nil) BT.nil) (BT.node (o21 P) BT.nil BT.nil)) (BT.node (o20 P) (BT.node (o11 P) (BT.node (o30 P) BT.nil BT.nil) BT.nil) (BT.node (o22 P) BT.nil BT.nil))) (BT.node (boot_o_6 P) (BT.node (boot_o_10 P) (BT.node (o9 P) (BT.node (o28 P) BT.nil BT.nil) BT.nil) (BT.node (o17 P) BT.nil BT.nil)) (BT.node (o3 P) (BT.node (o13 P) (BT.node (o32 P) BT.nil BT.nil) BT.nil) (BT.node (o24 P) BT.nil BT.nil)))))
noncomputable def S2 (w : World) (os : OsState) : SharedT := ⟨T2 w.params, 40, (PySem.Life.mk [] [] [] 0 [] [] false #[] [] 0 false false false (0 : Int) [(2000 : Int), (10 : Int), (10 : Int)] false 0 true [] [] 0 false), #[], (PySem.Drawn.mk 0 0 0 0), 223, os⟩
noncomputable def g2 : List Stmt := ((behindTheImports pp).drop 2).take 1
theorem c2 (w : World) (os : OsState) : segRunT treeTable pp w 11 ann0 1 214 (S1 w os) (piecesOf g2 env0 cod0 (PySem.Pos.mk 2 0 3 8) B0) = some (.next, S2 w os, cod0, (PySem.Pos.mk 4 0 5 8)) := seg_q (by kernel_rfl)
noncomputable def o34 (P : Params) : Obj := (Obj.mk (Value.type "dict") none (Data.dict #[(DictEntry.mk (kh P (SS "__name__")) (Value.str (SS "__name__") 165) (Value.str (SS "fencewright.errors") 187)), (DictEntry.mk (kh P (SS "__doc__")) (Value.str (SS "__doc__") 166) Value.none), (DictEntry.mk (kh P (SS "__package__")) (Value.str (SS "__package__") 167) Value.none), (DictEntry.mk (kh P (SS "__loader__")) (Value.str (SS "__loader__") 168) (Value.builtin "__main__.__loader__#opaque")), (DictEntry.mk (kh P (SS "__spec__")) (Value.str (SS "__spec__") 169) Value.none), (DictEntry.mk (kh P (SS "__annotations__")) (Value.str (SS "__annotations__") 170) (Value.ref 6)), (DictEntry.mk (kh P (SS "__builtins__")) (Value.str (SS "__builtins__") 171) (Value.ref 4)), (DictEntry.mk (kh P (SS "__file__")) (Value.str (SS "__file__") 173) (Value.str (SS "/claim/cut.py") 172)), (DictEntry.mk (kh P (SS "__cached__")) (Value.str (SS "__cached__") 174) Value.none), (DictEntry.mk (kh P (SS "WebError")) (Value.str (SS "WebError") 206) (Value.ref 24)), (DictEntry.mk (kh P (SS "BadWeb")) (Value.str (SS "BadWeb") 222) (Value.ref 37)), (DictEntry.mk (kh P (SS "NoMove")) (Value.str (SS "NoMove") 238) (Value.ref 49))] 12) #[])
noncomputable def o35 (P : Params) : Obj := (Obj.mk Value.none none (Data.fields #[(Value.int (2 : Int) 0), (Value.int (0 : Int) 0), (Value.ref 20), (Value.int (4 : Int) 0), (Value.int (0 : Int) 0), (Value.ref 33), (Value.int (6 : Int) 0), (Value.int (0 : Int) 0), (Value.ref 45)]) #[])
noncomputable def o36 (P : Params) : Obj := (Obj.mk (Value.type "type") none (Data.cls (PySem.ClassData.mk (SS "WebError") [(Value.type "ValueError")] [(Value.ref 24), (Value.type "ValueError"), (Value.type "Exception"), (Value.type "BaseException"), (Value.type "object")] 23 (SS "WebError") true [] [(Value.ref 37), (Value.ref 49)] false none false)) #[(some (Value.ref 15)), none, (some (Value.str (SS "WebError") 189)), (some (Value.str (SS "WebError") 197)), (some (Value.builtin "ValueError.__new__")), (some (Value.bool true))])
noncomputable def o37 (P : Params) : Obj := (Obj.mk (Value.type "tuple") none (Data.seq #[(Value.ref 24)] 0) #[])
noncomputable def o38 (P : Params) : Obj := (Obj.mk (Value.type "builtin_function_or_method") none (Data.fields #[(Value.builtin "type.__prepare__"), (Value.type "type")]) #[])
noncomputable def o39 (P : Params) : Obj := (Obj.mk (Value.type "dict") none (Data.dict #[(DictEntry.mk (kh P (SS "__module__")) (Value.str (SS "__module__") 230) (Value.str (SS "fencewright.errors") 187)), (DictEntry.mk (kh P (SS "__qualname__")) (Value.str (SS "__qualname__") 232) (Value.str (SS "NoMove") 231)), (DictEntry.mk (kh P (SS "__firstlineno__")) (Value.str (SS "__firstlineno__") 234) (Value.int (6 : Int) 233)), (DictEntry.mk (kh P (SS "__static_attributes__")) (Value.str (SS "__static_attributes__") 235) (Value.ref 47))] 4) #[])
noncomputable def o40 (P : Params) : Obj := (Obj.mk (Value.type "tuple") none (Data.seq #[] 0) #[])
noncomputable def o41 (P : Params) : Obj := (Obj.mk Value.none none (Data.fields #[]) #[])
noncomputable def o42 (P : Params) : Obj := (Obj.mk (Value.type "code") none (Data.fields #[(Value.str (SS "NoMove") 225), (Value.str (SS "NoMove") 226), (Value.str (SS "/claim/cut.py") 227), (Value.int (6 : Int) 0), (Value.int (0 : Int) 0), (Value.int (0 : Int) 0), (Value.int (0 : Int) 0), (Value.int (0 : Int) 0), (Value.ref 43), (Value.bool false), (Value.int (181 : Int) 0), (Value.ref 44), Value.none, Value.none, Value.none, Value.none, (Value.int (228 : Int) 0), (Value.int (6 : Int) 0), (Value.str (SS "/claim/cut.py") 229)]) #[])
noncomputable def o43 (P : Params) : Obj := (Obj.mk (Value.type "frame") none Data.plain #[(some (Value.ref 45)), (some (Value.ref 3)), (some (Value.ref 42)), none, (some (Value.str (SS "fencewright.errors") 187)), none, (some (Value.ref 0))])
noncomputable def o44 (P : Params) : Obj := (Obj.mk (Value.type "tuple") none (Data.seq #[] 0) #[])
noncomputable def o45 (P : Params) : Obj := (Obj.mk (Value.type "dict") none (Data.dict #[(DictEntry.mk (kh P (SS "__module__")) (Value.str (SS "__module__") 230) (Value.str (SS "fencewright.errors") 187)), (DictEntry.mk (kh P (SS "__firstlineno__")) (Value.str (SS "__firstlineno__") 234) (Value.int (6 : Int) 233)), (DictEntry.mk (kh P (SS "__static_attributes__")) (Value.str (SS "__static_attributes__") 235) (Value.ref 47)), (DictEntry.mk (kh P (SS "__doc__")) (Value.str (SS "__doc__") 236) Value.none)] 2) #[])
noncomputable def o46 (P : Params) : Obj := (Obj.mk (Value.type "type") none (Data.cls (PySem.ClassData.mk (SS "NoMove") [(Value.ref 24)] [(Value.ref 49), (Value.ref 24), (Value.type "ValueError"), (Value.type "Exception"), (Value.type "BaseException"), (Value.type "object")] 48 (SS "NoMove") true [] [] false none false)) #[(some (Value.ref 40)), none, (some (Value.str (SS "NoMove") 223)), (some (Value.str (SS "NoMove") 231)), (some (Value.builtin "ValueError.__new__")), (some (Value.bool true))])
noncomputable def o47 (P : Params) : Obj := (Obj.mk (Value.type "super") none (Data.fields #[(Value.ref 49), (Value.ref 49), (Value.ref 49)]) #[])
noncomputable def o48 (P : Params) : Obj := (Obj.mk (Value.type "builtin_function_or_method") none (Data.fields #[(Value.builtin "object.__init_subclass__"), (Value.ref 49)]) #[])
noncomputable def T3 (P : Params) : BT := (BT.node (boot_o_0 P) (BT.node (boot_o_1 P) (BT.node (o34 P) (BT.node (boot_o_7 P) (BT.node (o6 P) (BT.node (o25 P) BT.nil BT.nil) (BT.node (o44 P) BT.nil BT.nil)) (BT.node (o14 P) (BT.node (o33 P) BT.nil BT.nil) BT.nil)) (BT.node (o0 P) (BT.node (o10 P) (BT.node (o29 P) BT.nil BT.nil) (BT.node (o48 P) BT.nil BT.nil)) (BT.node (o18 P) (BT.node (o40 P) BT.nil BT.nil) BT.nil))) (BT.node (boot_o_5 P) (BT.node (boot_o_9 P) (BT.node (o8 P) (BT.node (o27 P) BT.nil BT.nil) (BT.node (o46 P) BT.nil BT.nil)) (BT.node (o16 P) (BT.node (o38 P) BT.nil BT.nil) BT.nil)) (BT.node (o2 P) (BT.node (o12 P) (BT.node (o31 P) BT.nil BT.nil) BT.nil) (BT.node (o23 P) (BT.node (o42 P) BT.nil BT.nil) BT.nil)))) (BT.node (boot_o_2 P) (BT.node (boot_o_4 P) (BT.node (boot_o_8 P) (BT.node (o7 P) (BT.node (o26 P) BT.nil BT.nil) (BT.node (o45 P) BT.nil BT.nil)) (BT.node (o36 P) (BT.node (o37 P) BT.nil BT.nil) BT.nil)) (BT.node (o35 P) (BT.node (o11 P) (BT.node (o30 P) BT.nil BT.nil) BT.nil) (BT.node (o22 P) (BT.node (o41 P) BT.nil BT.nil) BT.nil))) (BT.node (boot_o_6 P) (BT.node (boot_o_10 P) (BT.node (o9 P) (BT.node (o28 P) BT.nil BT.nil) (BT.node (o47 P) BT.nil BT.nil)) (BT.node (o17 P) (BT.node (o39 P) BT.nil BT.nil) BT.nil)) (BT.node (o3 P) (BT.node (o13 P) (BT.node (o32 P) BT.nil BT.nil) BT.nil) (BT.node (o24 P) (BT.node (o43 P) BT.nil BT.nil) BT.nil)))))
noncomputable def S3 (w : World) (os : OsState) : SharedT := ⟨T3 w.params, 52, (PySem.Life.mk [] [] [] 0 [] [] false #[] [] 0 false false false (0 : Int) [(2000 : Int), (10 : Int), (10 : Int)] false 0 true [] [] 0 false), #[], (PySem.Drawn.mk 0 0 0 0), 239, os⟩
noncomputable def g3 : List Stmt := ((behindTheImports pp).drop 3).take 1
theorem c3 (w : World) (os : OsState) : segRunT treeTable pp w 11 ann0 1 214 (S2 w os) (piecesOf g3 env0 cod0 (PySem.Pos.mk 4 0 5 8) B0) = some (.next, S3 w os, cod0, (PySem.Pos.mk 6 0 7 8)) := seg_q (by kernel_rfl)
noncomputable def o49 (P : Params) : Obj := (Obj.mk (Value.type "dict") none (Data.dict #[(DictEntry.mk (kh P (SS "__name__")) (Value.str (SS "__name__") 165) (Value.str (SS "fencewright.errors") 187)), (DictEntry.mk (kh P (SS "__doc__")) (Value.str (SS "__doc__") 166) Value.none), (DictEntry.mk (kh P (SS "__package__")) (Value.str (SS "__package__") 167) Value.none), (DictEntry.mk (kh P (SS "__loader__")) (Value.str (SS "__loader__") 168) (Value.builtin "__main__.__loader__#opaque")), (DictEntry.mk (kh P (SS "__spec__")) (Value.str (SS "__spec__") 169) Value.none), (DictEntry.mk (kh P (SS "__annotations__")) (Value.str (SS "__annotations__") 170) (Value.ref 6)), (DictEntry.mk (kh P (SS "__builtins__")) (Value.str (SS "__builtins__") 171) (Value.ref 4)), (DictEntry.mk (kh P (SS "__file__")) (Value.str (SS "__file__") 173) (Value.str (SS "/claim/cut.py") 172)), (DictEntry.mk (kh P (SS "__cached__")) (Value.str (SS "__cached__") 174) Value.none), (DictEntry.mk (kh P (SS "WebError")) (Value.str (SS "WebError") 206) (Value.ref 24)), (DictEntry.mk (kh P (SS "BadWeb")) (Value.str (SS "BadWeb") 222) (Value.ref 37)), (DictEntry.mk (kh P (SS "NoMove")) (Value.str (SS "NoMove") 238) (Value.ref 49)), (DictEntry.mk (kh P (SS "NotOver")) (Value.str (SS "NotOver") 254) (Value.ref 61))] 13) #[])
noncomputable def o50 (P : Params) : Obj := (Obj.mk Value.none none (Data.fields #[(Value.int (2 : Int) 0), (Value.int (0 : Int) 0), (Value.ref 20), (Value.int (4 : Int) 0), (Value.int (0 : Int) 0), (Value.ref 33), (Value.int (6 : Int) 0), (Value.int (0 : Int) 0), (Value.ref 45), (Value.int (8 : Int) 0), (Value.int (0 : Int) 0), (Value.ref 57)]) #[])
noncomputable def o51 (P : Params) : Obj := (Obj.mk (Value.type "type") none (Data.cls (PySem.ClassData.mk (SS "WebError") [(Value.type "ValueError")] [(Value.ref 24), (Value.type "ValueError"), (Value.type "Exception"), (Value.type "BaseException"), (Value.type "object")] 23 (SS "WebError") true [] [(Value.ref 37), (Value.ref 49), (Value.ref 61)] false none false)) #[(some (Value.ref 15)), none, (some (Value.str (SS "WebError") 189)), (some (Value.str (SS "WebError") 197)), (some (Value.builtin "ValueError.__new__")), (some (Value.bool true))])
noncomputable def o52 (P : Params) : Obj := (Obj.mk (Value.type "tuple") none (Data.seq #[(Value.ref 24)] 0) #[])
noncomputable def o53 (P : Params) : Obj := (Obj.mk (Value.type "builtin_function_or_method") none (Data.fields #[(Value.builtin "type.__prepare__"), (Value.type "type")]) #[])
noncomputable def o54 (P : Params) : Obj := (Obj.mk (Value.type "dict") none (Data.dict #[(DictEntry.mk (kh P (SS "__module__")) (Value.str (SS "__module__") 246) (Value.str (SS "fencewright.errors") 187)), (DictEntry.mk (kh P (SS "__qualname__")) (Value.str (SS "__qualname__") 248) (Value.str (SS "NotOver") 247)), (DictEntry.mk (kh P (SS "__firstlineno__")) (Value.str (SS "__firstlineno__") 250) (Value.int (8 : Int) 249)), (DictEntry.mk (kh P (SS "__static_attributes__")) (Value.str (SS "__static_attributes__") 251) (Value.ref 59))] 4) #[])
noncomputable def o55 (P : Params) : Obj := (Obj.mk (Value.type "tuple") none (Data.seq #[] 0) #[])
noncomputable def o56 (P : Params) : Obj := (Obj.mk Value.none none (Data.fields #[]) #[])
noncomputable def o57 (P : Params) : Obj := (Obj.mk (Value.type "code") none (Data.fields #[(Value.str (SS "NotOver") 241), (Value.str (SS "NotOver") 242), (Value.str (SS "/claim/cut.py") 243), (Value.int (8 : Int) 0), (Value.int (0 : Int) 0), (Value.int (0 : Int) 0), (Value.int (0 : Int) 0), (Value.int (0 : Int) 0), (Value.ref 55), (Value.bool false), (Value.int (181 : Int) 0), (Value.ref 56), Value.none, Value.none, Value.none, Value.none, (Value.int (244 : Int) 0), (Value.int (8 : Int) 0), (Value.str (SS "/claim/cut.py") 245)]) #[])
noncomputable def o58 (P : Params) : Obj := (Obj.mk (Value.type "frame") none Data.plain #[(some (Value.ref 57)), (some (Value.ref 3)), (some (Value.ref 54)), none, (some (Value.str (SS "fencewright.errors") 187)), none, (some (Value.ref 0))])
noncomputable def o59 (P : Params) : Obj := (Obj.mk (Value.type "tuple") none (Data.seq #[] 0) #[])
noncomputable def o60 (P : Params) : Obj := (Obj.mk (Value.type "dict") none (Data.dict #[(DictEntry.mk (kh P (SS "__module__")) (Value.str (SS "__module__") 246) (Value.str (SS "fencewright.errors") 187)), (DictEntry.mk (kh P (SS "__firstlineno__")) (Value.str (SS "__firstlineno__") 250) (Value.int (8 : Int) 249)), (DictEntry.mk (kh P (SS "__static_attributes__")) (Value.str (SS "__static_attributes__") 251) (Value.ref 59)), (DictEntry.mk (kh P (SS "__doc__")) (Value.str (SS "__doc__") 252) Value.none)] 2) #[])
noncomputable def o61 (P : Params) : Obj := (Obj.mk (Value.type "type") none (Data.cls (PySem.ClassData.mk (SS "NotOver") [(Value.ref 24)] [(Value.ref 61), (Value.ref 24), (Value.type "ValueError"), (Value.type "Exception"), (Value.type "BaseException"), (Value.type "object")] 60 (SS "NotOver") true [] [] false none false)) #[(some (Value.ref 52)), none, (some (Value.str (SS "NotOver") 239)), (some (Value.str (SS "NotOver") 247)), (some (Value.builtin "ValueError.__new__")), (some (Value.bool true))])
noncomputable def o62 (P : Params) : Obj := (Obj.mk (Value.type "super") none (Data.fields #[(Value.ref 61), (Value.ref 61), (Value.ref 61)]) #[])
noncomputable def o63 (P : Params) : Obj := (Obj.mk (Value.type "builtin_function_or_method") none (Data.fields #[(Value.builtin "object.__init_subclass__"), (Value.ref 61)]) #[])
noncomputable def T4 (P : Params) : BT := (BT.node (boot_o_0 P) (BT.node (boot_o_1 P) (BT.node (o49 P) (BT.node (boot_o_7 P) (BT.node (o6 P) (BT.node (o25 P) (BT.node (o63 P) BT.nil BT.nil) BT.nil) (BT.node (o44 P) BT.nil BT.nil)) (BT.node (o14 P) (BT.node (o33 P) BT.nil BT.nil) (BT.node (o55 P) BT.nil BT.nil))) (BT.node (o0 P) (BT.node (o10 P) (BT.node (o29 P) BT.nil BT.nil) (BT.node (o48 P) BT.nil BT.nil)) (BT.node (o18 P) (BT.node (o40 P) BT.nil BT.nil) (BT.node (o59 P) BT.nil BT.nil)))) (BT.node (boot_o_5 P) (BT.node (boot_o_9 P) (BT.node (o8 P) (BT.node (o27 P) BT.nil BT.nil) (BT.node (o46 P) BT.nil BT.nil)) (BT.node (o16 P) (BT.node (o38 P) BT.nil BT.nil) (BT.node (o57 P) BT.nil BT.nil))) (BT.node (o2 P) (BT.node (o12 P) (BT.node (o31 P) BT.nil BT.nil) (BT.node (o53 P) BT.nil BT.nil)) (BT.node (o23 P) (BT.node (o42 P) BT.nil BT.nil) (BT.node (o61 P) BT.nil BT.nil))))) (BT.node (boot_o_2 P) (BT.node (boot_o_4 P) (BT.node (boot_o_8 P) (BT.node (o7 P) (BT.node (o26 P) BT.nil BT.nil) (BT.node (o45 P) BT.nil BT.nil)) (BT.node (o51 P) (BT.node (o37 P) BT.nil BT.nil) (BT.node (o56 P) BT.nil BT.nil))) (BT.node (o50 P) (BT.node (o11 P) (BT.node (o30 P) BT.nil BT.nil) (BT.node (o52 P) BT.nil BT.nil)) (BT.node (o22 P) (BT.node (o41 P) BT.nil BT.nil) (BT.node (o60 P) BT.nil BT.nil)))) (BT.node (boot_o_6 P) (BT.node (boot_o_10 P) (BT.node (o9 P) (BT.node (o28 P) BT.nil BT.nil) (BT.node (o47 P) BT.nil BT.nil)) (BT.node (o17 P) (BT.node (o39 P) BT.nil BT.nil) (BT.node (o58 P) BT.nil BT.nil))) (BT.node (o3 P) (BT.node (o13 P) (BT.node (o32 P) BT.nil BT.nil) (BT.node (o54 P) BT.nil BT.nil)) (BT.node (o24 P) (BT.node (o43 P) BT.nil BT.nil) (BT.node (o62 P) BT.nil BT.nil))))))
noncomputable def S4 (w : World) (os : OsState) : SharedT := ⟨T4 w.params, 64, (PySem.Life.mk [] [] [] 0 [] [] false #[] [] 0 false false false (0 : Int) [(2000 : Int), (10 : Int), (10 : Int)] false 0 true [] [] 0 false), #[], (PySem.Drawn.mk 0 0 0 0), 255, os⟩
noncomputable def g4 : List Stmt := ((behindTheImports pp).drop 4).take 1
theorem c4 (w : World) (os : OsState) : segRunT treeTable pp w 11 ann0 1 214 (S3 w os) (piecesOf g4 env0 cod0 (PySem.Pos.mk 6 0 7 8) B0) = some (.next, S4 w os, cod0, (PySem.Pos.mk 8 0 9 8)) := seg_q (by kernel_rfl)
noncomputable def o64 (P : Params) : Obj := (Obj.mk (Value.type "dict") none (Data.dict #[(DictEntry.mk (kh P (SS "__name__")) (Value.str (SS "__name__") 165) (Value.str (SS "fencewright.errors") 187)), (DictEntry.mk (kh P (SS "__doc__")) (Value.str (SS "__doc__") 166) Value.none), (DictEntry.mk (kh P (SS "__package__")) (Value.str (SS "__package__") 167) Value.none), (DictEntry.mk (kh P (SS "__loader__")) (Value.str (SS "__loader__") 168) (Value.builtin "__main__.__loader__#opaque")), (DictEntry.mk (kh P (SS "__spec__")) (Value.str (SS "__spec__") 169) Value.none), (DictEntry.mk (kh P (SS "__annotations__")) (Value.str (SS "__annotations__") 170) (Value.ref 6)), (DictEntry.mk (kh P (SS "__builtins__")) (Value.str (SS "__builtins__") 171) (Value.ref 4)), (DictEntry.mk (kh P (SS "__file__")) (Value.str (SS "__file__") 173) (Value.str (SS "/claim/cut.py") 172)), (DictEntry.mk (kh P (SS "__cached__")) (Value.str (SS "__cached__") 174) Value.none), (DictEntry.mk (kh P (SS "WebError")) (Value.str (SS "WebError") 206) (Value.ref 24)), (DictEntry.mk (kh P (SS "BadWeb")) (Value.str (SS "BadWeb") 222) (Value.ref 37)), (DictEntry.mk (kh P (SS "NoMove")) (Value.str (SS "NoMove") 238) (Value.ref 49)), (DictEntry.mk (kh P (SS "NotOver")) (Value.str (SS "NotOver") 254) (Value.ref 61)), (DictEntry.mk (kh P (SS "NoPlace")) (Value.str (SS "NoPlace") 270) (Value.ref 73))] 14) #[])
noncomputable def o65 (P : Params) : Obj := (Obj.mk Value.none none (Data.fields #[(Value.int (2 : Int) 0), (Value.int (0 : Int) 0), (Value.ref 20), (Value.int (4 : Int) 0), (Value.int (0 : Int) 0), (Value.ref 33), (Value.int (6 : Int) 0), (Value.int (0 : Int) 0), (Value.ref 45), (Value.int (8 : Int) 0), (Value.int (0 : Int) 0), (Value.ref 57), (Value.int (10 : Int) 0), (Value.int (0 : Int) 0), (Value.ref 69)]) #[])
noncomputable def o66 (P : Params) : Obj := (Obj.mk (Value.type "type") none (Data.cls (PySem.ClassData.mk (SS "WebError") [(Value.type "ValueError")] [(Value.ref 24), (Value.type "ValueError"), (Value.type "Exception"), (Value.type "BaseException"), (Value.type "object")] 23 (SS "WebError") true [] [(Value.ref 37), (Value.ref 49), (Value.ref 61), (Value.ref 73)] false none false)) #[(some (Value.ref 15)), none, (some (Value.str (SS "WebError") 189)), (some (Value.str (SS "WebError") 197)), (some (Value.builtin "ValueError.__new__")), (some (Value.bool true))])
noncomputable def o67 (P : Params) : Obj := (Obj.mk (Value.type "tuple") none (Data.seq #[(Value.ref 24)] 0) #[])
noncomputable def o68 (P : Params) : Obj := (Obj.mk (Value.type "builtin_function_or_method") none (Data.fields #[(Value.builtin "type.__prepare__"), (Value.type "type")]) #[])
noncomputable def o69 (P : Params) : Obj := (Obj.mk (Value.type "dict") none (Data.dict #[(DictEntry.mk (kh P (SS "__module__")) (Value.str (SS "__module__") 262) (Value.str (SS "fencewright.errors") 187)), (DictEntry.mk (kh P (SS "__qualname__")) (Value.str (SS "__qualname__") 264) (Value.str (SS "NoPlace") 263)), (DictEntry.mk (kh P (SS "__firstlineno__")) (Value.str (SS "__firstlineno__") 266) (Value.int (10 : Int) 265)), (DictEntry.mk (kh P (SS "__static_attributes__")) (Value.str (SS "__static_attributes__") 267) (Value.ref 71))] 4) #[])
noncomputable def o70 (P : Params) : Obj := (Obj.mk (Value.type "tuple") none (Data.seq #[] 0) #[])
noncomputable def o71 (P : Params) : Obj := (Obj.mk Value.none none (Data.fields #[]) #[])
noncomputable def o72 (P : Params) : Obj := (Obj.mk (Value.type "code") none (Data.fields #[(Value.str (SS "NoPlace") 257), (Value.str (SS "NoPlace") 258), (Value.str (SS "/claim/cut.py") 259), (Value.int (10 : Int) 0), (Value.int (0 : Int) 0), (Value.int (0 : Int) 0), (Value.int (0 : Int) 0), (Value.int (0 : Int) 0), (Value.ref 67), (Value.bool false), (Value.int (181 : Int) 0), (Value.ref 68), Value.none, Value.none, Value.none, Value.none, (Value.int (260 : Int) 0), (Value.int (10 : Int) 0), (Value.str (SS "/claim/cut.py") 261)]) #[])
noncomputable def o73 (P : Params) : Obj := (Obj.mk (Value.type "frame") none Data.plain #[(some (Value.ref 69)), (some (Value.ref 3)), (some (Value.ref 66)), none, (some (Value.str (SS "fencewright.errors") 187)), none, (some (Value.ref 0))])
noncomputable def o74 (P : Params) : Obj := (Obj.mk (Value.type "tuple") none (Data.seq #[] 0) #[])
noncomputable def o75 (P : Params) : Obj := (Obj.mk (Value.type "dict") none (Data.dict #[(DictEntry.mk (kh P (SS "__module__")) (Value.str (SS "__module__") 262) (Value.str (SS "fencewright.errors") 187)), (DictEntry.mk (kh P (SS "__firstlineno__")) (Value.str (SS "__firstlineno__") 266) (Value.int (10 : Int) 265)), (DictEntry.mk (kh P (SS "__static_attributes__")) (Value.str (SS "__static_attributes__") 267) (Value.ref 71)), (DictEntry.mk (kh P (SS "__doc__")) (Value.str (SS "__doc__") 268) Value.none)] 2) #[])
noncomputable def o76 (P : Params) : Obj := (Obj.mk (Value.type "type") none (Data.cls (PySem.ClassData.mk (SS "NoPlace") [(Value.ref 24)] [(Value.ref 73), (Value.ref 24), (Value.type "ValueError"), (Value.type "Exception"), (Value.type "BaseException"), (Value.type "object")] 72 (SS "NoPlace") true [] [] false none false)) #[(some (Value.ref 64)), none, (some (Value.str (SS "NoPlace") 255)), (some (Value.str (SS "NoPlace") 263)), (some (Value.builtin "ValueError.__new__")), (some (Value.bool true))])
noncomputable def o77 (P : Params) : Obj := (Obj.mk (Value.type "super") none (Data.fields #[(Value.ref 73), (Value.ref 73), (Value.ref 73)]) #[])
noncomputable def o78 (P : Params) : Obj := (Obj.mk (Value.type "builtin_function_or_method") none (Data.fields #[(Value.builtin "object.__init_subclass__"), (Value.ref 73)]) #[])
noncomputable def T5 (P : Params) : BT := (BT.node (boot_o_0 P) (BT.node (boot_o_1 P) (BT.node (o64 P) (BT.node (boot_o_7 P) (BT.node (o6 P) (BT.node (o25 P) (BT.node (o63 P) BT.nil BT.nil) BT.nil) (BT.node (o44 P) BT.nil BT.nil)) (BT.node (o14 P) (BT.node (o33 P) (BT.node (o74 P) BT.nil BT.nil) BT.nil) (BT.node (o55 P) BT.nil BT.nil))) (BT.node (o0 P) (BT.node (o10 P) (BT.node (o29 P) (BT.node (o70 P) BT.nil BT.nil) BT.nil) (BT.node (o48 P) BT.nil BT.nil)) (BT.node (o18 P) (BT.node (o40 P) (BT.node (o78 P) BT.nil BT.nil) BT.nil) (BT.node (o59 P) BT.nil BT.nil)))) (BT.node (boot_o_5 P) (BT.node (boot_o_9 P) (BT.node (o8 P) (BT.node (o27 P) (BT.node (o68 P) BT.nil BT.nil) BT.nil) (BT.node (o46 P) BT.nil BT.nil)) (BT.node (o16 P) (BT.node (o38 P) (BT.node (o76 P) BT.nil BT.nil) BT.nil) (BT.node (o57 P) BT.nil BT.nil))) (BT.node (o2 P) (BT.node (o12 P) (BT.node (o31 P) (BT.node (o72 P) BT.nil BT.nil) BT.nil) (BT.node (o53 P) BT.nil BT.nil)) (BT.node (o23 P) (BT.node (o42 P) BT.nil BT.nil) (BT.node (o61 P) BT.nil BT.nil))))) (BT.node (boot_o_2 P) (BT.node (boot_o_4 P) (BT.node (boot_o_8 P) (BT.node (o7 P) (BT.node (o26 P) (BT.node (o67 P) BT.nil BT.nil) BT.nil) (BT.node (o45 P) BT.nil BT.nil)) (BT.node (o66 P) (BT.node (o37 P) (BT.node (o75 P) BT.nil BT.nil) BT.nil) (BT.node (o56 P) BT.nil BT.nil))) (BT.node (o65 P) (BT.node (o11 P) (BT.node (o30 P) (BT.node (o71 P) BT.nil BT.nil) BT.nil) (BT.node (o52 P) BT.nil BT.nil)) (BT.node (o22 P) (BT.node (o41 P) BT.nil BT.nil) (BT.node (o60 P) BT.nil BT.nil)))) (BT.node (boot_o_6 P) (BT.node (boot_o_10 P) (BT.node (o9 P) (BT.node (o28 P) (BT.node (o69 P) BT.nil BT.nil) BT.nil) (BT.node (o47 P) BT.nil BT.nil)) (BT.node (o17 P) (BT.node (o39 P) (BT.node (o77 P) BT.nil BT.nil) BT.nil) (BT.node (o58 P) BT.nil BT.nil))) (BT.node (o3 P) (BT.node (o13 P) (BT.node (o32 P) (BT.node (o73 P) BT.nil BT.nil) BT.nil) (BT.node (o54 P) BT.nil BT.nil)) (BT.node (o24 P) (BT.node (o43 P) BT.nil BT.nil) (BT.node (o62 P) BT.nil BT.nil))))))
noncomputable def S5 (w : World) (os : OsState) : SharedT := ⟨T5 w.params, 76, (PySem.Life.mk [] [] [] 0 [] [] false #[] [] 0 false false false (0 : Int) [(2000 : Int), (10 : Int), (10 : Int)] false 0 true [] [] 0 false), #[], (PySem.Drawn.mk 0 0 0 0), 271, os⟩
noncomputable def g5 : List Stmt := ((behindTheImports pp).drop 5).take 1
theorem c5 (w : World) (os : OsState) : segRunT treeTable pp w 11 ann0 1 214 (S4 w os) (piecesOf g5 env0 cod0 (PySem.Pos.mk 8 0 9 8) B0) = some (.next, S5 w os, cod0, (PySem.Pos.mk 10 0 11 8)) := seg_q (by kernel_rfl)
noncomputable def o79 (P : Params) : Obj := (Obj.mk (Value.type "dict") none (Data.dict #[(DictEntry.mk (kh P (SS "__name__")) (Value.str (SS "__name__") 165) (Value.str (SS "fencewright.webs") 287)), (DictEntry.mk (kh P (SS "__doc__")) (Value.str (SS "__doc__") 166) Value.none), (DictEntry.mk (kh P (SS "__package__")) (Value.str (SS "__package__") 167) Value.none), (DictEntry.mk (kh P (SS "__loader__")) (Value.str (SS "__loader__") 168) (Value.builtin "__main__.__loader__#opaque")), (DictEntry.mk (kh P (SS "__spec__")) (Value.str (SS "__spec__") 169) Value.none), (DictEntry.mk (kh P (SS "__annotations__")) (Value.str (SS "__annotations__") 170) (Value.ref 6)), (DictEntry.mk (kh P (SS "__builtins__")) (Value.str (SS "__builtins__") 171) (Value.ref 4)), (DictEntry.mk (kh P (SS "__file__")) (Value.str (SS "__file__") 173) (Value.str (SS "/claim/cut.py") 172)), (DictEntry.mk (kh P (SS "__cached__")) (Value.str (SS "__cached__") 174) Value.none), (DictEntry.mk (kh P (SS "WebError")) (Value.str (SS "WebError") 206) (Value.ref 24)), (DictEntry.mk (kh P (SS "BadWeb")) (Value.str (SS "BadWeb") 222) (Value.ref 37)), (DictEntry.mk (kh P (SS "NoMove")) (Value.str (SS "NoMove") 238) (Value.ref 49)), (DictEntry.mk (kh P (SS "NotOver")) (Value.str (SS "NotOver") 254) (Value.ref 61)), (DictEntry.mk (kh P (SS "NoPlace")) (Value.str (SS "NoPlace") 270) (Value.ref 73)), (DictEntry.mk (kh P (SS "NoText")) (Value.str (SS "NoText") 286) (Value.ref 85)), (DictEntry.mk (kh P (SS "BOXES")) (Value.str (SS "BOXES") 290) (Value.int (4 : Int) 289)), (DictEntry.mk (kh P (SS "MOST_ROWS")) (Value.str (SS "MOST_ROWS") 292) (Value.int (3 : Int) 291)), (DictEntry.mk (kh P (SS "MOST_DEEDS")) (Value.str (SS "MOST_DEEDS") 294) (Value.int (8 : Int) 293))] 18) #[])
noncomputable def o80 (P : Params) : Obj := (Obj.mk Value.none none (Data.fields #[(Value.int (2 : Int) 0), (Value.int (0 : Int) 0), (Value.ref 20), (Value.int (4 : Int) 0), (Value.int (0 : Int) 0), (Value.ref 33), (Value.int (6 : Int) 0), (Value.int (0 : Int) 0), (Value.ref 45), (Value.int (8 : Int) 0), (Value.int (0 : Int) 0), (Value.ref 57), (Value.int (10 : Int) 0), (Value.int (0 : Int) 0), (Value.ref 69), (Value.int (12 : Int) 0), (Value.int (0 : Int) 0), (Value.ref 81)]) #[])
noncomputable def o81 (P : Params) : Obj := (Obj.mk (Value.type "type") none (Data.cls (PySem.ClassData.mk (SS "WebError") [(Value.type "ValueError")] [(Value.ref 24), (Value.type "ValueError"), (Value.type "Exception"), (Value.type "BaseException"), (Value.type "object")] 23 (SS "WebError") true [] [(Value.ref 37), (Value.ref 49), (Value.ref 61), (Value.ref 73), (Value.ref 85)] false none false)) #[(some (Value.ref 15)), none, (some (Value.str (SS "WebError") 189)), (some (Value.str (SS "WebError") 197)), (some (Value.builtin "ValueError.__new__")), (some (Value.bool true))])
noncomputable def o82 (P : Params) : Obj := (Obj.mk (Value.type "tuple") none (Data.seq #[(Value.ref 24)] 0) #[])
noncomputable def o83 (P : Params) : Obj := (Obj.mk (Value.type "builtin_function_or_method") none (Data.fields #[(Value.builtin "type.__prepare__"), (Value.type "type")]) #[])
noncomputable def o84 (P : Params) : Obj := (Obj.mk (Value.type "dict") none (Data.dict #[(DictEntry.mk (kh P (SS "__module__")) (Value.str (SS "__module__") 278) (Value.str (SS "fencewright.errors") 187)), (DictEntry.mk (kh P (SS "__qualname__")) (Value.str (SS "__qualname__") 280) (Value.str (SS "NoText") 279)), (DictEntry.mk (kh P (SS "__firstlineno__")) (Value.str (SS "__firstlineno__") 282) (Value.int (12 : Int) 281)), (DictEntry.mk (kh P (SS "__static_attributes__")) (Value.str (SS "__static_attributes__") 283) (Value.ref 83))] 4) #[])
noncomputable def o85 (P : Params) : Obj := (Obj.mk (Value.type "tuple") none (Data.seq #[] 0) #[])
noncomputable def o86 (P : Params) : Obj := (Obj.mk Value.none none (Data.fields #[]) #[])
noncomputable def o87 (P : Params) : Obj := (Obj.mk (Value.type "code") none (Data.fields #[(Value.str (SS "NoText") 273), (Value.str (SS "NoText") 274), (Value.str (SS "/claim/cut.py") 275), (Value.int (12 : Int) 0), (Value.int (0 : Int) 0), (Value.int (0 : Int) 0), (Value.int (0 : Int) 0), (Value.int (0 : Int) 0), (Value.ref 79), (Value.bool false), (Value.int (181 : Int) 0), (Value.ref 80), Value.none, Value.none, Value.none, Value.none, (Value.int (276 : Int) 0), (Value.int (12 : Int) 0), (Value.str (SS "/claim/cut.py") 277)]) #[])
noncomputable def o88 (P : Params) : Obj := (Obj.mk (Value.type "frame") none Data.plain #[(some (Value.ref 81)), (some (Value.ref 3)), (some (Value.ref 78)), none, (some (Value.str (SS "fencewright.errors") 187)), none, (some (Value.ref 0))])
noncomputable def o89 (P : Params) : Obj := (Obj.mk (Value.type "tuple") none (Data.seq #[] 0) #[])
noncomputable def o90 (P : Params) : Obj := (Obj.mk (Value.type "dict") none (Data.dict #[(DictEntry.mk (kh P (SS "__module__")) (Value.str (SS "__module__") 278) (Value.str (SS "fencewright.errors") 187)), (DictEntry.mk (kh P (SS "__firstlineno__")) (Value.str (SS "__firstlineno__") 282) (Value.int (12 : Int) 281)), (DictEntry.mk (kh P (SS "__static_attributes__")) (Value.str (SS "__static_attributes__") 283) (Value.ref 83)), (DictEntry.mk (kh P (SS "__doc__")) (Value.str (SS "__doc__") 284) Value.none)] 2) #[])
noncomputable def o91 (P : Params) : Obj := (Obj.mk (Value.type "type") none (Data.cls (PySem.ClassData.mk (SS "NoText") [(Value.ref 24)] [(Value.ref 85), (Value.ref 24), (Value.type "ValueError"), (Value.type "Exception"), (Value.type "BaseException"), (Value.type "object")] 84 (SS "NoText") true [] [] false none false)) #[(some (Value.ref 76)), none, (some (Value.str (SS "NoText") 271)), (some (Value.str (SS "NoText") 279)), (some (Value.builtin "ValueError.__new__")), (some (Value.bool true))])
noncomputable def o92 (P : Params) : Obj := (Obj.mk (Value.type "super") none (Data.fields #[(Value.ref 85), (Value.ref 85), (Value.ref 85)]) #[])
noncomputable def o93 (P : Params) : Obj := (Obj.mk (Value.type "builtin_function_or_method") none (Data.fields #[(Value.builtin "object.__init_subclass__"), (Value.ref 85)]) #[])
noncomputable def T6 (P : Params) : BT := (BT.node (boot_o_0 P) (BT.node (boot_o_1 P) (BT.node (o79 P) (BT.node (boot_o_7 P) (BT.node (o6 P) (BT.node (o25 P) (BT.node (o63 P) BT.nil BT.nil) BT.nil) (BT.node (o44 P) (BT.node (o85 P) BT.nil BT.nil) BT.nil)) (BT.node (o14 P) (BT.node (o33 P) (BT.node (o74 P) BT.nil BT.nil) BT.nil) (BT.node (o55 P) (BT.node (o93 P) BT.nil BT.nil) BT.nil))) (BT.node (o0 P) (BT.node (o10 P) (BT.node (o29 P) (BT.node (o70 P) BT.nil BT.nil) BT.nil) (BT.node (o48 P) (BT.node (o89 P) BT.nil BT.nil) BT.nil)) (BT.node (o18 P) (BT.node (o40 P) (BT.node (o78 P) BT.nil BT.nil) BT.nil) (BT.node (o59 P) BT.nil BT.nil)))) (BT.node (boot_o_5 P) (BT.node (boot_o_9 P) (BT.node (o8 P) (BT.node (o27 P) (BT.node (o68 P) BT.nil BT.nil) BT.nil) (BT.node (o46 P) (BT.node (o87 P) BT.nil BT.nil) BT.nil)) (BT.node (o16 P) (BT.node (o38 P) (BT.node (o76 P) BT.nil BT.nil) BT.nil) (BT.node (o57 P) BT.nil BT.nil))) (BT.node (o2 P) (BT.node (o12 P) (BT.node (o31 P) (BT.node (o72 P) BT.nil BT.nil) BT.nil) (BT.node (o53 P) (BT.node (o91 P) BT.nil BT.nil) BT.nil)) (BT.node (o23 P) (BT.node (o42 P) (BT.node (o83 P) BT.nil BT.nil) BT.nil) (BT.node (o61 P) BT.nil BT.nil))))) (BT.node (boot_o_2 P) (BT.node (boot_o_4 P) (BT.node (boot_o_8 P) (BT.node (o7 P) (BT.node (o26 P) (BT.node (o67 P) BT.nil BT.nil) BT.nil) (BT.node (o45 P) (BT.node (o86 P) BT.nil BT.nil) BT.nil)) (BT.node (o81 P) (BT.node (o37 P) (BT.node (o75 P) BT.nil BT.nil) BT.nil) (BT.node (o56 P) BT.nil BT.nil))) (BT.node (o80 P) (BT.node (o11 P) (BT.node (o30 P) (BT.node (o71 P) BT.nil BT.nil) BT.nil) (BT.node (o52 P) (BT.node (o90 P) BT.nil BT.nil) BT.nil)) (BT.node (o22 P) (BT.node (o41 P) (BT.node (o82 P) BT.nil BT.nil) BT.nil) (BT.node (o60 P) BT.nil BT.nil)))) (BT.node (boot_o_6 P) (BT.node (boot_o_10 P) (BT.node (o9 P) (BT.node (o28 P) (BT.node (o69 P) BT.nil BT.nil) BT.nil) (BT.node (o47 P) (BT.node (o88 P) BT.nil BT.nil) BT.nil)) (BT.node (o17 P) (BT.node (o39 P) (BT.node (o77 P) BT.nil BT.nil) BT.nil) (BT.node (o58 P) BT.nil BT.nil))) (BT.node (o3 P) (BT.node (o13 P) (BT.node (o32 P) (BT.node (o73 P) BT.nil BT.nil) BT.nil) (BT.node (o54 P) (BT.node (o92 P) BT.nil BT.nil) BT.nil)) (BT.node (o24 P) (BT.node (o43 P) (BT.node (o84 P) BT.nil BT.nil) BT.nil) (BT.node (o62 P) BT.nil BT.nil))))))
noncomputable def S6 (w : World) (os : OsState) : SharedT := ⟨T6 w.params, 88, (PySem.Life.mk [] [] [] 0 [] [] false #[] [] 0 false false false (0 : Int) [(2000 : Int), (10 : Int), (10 : Int)] false 0 true [] [] 0 false), #[], (PySem.Drawn.mk 0 0 0 0), 295, os⟩
noncomputable def g6 : List Stmt := ((behindTheImports pp).drop 6).take 5
theorem c6 (w : World) (os : OsState) : segRunT treeTable pp w 11 ann0 1 250 (S5 w os) (piecesOf g6 env0 cod0 (PySem.Pos.mk 10 0 11 8) B0) = some (.next, S6 w os, cod0, (PySem.Pos.mk 17 0 17 10)) := seg_q (by kernel_rfl)
noncomputable def o94 (P : Params) : Obj := (Obj.mk (Value.type "dict") none (Data.dict #[(DictEntry.mk (kh P (SS "__name__")) (Value.str (SS "__name__") 165) (Value.str (SS "fencewright.notes") 330)), (DictEntry.mk (kh P (SS "__doc__")) (Value.str (SS "__doc__") 166) Value.none), (DictEntry.mk (kh P (SS "__package__")) (Value.str (SS "__package__") 167) Value.none), (DictEntry.mk (kh P (SS "__loader__")) (Value.str (SS "__loader__") 168) (Value.builtin "__main__.__loader__#opaque")), (DictEntry.mk (kh P (SS "__spec__")) (Value.str (SS "__spec__") 169) Value.none), (DictEntry.mk (kh P (SS "__annotations__")) (Value.str (SS "__annotations__") 170) (Value.ref 6)), (DictEntry.mk (kh P (SS "__builtins__")) (Value.str (SS "__builtins__") 171) (Value.ref 4)), (DictEntry.mk (kh P (SS "__file__")) (Value.str (SS "__file__") 173) (Value.str (SS "/claim/cut.py") 172)), (DictEntry.mk (kh P (SS "__cached__")) (Value.str (SS "__cached__") 174) Value.none), (DictEntry.mk (kh P (SS "WebError")) (Value.str (SS "WebError") 206) (Value.ref 24)), (DictEntry.mk (kh P (SS "BadWeb")) (Value.str (SS "BadWeb") 222) (Value.ref 37)), (DictEntry.mk (kh P (SS "NoMove")) (Value.str (SS "NoMove") 238) (Value.ref 49)), (DictEntry.mk (kh P (SS "NotOver")) (Value.str (SS "NotOver") 254) (Value.ref 61)), (DictEntry.mk (kh P (SS "NoPlace")) (Value.str (SS "NoPlace") 270) (Value.ref 73)), (DictEntry.mk (kh P (SS "NoText")) (Value.str (SS "NoText") 286) (Value.ref 85)), (DictEntry.mk (kh P (SS "BOXES")) (Value.str (SS "BOXES") 290) (Value.int (4 : Int) 289)), (DictEntry.mk (kh P (SS "MOST_ROWS")) (Value.str (SS "MOST_ROWS") 292) (Value.int (3 : Int) 291)), (DictEntry.mk (kh P (SS "MOST_DEEDS")) (Value.str (SS "MOST_DEEDS") 294) (Value.int (8 : Int) 293)), (DictEntry.mk (kh P (SS "TOO_GREAT")) (Value.str (SS "TOO_GREAT") 298) (Value.int (1000000000000000000000000000000 : Int) 297)), (DictEntry.mk (kh P (SS "is_whole")) (Value.str (SS "is_whole") 305) (Value.ref 94)), (DictEntry.mk (kh P (SS "is_box")) (Value.str (SS "is_box") 312) (Value.ref 101)), (DictEntry.mk (kh P (SS "is_step")) (Value.str (SS "is_step") 319) (Value.ref 108)), (DictEntry.mk (kh P (SS "need_web")) (Value.str (SS "need_web") 329) (Value.ref 115)), (DictEntry.mk (kh P (SS "FIGURES")) (Value.str (SS "FIGURES") 333) (Value.str (SS "0123456789") 332)), (DictEntry.mk (kh P (SS "step_text")) (Value.str (SS "step_text") 339) (Value.ref 120)), (DictEntry.mk (kh P (SS "shown")) (Value.str (SS "shown") 345) (Value.ref 125)), (DictEntry.mk (kh P (SS "number_of")) (Value.str (SS "number_of") 354) (Value.ref 132))] 27) #[])
noncomputable def o95 (P : Params) : Obj := (Obj.mk Value.none none (Data.fields #[(Value.int (2 : Int) 0), (Value.int (0 : Int) 0), (Value.ref 20), (Value.int (4 : Int) 0), (Value.int (0 : Int) 0), (Value.ref 33), (Value.int (6 : Int) 0), (Value.int (0 : Int) 0), (Value.ref 45), (Value.int (8 : Int) 0), (Value.int (0 : Int) 0), (Value.ref 57), (Value.int (10 : Int) 0), (Value.int (0 : Int) 0), (Value.ref 69), (Value.int (12 : Int) 0), (Value.int (0 : Int) 0), (Value.ref 81), (Value.int (19 : Int) 0), (Value.int (0 : Int) 0), (Value.ref 93), (Value.int (21 : Int) 0), (Value.int (0 : Int) 0), (Value.ref 100), (Value.int (23 : Int) 0), (Value.int (0 : Int) 0), (Value.ref 107), (Value.int (33 : Int) 0), (Value.int (0 : Int) 0), (Value.ref 114), (Value.int (50 : Int) 0), (Value.int (0 : Int) 0), (Value.ref 119), (Value.int (52 : Int) 0), (Value.int (0 : Int) 0), (Value.ref 124), (Value.int (55 : Int) 0), (Value.int (0 : Int) 0), (Value.ref 131)]) #[])
noncomputable def o96 (P : Params) : Obj := (Obj.mk (Value.type "tuple") none (Data.seq #[] 0) #[])
noncomputable def o97 (P : Params) : Obj := (Obj.mk Value.none none (Data.fields #[]) #[])
noncomputable def o98 (P : Params) : Obj := (Obj.mk (Value.type "tuple") none (Data.seq #[(Value.str (SS "thing") 302)] 0) #[])
noncomputable def o99 (P : Params) : Obj := (Obj.mk (Value.type "tuple") none (Data.seq #[] 0) #[])
noncomputable def o100 (P : Params) : Obj := (Obj.mk Value.none none (Data.func (PySem.FuncData.mk (SS "is_whole") (SS "is_whole") (fdA 12) (PySem.FuncBody.stmts (fdB 12)) (fdS 12) 0 [] Value.none Value.none Value.none Value.none none Value.none Value.none 0)) #[])
noncomputable def o101 (P : Params) : Obj := (Obj.mk (Value.type "code") none (Data.fields #[(Value.str (SS "is_whole") 299), (Value.str (SS "is_whole") 300), (Value.str (SS "/claim/cut.py") 301), (Value.int (19 : Int) 0), (Value.int (1 : Int) 0), (Value.int (0 : Int) 0), (Value.int (0 : Int) 0), (Value.int (3 : Int) 0), (Value.ref 88), (Value.bool true), (Value.int (181 : Int) 0), (Value.ref 89), Value.none, (Value.ref 90), (Value.ref 91), (Value.ref 92), (Value.int (303 : Int) 0), (Value.int (19 : Int) 0), (Value.str (SS "/claim/cut.py") 304)]) #[])
noncomputable def o102 (P : Params) : Obj := (Obj.mk (Value.type "function") none (Data.func (PySem.FuncData.mk (SS "is_whole") (SS "is_whole") (fdA 12) (PySem.FuncBody.stmts (fdB 12)) (fdS 12) 3 [] Value.none Value.none Value.none (Value.str (SS "fencewright.webs") 287) none (Value.ref 93) Value.none 0)) #[])
noncomputable def o103 (P : Params) : Obj := (Obj.mk (Value.type "tuple") none (Data.seq #[] 0) #[])
noncomputable def o104 (P : Params) : Obj := (Obj.mk Value.none none (Data.fields #[]) #[])
noncomputable def o105 (P : Params) : Obj := (Obj.mk (Value.type "tuple") none (Data.seq #[(Value.str (SS "thing") 309)] 0) #[])
noncomputable def o106 (P : Params) : Obj := (Obj.mk (Value.type "tuple") none (Data.seq #[] 0) #[])
noncomputable def o107 (P : Params) : Obj := (Obj.mk Value.none none (Data.func (PySem.FuncData.mk (SS "is_box") (SS "is_box") (fdA 13) (PySem.FuncBody.stmts (fdB 13)) (fdS 13) 0 [] Value.none Value.none Value.none Value.none none Value.none Value.none 0)) #[])
noncomputable def o108 (P : Params) : Obj := (Obj.mk (Value.type "code") none (Data.fields #[(Value.str (SS "is_box") 306), (Value.str (SS "is_box") 307), (Value.str (SS "/claim/cut.py") 308), (Value.int (21 : Int) 0), (Value.int (1 : Int) 0), (Value.int (0 : Int) 0), (Value.int (0 : Int) 0), (Value.int (3 : Int) 0), (Value.ref 95), (Value.bool true), (Value.int (181 : Int) 0), (Value.ref 96), Value.none, (Value.ref 97), (Value.ref 98), (Value.ref 99), (Value.int (310 : Int) 0), (Value.int (21 : Int) 0), (Value.str (SS "/claim/cut.py") 311)]) #[])
noncomputable def o109 (P : Params) : Obj := (Obj.mk (Value.type "function") none (Data.func (PySem.FuncData.mk (SS "is_box") (SS "is_box") (fdA 13) (PySem.FuncBody.stmts (fdB 13)) (fdS 13) 3 [] Value.none Value.none Value.none (Value.str (SS "fencewright.webs") 287) none (Value.ref 100) Value.none 0)) #[])
noncomputable def o110 (P : Params) : Obj := (Obj.mk (Value.type "tuple") none (Data.seq #[] 0) #[])
noncomputable def o111 (P : Params) : Obj := (Obj.mk Value.none none (Data.fields #[]) #[])
noncomputable def o112 (P : Params) : Obj := (Obj.mk (Value.type "tuple") none (Data.seq #[(Value.str (SS "thing") 316)] 0) #[])
noncomputable def o113 (P : Params) : Obj := (Obj.mk (Value.type "tuple") none (Data.seq #[] 0) #[])
noncomputable def o114 (P : Params) : Obj := (Obj.mk Value.none none (Data.func (PySem.FuncData.mk (SS "is_step") (SS "is_step") (fdA 14) (PySem.FuncBody.stmts (fdB 14)) (fdS 14) 0 [] Value.none Value.none Value.none Value.none none Value.none Value.none 0)) #[])
noncomputable def o115 (P : Params) : Obj := (Obj.mk (Value.type "code") none (Data.fields #[(Value.str (SS "is_step") 313), (Value.str (SS "is_step") 314), (Value.str (SS "/claim/cut.py") 315), (Value.int (23 : Int) 0), (Value.int (1 : Int) 0), (Value.int (0 : Int) 0), (Value.int (0 : Int) 0), (Value.int (3 : Int) 0), (Value.ref 102), (Value.bool true), (Value.int (181 : Int) 0), (Value.ref 103), Value.none, (Value.ref 104), (Value.ref 105), (Value.ref 106), (Value.int (317 : Int) 0), (Value.int (23 : Int) 0), (Value.str (SS "/claim/cut.py") 318)]) #[])
noncomputable def o116 (P : Params) : Obj := (Obj.mk (Value.type "function") none (Data.func (PySem.FuncData.mk (SS "is_step") (SS "is_step") (fdA 14) (PySem.FuncBody.stmts (fdB 14)) (fdS 14) 3 [] Value.none Value.none Value.none (Value.str (SS "fencewright.webs") 287) none (Value.ref 107) Value.none 0)) #[])
noncomputable def o117 (P : Params) : Obj := (Obj.mk (Value.type "tuple") none (Data.seq #[] 0) #[])
noncomputable def o118 (P : Params) : Obj := (Obj.mk Value.none none (Data.fields #[]) #[])
noncomputable def o119 (P : Params) : Obj := (Obj.mk (Value.type "tuple") none (Data.seq #[(Value.str (SS "web") 323), (Value.str (SS "deeds") 324), (Value.str (SS "row") 325), (Value.str (SS "step") 326)] 0) #[])
noncomputable def o120 (P : Params) : Obj := (Obj.mk (Value.type "tuple") none (Data.seq #[] 0) #[])
noncomputable def o121 (P : Params) : Obj := (Obj.mk Value.none none (Data.func (PySem.FuncData.mk (SS "need_web") (SS "need_web") (fdA 15) (PySem.FuncBody.stmts (fdB 15)) (fdS 15) 0 [] Value.none Value.none Value.none Value.none none Value.none Value.none 0)) #[])
noncomputable def o122 (P : Params) : Obj := (Obj.mk (Value.type "code") none (Data.fields #[(Value.str (SS "need_web") 320), (Value.str (SS "need_web") 321), (Value.str (SS "/claim/cut.py") 322), (Value.int (33 : Int) 0), (Value.int (1 : Int) 0), (Value.int (0 : Int) 0), (Value.int (0 : Int) 0), (Value.int (3 : Int) 0), (Value.ref 109), (Value.bool true), (Value.int (181 : Int) 0), (Value.ref 110), Value.none, (Value.ref 111), (Value.ref 112), (Value.ref 113), (Value.int (327 : Int) 0), (Value.int (33 : Int) 0), (Value.str (SS "/claim/cut.py") 328)]) #[])
noncomputable def o123 (P : Params) : Obj := (Obj.mk (Value.type "function") none (Data.func (PySem.FuncData.mk (SS "need_web") (SS "need_web") (fdA 15) (PySem.FuncBody.stmts (fdB 15)) (fdS 15) 3 [] Value.none Value.none Value.none (Value.str (SS "fencewright.webs") 287) none (Value.ref 114) Value.none 0)) #[])
noncomputable def o124 (P : Params) : Obj := (Obj.mk (Value.type "tuple") none (Data.seq #[] 0) #[])
noncomputable def o125 (P : Params) : Obj := (Obj.mk Value.none none (Data.fields #[]) #[])
noncomputable def o126 (P : Params) : Obj := (Obj.mk Value.none none (Data.func (PySem.FuncData.mk (SS "step_text") (SS "step_text") (fdA 18) (PySem.FuncBody.stmts (fdB 18)) (fdS 18) 0 [] Value.none Value.none Value.none Value.none none Value.none Value.none 0)) #[])
noncomputable def o127 (P : Params) : Obj := (Obj.mk (Value.type "code") none (Data.fields #[(Value.str (SS "step_text") 334), (Value.str (SS "step_text") 335), (Value.str (SS "/claim/cut.py") 336), (Value.int (50 : Int) 0), (Value.int (1 : Int) 0), (Value.int (0 : Int) 0), (Value.int (0 : Int) 0), (Value.int (3 : Int) 0), (Value.ref 116), (Value.bool true), (Value.int (181 : Int) 0), (Value.ref 117), Value.none, Value.none, Value.none, (Value.ref 118), (Value.int (337 : Int) 0), (Value.int (50 : Int) 0), (Value.str (SS "/claim/cut.py") 338)]) #[])
noncomputable def o128 (P : Params) : Obj := (Obj.mk (Value.type "function") none (Data.func (PySem.FuncData.mk (SS "step_text") (SS "step_text") (fdA 18) (PySem.FuncBody.stmts (fdB 18)) (fdS 18) 3 [] Value.none Value.none Value.none (Value.str (SS "fencewright.notes") 330) none (Value.ref 119) Value.none 0)) #[])
noncomputable def o129 (P : Params) : Obj := (Obj.mk (Value.type "tuple") none (Data.seq #[] 0) #[])
noncomputable def o130 (P : Params) : Obj := (Obj.mk Value.none none (Data.fields #[]) #[])
noncomputable def o131 (P : Params) : Obj := (Obj.mk Value.none none (Data.func (PySem.FuncData.mk (SS "shown") (SS "shown") (fdA 19) (PySem.FuncBody.stmts (fdB 19)) (fdS 19) 0 [] Value.none Value.none Value.none Value.none none Value.none Value.none 0)) #[])
noncomputable def o132 (P : Params) : Obj := (Obj.mk (Value.type "code") none (Data.fields #[(Value.str (SS "shown") 340), (Value.str (SS "shown") 341), (Value.str (SS "/claim/cut.py") 342), (Value.int (52 : Int) 0), (Value.int (1 : Int) 0), (Value.int (0 : Int) 0), (Value.int (0 : Int) 0), (Value.int (3 : Int) 0), (Value.ref 121), (Value.bool true), (Value.int (181 : Int) 0), (Value.ref 122), Value.none, Value.none, Value.none, (Value.ref 123), (Value.int (343 : Int) 0), (Value.int (52 : Int) 0), (Value.str (SS "/claim/cut.py") 344)]) #[])
noncomputable def o133 (P : Params) : Obj := (Obj.mk (Value.type "function") none (Data.func (PySem.FuncData.mk (SS "shown") (SS "shown") (fdA 19) (PySem.FuncBody.stmts (fdB 19)) (fdS 19) 3 [] Value.none Value.none Value.none (Value.str (SS "fencewright.notes") 330) none (Value.ref 124) Value.none 0)) #[])
noncomputable def o134 (P : Params) : Obj := (Obj.mk (Value.type "tuple") none (Data.seq #[] 0) #[])
noncomputable def o135 (P : Params) : Obj := (Obj.mk Value.none none (Data.fields #[]) #[])
noncomputable def o136 (P : Params) : Obj := (Obj.mk (Value.type "tuple") none (Data.seq #[(Value.str (SS "word") 349), (Value.str (SS "figures") 350), (Value.str (SS "sign") 351)] 0) #[])
noncomputable def o137 (P : Params) : Obj := (Obj.mk (Value.type "tuple") none (Data.seq #[] 0) #[])
noncomputable def o138 (P : Params) : Obj := (Obj.mk Value.none none (Data.func (PySem.FuncData.mk (SS "number_of") (SS "number_of") (fdA 20) (PySem.FuncBody.stmts (fdB 20)) (fdS 20) 0 [] Value.none Value.none Value.none Value.none none Value.none Value.none 0)) #[])
noncomputable def o139 (P : Params) : Obj := (Obj.mk (Value.type "code") none (Data.fields #[(Value.str (SS "number_of") 346), (Value.str (SS "number_of") 347), (Value.str (SS "/claim/cut.py") 348), (Value.int (55 : Int) 0), (Value.int (1 : Int) 0), (Value.int (0 : Int) 0), (Value.int (0 : Int) 0), (Value.int (3 : Int) 0), (Value.ref 126), (Value.bool true), (Value.int (181 : Int) 0), (Value.ref 127), Value.none, (Value.ref 128), (Value.ref 129), (Value.ref 130), (Value.int (352 : Int) 0), (Value.int (55 : Int) 0), (Value.str (SS "/claim/cut.py") 353)]) #[])
noncomputable def o140 (P : Params) : Obj := (Obj.mk (Value.type "function") none (Data.func (PySem.FuncData.mk (SS "number_of") (SS "number_of") (fdA 20) (PySem.FuncBody.stmts (fdB 20)) (fdS 20) 3 [] Value.none Value.none Value.none (Value.str (SS "fencewright.notes") 330) none (Value.ref 131) Value.none 0)) #[])
noncomputable def T7 (P : Params) : BT := (BT.node (boot_o_0 P) (BT.node (boot_o_1 P) (BT.node (o94 P) (BT.node (boot_o_7 P) (BT.node (o6 P) (BT.node (o25 P) (BT.node (o63 P) (BT.node (o135 P) BT.nil BT.nil) BT.nil) (BT.node (o103 P) BT.nil BT.nil)) (BT.node (o44 P) (BT.node (o85 P) BT.nil BT.nil) (BT.node (o119 P) BT.nil BT.nil))) (BT.node (o14 P) (BT.node (o33 P) (BT.node (o74 P) BT.nil BT.nil) (BT.node (o111 P) BT.nil BT.nil)) (BT.node (o55 P) (BT.node (o93 P) BT.nil BT.nil) (BT.node (o127 P) BT.nil BT.nil)))) (BT.node (o0 P) (BT.node (o10 P) (BT.node (o29 P) (BT.node (o70 P) (BT.node (o139 P) BT.nil BT.nil) BT.nil) (BT.node (o107 P) BT.nil BT.nil)) (BT.node (o48 P) (BT.node (o89 P) BT.nil BT.nil) (BT.node (o123 P) BT.nil BT.nil))) (BT.node (o18 P) (BT.node (o40 P) (BT.node (o78 P) BT.nil BT.nil) (BT.node (o115 P) BT.nil BT.nil)) (BT.node (o59 P) (BT.node (o99 P) BT.nil BT.nil) (BT.node (o131 P) BT.nil BT.nil))))) (BT.node (boot_o_5 P) (BT.node (boot_o_9 P) (BT.node (o8 P) (BT.node (o27 P) (BT.node (o68 P) (BT.node (o137 P) BT.nil BT.nil) BT.nil) (BT.node (o105 P) BT.nil BT.nil)) (BT.node (o46 P) (BT.node (o87 P) BT.nil BT.nil) (BT.node (o121 P) BT.nil BT.nil))) (BT.node (o16 P) (BT.node (o38 P) (BT.node (o76 P) BT.nil BT.nil) (BT.node (o113 P) BT.nil BT.nil)) (BT.node (o57 P) (BT.node (o97 P) BT.nil BT.nil) (BT.node (o129 P) BT.nil BT.nil)))) (BT.node (o2 P) (BT.node (o12 P) (BT.node (o31 P) (BT.node (o72 P) BT.nil BT.nil) (BT.node (o109 P) BT.nil BT.nil)) (BT.node (o53 P) (BT.node (o91 P) BT.nil BT.nil) (BT.node (o125 P) BT.nil BT.nil))) (BT.node (o23 P) (BT.node (o42 P) (BT.node (o83 P) BT.nil BT.nil) (BT.node (o117 P) BT.nil BT.nil)) (BT.node (o61 P) (BT.node (o101 P) BT.nil BT.nil) (BT.node (o133 P) BT.nil BT.nil)))))) (BT.node (boot_o_2 P) (BT.node (boot_o_4 P) (BT.node (boot_o_8 P) (BT.node (o7 P) (BT.node (o26 P) (BT.node (o67 P) (BT.node (o136 P) BT.nil BT.nil) BT.nil) (BT.node (o104 P) BT.nil BT.nil)) (BT.node (o45 P) (BT.node (o86 P) BT.nil BT.nil) (BT.node (o120 P) BT.nil BT.nil))) (BT.node (o81 P) (BT.node (o37 P) (BT.node (o75 P) BT.nil BT.nil) (BT.node (o112 P) BT.nil BT.nil)) (BT.node (o56 P) (BT.node (o96 P) BT.nil BT.nil) (BT.node (o128 P) BT.nil BT.nil)))) (BT.node (o95 P) (BT.node (o11 P) (BT.node (o30 P) (BT.node (o71 P) (BT.node (o140 P) BT.nil BT.nil) BT.nil) (BT.node (o108 P) BT.nil BT.nil)) (BT.node (o52 P) (BT.node (o90 P) BT.nil BT.nil) (BT.node (o124 P) BT.nil BT.nil))) (BT.node (o22 P) (BT.node (o41 P) (BT.node (o82 P) BT.nil BT.nil) (BT.node (o116 P) BT.nil BT.nil)) (BT.node (o60 P) (BT.node (o100 P) BT.nil BT.nil) (BT.node (o132 P) BT.nil BT.nil))))) (BT.node (boot_o_6 P) (BT.node (boot_o_10 P) (BT.node (o9 P) (BT.node (o28 P) (BT.node (o69 P) (BT.node (o138 P) BT.nil BT.nil) BT.nil) (BT.node (o106 P) BT.nil BT.nil)) (BT.node (o47 P) (BT.node (o88 P) BT.nil BT.nil) (BT.node (o122 P) BT.nil BT.nil))) (BT.node (o17 P) (BT.node (o39 P) (BT.node (o77 P) BT.nil BT.nil) (BT.node (o114 P) BT.nil BT.nil)) (BT.node (o58 P) (BT.node (o98 P) BT.nil BT.nil) (BT.node (o130 P) BT.nil BT.nil)))) (BT.node (o3 P) (BT.node (o13 P) (BT.node (o32 P) (BT.node (o73 P) BT.nil BT.nil) (BT.node (o110 P) BT.nil BT.nil)) (BT.node (o54 P) (BT.node (o92 P) BT.nil BT.nil) (BT.node (o126 P) BT.nil BT.nil))) (BT.node (o24 P) (BT.node (o43 P) (BT.node (o84 P) BT.nil BT.nil) (BT.node (o118 P) BT.nil BT.nil)) (BT.node (o62 P) (BT.node (o102 P) BT.nil BT.nil) (BT.node (o134 P) BT.nil BT.nil)))))))
noncomputable def S7 (w : World) (os : OsState) : SharedT := ⟨T7 w.params, 133, (PySem.Life.mk [] [] [] 0 [] [] false #[] [] 0 false false false (0 : Int) [(2000 : Int), (10 : Int), (10 : Int)] false 0 true [] [] 0 false), #[], (PySem.Drawn.mk 0 0 0 0), 355, os⟩
noncomputable def g7 : List Stmt := ((behindTheImports pp).drop 11).take 10
theorem c7 (w : World) (os : OsState) : segRunT treeTable pp w 11 ann0 1 236 (S6 w os) (piecesOf g7 env0 cod0 (PySem.Pos.mk 17 0 17 10) B0) = some (.next, S7 w os, cod0, (PySem.Pos.mk 55 0 64 20)) := seg_q (by kernel_rfl)
noncomputable def o141 (P : Params) : Obj := (Obj.mk (Value.type "dict") none (Data.dict #[(DictEntry.mk (kh P (SS "__name__")) (Value.str (SS "__name__") 165) (Value.str (SS "law_uf030029_12") 375)), (DictEntry.mk (kh P (SS "__doc__")) (Value.str (SS "__doc__") 166) Value.none), (DictEntry.mk (kh P (SS "__package__")) (Value.str (SS "__package__") 167) Value.none), (DictEntry.mk (kh P (SS "__loader__")) (Value.str (SS "__loader__") 168) (Value.builtin "__main__.__loader__#opaque")), (DictEntry.mk (kh P (SS "__spec__")) (Value.str (SS "__spec__") 169) Value.none), (DictEntry.mk (kh P (SS "__annotations__")) (Value.str (SS "__annotations__") 170) (Value.ref 6)), (DictEntry.mk (kh P (SS "__builtins__")) (Value.str (SS "__builtins__") 171) (Value.ref 4)), (DictEntry.mk (kh P (SS "__file__")) (Value.str (SS "__file__") 173) (Value.str (SS "/claim/cut.py") 172)), (DictEntry.mk (kh P (SS "__cached__")) (Value.str (SS "__cached__") 174) Value.none), (DictEntry.mk (kh P (SS "WebError")) (Value.str (SS "WebError") 206) (Value.ref 24)), (DictEntry.mk (kh P (SS "BadWeb")) (Value.str (SS "BadWeb") 222) (Value.ref 37)), (DictEntry.mk (kh P (SS "NoMove")) (Value.str (SS "NoMove") 238) (Value.ref 49)), (DictEntry.mk (kh P (SS "NotOver")) (Value.str (SS "NotOver") 254) (Value.ref 61)), (DictEntry.mk (kh P (SS "NoPlace")) (Value.str (SS "NoPlace") 270) (Value.ref 73)), (DictEntry.mk (kh P (SS "NoText")) (Value.str (SS "NoText") 286) (Value.ref 85)), (DictEntry.mk (kh P (SS "BOXES")) (Value.str (SS "BOXES") 290) (Value.int (4 : Int) 289)), (DictEntry.mk (kh P (SS "MOST_ROWS")) (Value.str (SS "MOST_ROWS") 292) (Value.int (3 : Int) 291)), (DictEntry.mk (kh P (SS "MOST_DEEDS")) (Value.str (SS "MOST_DEEDS") 294) (Value.int (8 : Int) 293)), (DictEntry.mk (kh P (SS "TOO_GREAT")) (Value.str (SS "TOO_GREAT") 298) (Value.int (1000000000000000000000000000000 : Int) 297)), (DictEntry.mk (kh P (SS "is_whole")) (Value.str (SS "is_whole") 305) (Value.ref 94)), (DictEntry.mk (kh P (SS "is_box")) (Value.str (SS "is_box") 312) (Value.ref 101)), (DictEntry.mk (kh P (SS "is_step")) (Value.str (SS "is_step") 319) (Value.ref 108)), (DictEntry.mk (kh P (SS "need_web")) (Value.str (SS "need_web") 329) (Value.ref 115)), (DictEntry.mk (kh P (SS "FIGURES")) (Value.str (SS "FIGURES") 333) (Value.str (SS "0123456789") 332)), (DictEntry.mk (kh P (SS "step_text")) (Value.str (SS "step_text") 339) (Value.ref 120)), (DictEntry.mk (kh P (SS "shown")) (Value.str (SS "shown") 345) (Value.ref 125)), (DictEntry.mk (kh P (SS "number_of")) (Value.str (SS "number_of") 354) (Value.ref 132)), (DictEntry.mk (kh P (SS "step_of")) (Value.str (SS "step_of") 362) (Value.ref 139)), (DictEntry.mk (kh P (SS "row_of")) (Value.str (SS "row_of") 368) (Value.ref 144)), (DictEntry.mk (kh P (SS "read")) (Value.str (SS "read") 374) (Value.ref 149)), (DictEntry.mk (kh P (SS "_law_cell_at")) (Value.str (SS "_law_cell_at") 384) (Value.ref 156)), (DictEntry.mk (kh P (SS "_law_number_by")) (Value.str (SS "_law_number_by") 391) (Value.ref 163)), (DictEntry.mk (kh P (SS "_law_step_by")) (Value.str (SS "_law_step_by") 398) (Value.ref 170)), (DictEntry.mk (kh P (SS "_law_web_by")) (Value.str (SS "_law_web_by") 404) (Value.ref 175)), (DictEntry.mk (kh P (SS "_law_text_by")) (Value.str (SS "_law_text_by") 410) (Value.ref 180))] 35) #[])
noncomputable def o142 (P : Params) : Obj := (Obj.mk Value.none none (Data.fields #[(Value.int (2 : Int) 0), (Value.int (0 : Int) 0), (Value.ref 20), (Value.int (4 : Int) 0), (Value.int (0 : Int) 0), (Value.ref 33), (Value.int (6 : Int) 0), (Value.int (0 : Int) 0), (Value.ref 45), (Value.int (8 : Int) 0), (Value.int (0 : Int) 0), (Value.ref 57), (Value.int (10 : Int) 0), (Value.int (0 : Int) 0), (Value.ref 69), (Value.int (12 : Int) 0), (Value.int (0 : Int) 0), (Value.ref 81), (Value.int (19 : Int) 0), (Value.int (0 : Int) 0), (Value.ref 93), (Value.int (21 : Int) 0), (Value.int (0 : Int) 0), (Value.ref 100), (Value.int (23 : Int) 0), (Value.int (0 : Int) 0), (Value.ref 107), (Value.int (33 : Int) 0), (Value.int (0 : Int) 0), (Value.ref 114), (Value.int (50 : Int) 0), (Value.int (0 : Int) 0), (Value.ref 119), (Value.int (52 : Int) 0), (Value.int (0 : Int) 0), (Value.ref 124), (Value.int (55 : Int) 0), (Value.int (0 : Int) 0), (Value.ref 131), (Value.int (65 : Int) 0), (Value.int (0 : Int) 0), (Value.ref 138), (Value.int (74 : Int) 0), (Value.int (0 : Int) 0), (Value.ref 143), (Value.int (78 : Int) 0), (Value.int (0 : Int) 0), (Value.ref 148), (Value.int (90 : Int) 0), (Value.int (0 : Int) 0), (Value.ref 155), (Value.int (94 : Int) 0), (Value.int (0 : Int) 0), (Value.ref 162), (Value.int (98 : Int) 0), (Value.int (0 : Int) 0), (Value.ref 169), (Value.int (104 : Int) 0), (Value.int (0 : Int) 0), (Value.ref 174), (Value.int (111 : Int) 0), (Value.int (0 : Int) 0), (Value.ref 179)]) #[])
noncomputable def o143 (P : Params) : Obj := (Obj.mk (Value.type "tuple") none (Data.seq #[] 0) #[])
noncomputable def o144 (P : Params) : Obj := (Obj.mk Value.none none (Data.fields #[]) #[])
noncomputable def o145 (P : Params) : Obj := (Obj.mk (Value.type "tuple") none (Data.seq #[(Value.str (SS "text") 358), (Value.str (SS "words") 359)] 0) #[])
noncomputable def o146 (P : Params) : Obj := (Obj.mk (Value.type "tuple") none (Data.seq #[] 0) #[])
noncomputable def o147 (P : Params) : Obj := (Obj.mk Value.none none (Data.func (PySem.FuncData.mk (SS "step_of") (SS "step_of") (fdA 21) (PySem.FuncBody.stmts (fdB 21)) (fdS 21) 0 [] Value.none Value.none Value.none Value.none none Value.none Value.none 0)) #[])
noncomputable def o148 (P : Params) : Obj := (Obj.mk (Value.type "code") none (Data.fields #[(Value.str (SS "step_of") 355), (Value.str (SS "step_of") 356), (Value.str (SS "/claim/cut.py") 357), (Value.int (65 : Int) 0), (Value.int (1 : Int) 0), (Value.int (0 : Int) 0), (Value.int (0 : Int) 0), (Value.int (3 : Int) 0), (Value.ref 133), (Value.bool true), (Value.int (181 : Int) 0), (Value.ref 134), Value.none, (Value.ref 135), (Value.ref 136), (Value.ref 137), (Value.int (360 : Int) 0), (Value.int (65 : Int) 0), (Value.str (SS "/claim/cut.py") 361)]) #[])
noncomputable def o149 (P : Params) : Obj := (Obj.mk (Value.type "function") none (Data.func (PySem.FuncData.mk (SS "step_of") (SS "step_of") (fdA 21) (PySem.FuncBody.stmts (fdB 21)) (fdS 21) 3 [] Value.none Value.none Value.none (Value.str (SS "fencewright.notes") 330) none (Value.ref 138) Value.none 0)) #[])
noncomputable def o150 (P : Params) : Obj := (Obj.mk (Value.type "tuple") none (Data.seq #[] 0) #[])
noncomputable def o151 (P : Params) : Obj := (Obj.mk Value.none none (Data.fields #[]) #[])
noncomputable def o152 (P : Params) : Obj := (Obj.mk Value.none none (Data.func (PySem.FuncData.mk (SS "row_of") (SS "row_of") (fdA 22) (PySem.FuncBody.stmts (fdB 22)) (fdS 22) 0 [] Value.none Value.none Value.none Value.none none Value.none Value.none 0)) #[])
noncomputable def o153 (P : Params) : Obj := (Obj.mk (Value.type "code") none (Data.fields #[(Value.str (SS "row_of") 363), (Value.str (SS "row_of") 364), (Value.str (SS "/claim/cut.py") 365), (Value.int (74 : Int) 0), (Value.int (1 : Int) 0), (Value.int (0 : Int) 0), (Value.int (0 : Int) 0), (Value.int (3 : Int) 0), (Value.ref 140), (Value.bool true), (Value.int (181 : Int) 0), (Value.ref 141), Value.none, Value.none, Value.none, (Value.ref 142), (Value.int (366 : Int) 0), (Value.int (74 : Int) 0), (Value.str (SS "/claim/cut.py") 367)]) #[])
noncomputable def o154 (P : Params) : Obj := (Obj.mk (Value.type "function") none (Data.func (PySem.FuncData.mk (SS "row_of") (SS "row_of") (fdA 22) (PySem.FuncBody.stmts (fdB 22)) (fdS 22) 3 [] Value.none Value.none Value.none (Value.str (SS "fencewright.notes") 330) none (Value.ref 143) Value.none 0)) #[])
noncomputable def o155 (P : Params) : Obj := (Obj.mk (Value.type "tuple") none (Data.seq #[] 0) #[])
noncomputable def o156 (P : Params) : Obj := (Obj.mk Value.none none (Data.fields #[]) #[])
noncomputable def o157 (P : Params) : Obj := (Obj.mk Value.none none (Data.func (PySem.FuncData.mk (SS "read") (SS "read") (fdA 23) (PySem.FuncBody.stmts (fdB 23)) (fdS 23) 0 [] Value.none Value.none Value.none Value.none none Value.none Value.none 0)) #[])
noncomputable def o158 (P : Params) : Obj := (Obj.mk (Value.type "code") none (Data.fields #[(Value.str (SS "read") 369), (Value.str (SS "read") 370), (Value.str (SS "/claim/cut.py") 371), (Value.int (78 : Int) 0), (Value.int (1 : Int) 0), (Value.int (0 : Int) 0), (Value.int (0 : Int) 0), (Value.int (3 : Int) 0), (Value.ref 145), (Value.bool true), (Value.int (181 : Int) 0), (Value.ref 146), Value.none, Value.none, Value.none, (Value.ref 147), (Value.int (372 : Int) 0), (Value.int (78 : Int) 0), (Value.str (SS "/claim/cut.py") 373)]) #[])
noncomputable def o159 (P : Params) : Obj := (Obj.mk (Value.type "function") none (Data.func (PySem.FuncData.mk (SS "read") (SS "read") (fdA 23) (PySem.FuncBody.stmts (fdB 23)) (fdS 23) 3 [] Value.none Value.none Value.none (Value.str (SS "fencewright.notes") 330) none (Value.ref 148) Value.none 0)) #[])
noncomputable def o160 (P : Params) : Obj := (Obj.mk (Value.type "tuple") none (Data.seq #[] 0) #[])
noncomputable def o161 (P : Params) : Obj := (Obj.mk Value.none none (Data.fields #[]) #[])
noncomputable def o162 (P : Params) : Obj := (Obj.mk (Value.type "tuple") none (Data.seq #[(Value.str (SS "_law_script") 380), (Value.str (SS "_law_k") 381)] 0) #[])
noncomputable def o163 (P : Params) : Obj := (Obj.mk (Value.type "tuple") none (Data.seq #[] 0) #[])
noncomputable def o164 (P : Params) : Obj := (Obj.mk Value.none none (Data.func (PySem.FuncData.mk (SS "_law_cell_at") (SS "_law_cell_at") (fdA 25) (PySem.FuncBody.stmts (fdB 25)) (fdS 25) 0 [] Value.none Value.none Value.none Value.none none Value.none Value.none 0)) #[])
noncomputable def o165 (P : Params) : Obj := (Obj.mk (Value.type "code") none (Data.fields #[(Value.str (SS "_law_cell_at") 377), (Value.str (SS "_law_cell_at") 378), (Value.str (SS "/claim/cut.py") 379), (Value.int (90 : Int) 0), (Value.int (2 : Int) 0), (Value.int (0 : Int) 0), (Value.int (0 : Int) 0), (Value.int (3 : Int) 0), (Value.ref 150), (Value.bool true), (Value.int (181 : Int) 0), (Value.ref 151), Value.none, (Value.ref 152), (Value.ref 153), (Value.ref 154), (Value.int (382 : Int) 0), (Value.int (90 : Int) 0), (Value.str (SS "/claim/cut.py") 383)]) #[])
noncomputable def o166 (P : Params) : Obj := (Obj.mk (Value.type "function") none (Data.func (PySem.FuncData.mk (SS "_law_cell_at") (SS "_law_cell_at") (fdA 25) (PySem.FuncBody.stmts (fdB 25)) (fdS 25) 3 [] Value.none Value.none Value.none (Value.str (SS "law_uf030029_12") 375) none (Value.ref 155) Value.none 0)) #[])
noncomputable def o167 (P : Params) : Obj := (Obj.mk (Value.type "tuple") none (Data.seq #[] 0) #[])
noncomputable def o168 (P : Params) : Obj := (Obj.mk Value.none none (Data.fields #[]) #[])
noncomputable def o169 (P : Params) : Obj := (Obj.mk (Value.type "tuple") none (Data.seq #[(Value.str (SS "_law_cell") 388)] 0) #[])
noncomputable def o170 (P : Params) : Obj := (Obj.mk (Value.type "tuple") none (Data.seq #[] 0) #[])
noncomputable def o171 (P : Params) : Obj := (Obj.mk Value.none none (Data.func (PySem.FuncData.mk (SS "_law_number_by") (SS "_law_number_by") (fdA 26) (PySem.FuncBody.stmts (fdB 26)) (fdS 26) 0 [] Value.none Value.none Value.none Value.none none Value.none Value.none 0)) #[])
noncomputable def o172 (P : Params) : Obj := (Obj.mk (Value.type "code") none (Data.fields #[(Value.str (SS "_law_number_by") 385), (Value.str (SS "_law_number_by") 386), (Value.str (SS "/claim/cut.py") 387), (Value.int (94 : Int) 0), (Value.int (1 : Int) 0), (Value.int (0 : Int) 0), (Value.int (0 : Int) 0), (Value.int (3 : Int) 0), (Value.ref 157), (Value.bool true), (Value.int (181 : Int) 0), (Value.ref 158), Value.none, (Value.ref 159), (Value.ref 160), (Value.ref 161), (Value.int (389 : Int) 0), (Value.int (94 : Int) 0), (Value.str (SS "/claim/cut.py") 390)]) #[])
noncomputable def o173 (P : Params) : Obj := (Obj.mk (Value.type "function") none (Data.func (PySem.FuncData.mk (SS "_law_number_by") (SS "_law_number_by") (fdA 26) (PySem.FuncBody.stmts (fdB 26)) (fdS 26) 3 [] Value.none Value.none Value.none (Value.str (SS "law_uf030029_12") 375) none (Value.ref 162) Value.none 0)) #[])
noncomputable def o174 (P : Params) : Obj := (Obj.mk (Value.type "tuple") none (Data.seq #[] 0) #[])
noncomputable def o175 (P : Params) : Obj := (Obj.mk Value.none none (Data.fields #[]) #[])
noncomputable def o176 (P : Params) : Obj := (Obj.mk (Value.type "tuple") none (Data.seq #[(Value.str (SS "_law_cell") 395)] 0) #[])
noncomputable def o177 (P : Params) : Obj := (Obj.mk (Value.type "tuple") none (Data.seq #[] 0) #[])
noncomputable def o178 (P : Params) : Obj := (Obj.mk Value.none none (Data.func (PySem.FuncData.mk (SS "_law_step_by") (SS "_law_step_by") (fdA 27) (PySem.FuncBody.stmts (fdB 27)) (fdS 27) 0 [] Value.none Value.none Value.none Value.none none Value.none Value.none 0)) #[])
noncomputable def o179 (P : Params) : Obj := (Obj.mk (Value.type "code") none (Data.fields #[(Value.str (SS "_law_step_by") 392), (Value.str (SS "_law_step_by") 393), (Value.str (SS "/claim/cut.py") 394), (Value.int (98 : Int) 0), (Value.int (1 : Int) 0), (Value.int (0 : Int) 0), (Value.int (0 : Int) 0), (Value.int (3 : Int) 0), (Value.ref 164), (Value.bool true), (Value.int (181 : Int) 0), (Value.ref 165), Value.none, (Value.ref 166), (Value.ref 167), (Value.ref 168), (Value.int (396 : Int) 0), (Value.int (98 : Int) 0), (Value.str (SS "/claim/cut.py") 397)]) #[])
noncomputable def o180 (P : Params) : Obj := (Obj.mk (Value.type "function") none (Data.func (PySem.FuncData.mk (SS "_law_step_by") (SS "_law_step_by") (fdA 27) (PySem.FuncBody.stmts (fdB 27)) (fdS 27) 3 [] Value.none Value.none Value.none (Value.str (SS "law_uf030029_12") 375) none (Value.ref 169) Value.none 0)) #[])
noncomputable def o181 (P : Params) : Obj := (Obj.mk (Value.type "tuple") none (Data.seq #[] 0) #[])
noncomputable def o182 (P : Params) : Obj := (Obj.mk Value.none none (Data.fields #[]) #[])
noncomputable def o183 (P : Params) : Obj := (Obj.mk Value.none none (Data.func (PySem.FuncData.mk (SS "_law_web_by") (SS "_law_web_by") (fdA 28) (PySem.FuncBody.stmts (fdB 28)) (fdS 28) 0 [] Value.none Value.none Value.none Value.none none Value.none Value.none 0)) #[])
noncomputable def o184 (P : Params) : Obj := (Obj.mk (Value.type "code") none (Data.fields #[(Value.str (SS "_law_web_by") 399), (Value.str (SS "_law_web_by") 400), (Value.str (SS "/claim/cut.py") 401), (Value.int (104 : Int) 0), (Value.int (1 : Int) 0), (Value.int (0 : Int) 0), (Value.int (0 : Int) 0), (Value.int (3 : Int) 0), (Value.ref 171), (Value.bool true), (Value.int (181 : Int) 0), (Value.ref 172), Value.none, Value.none, Value.none, (Value.ref 173), (Value.int (402 : Int) 0), (Value.int (104 : Int) 0), (Value.str (SS "/claim/cut.py") 403)]) #[])
noncomputable def o185 (P : Params) : Obj := (Obj.mk (Value.type "function") none (Data.func (PySem.FuncData.mk (SS "_law_web_by") (SS "_law_web_by") (fdA 28) (PySem.FuncBody.stmts (fdB 28)) (fdS 28) 3 [] Value.none Value.none Value.none (Value.str (SS "law_uf030029_12") 375) none (Value.ref 174) Value.none 0)) #[])
noncomputable def o186 (P : Params) : Obj := (Obj.mk (Value.type "tuple") none (Data.seq #[] 0) #[])
noncomputable def o187 (P : Params) : Obj := (Obj.mk Value.none none (Data.fields #[]) #[])
noncomputable def o188 (P : Params) : Obj := (Obj.mk Value.none none (Data.func (PySem.FuncData.mk (SS "_law_text_by") (SS "_law_text_by") (fdA 29) (PySem.FuncBody.stmts (fdB 29)) (fdS 29) 0 [] Value.none Value.none Value.none Value.none none Value.none Value.none 0)) #[])
noncomputable def o189 (P : Params) : Obj := (Obj.mk (Value.type "code") none (Data.fields #[(Value.str (SS "_law_text_by") 405), (Value.str (SS "_law_text_by") 406), (Value.str (SS "/claim/cut.py") 407), (Value.int (111 : Int) 0), (Value.int (1 : Int) 0), (Value.int (0 : Int) 0), (Value.int (0 : Int) 0), (Value.int (3 : Int) 0), (Value.ref 176), (Value.bool true), (Value.int (181 : Int) 0), (Value.ref 177), Value.none, Value.none, Value.none, (Value.ref 178), (Value.int (408 : Int) 0), (Value.int (111 : Int) 0), (Value.str (SS "/claim/cut.py") 409)]) #[])
noncomputable def o190 (P : Params) : Obj := (Obj.mk (Value.type "function") none (Data.func (PySem.FuncData.mk (SS "_law_text_by") (SS "_law_text_by") (fdA 29) (PySem.FuncBody.stmts (fdB 29)) (fdS 29) 3 [] Value.none Value.none Value.none (Value.str (SS "law_uf030029_12") 375) none (Value.ref 179) Value.none 0)) #[])
noncomputable def T8 (P : Params) : BT := (BT.node (boot_o_0 P) (BT.node (boot_o_1 P) (BT.node (o141 P) (BT.node (boot_o_7 P) (BT.node (o6 P) (BT.node (o25 P) (BT.node (o63 P) (BT.node (o135 P) BT.nil BT.nil) BT.nil) (BT.node (o103 P) (BT.node (o169 P) BT.nil BT.nil) BT.nil)) (BT.node (o44 P) (BT.node (o85 P) (BT.node (o153 P) BT.nil BT.nil) BT.nil) (BT.node (o119 P) (BT.node (o185 P) BT.nil BT.nil) BT.nil))) (BT.node (o14 P) (BT.node (o33 P) (BT.node (o74 P) (BT.node (o145 P) BT.nil BT.nil) BT.nil) (BT.node (o111 P) (BT.node (o177 P) BT.nil BT.nil) BT.nil)) (BT.node (o55 P) (BT.node (o93 P) (BT.node (o161 P) BT.nil BT.nil) BT.nil) (BT.node (o127 P) BT.nil BT.nil)))) (BT.node (o0 P) (BT.node (o10 P) (BT.node (o29 P) (BT.node (o70 P) (BT.node (o139 P) BT.nil BT.nil) BT.nil) (BT.node (o107 P) (BT.node (o173 P) BT.nil BT.nil) BT.nil)) (BT.node (o48 P) (BT.node (o89 P) (BT.node (o157 P) BT.nil BT.nil) BT.nil) (BT.node (o123 P) (BT.node (o189 P) BT.nil BT.nil) BT.nil))) (BT.node (o18 P) (BT.node (o40 P) (BT.node (o78 P) (BT.node (o149 P) BT.nil BT.nil) BT.nil) (BT.node (o115 P) (BT.node (o181 P) BT.nil BT.nil) BT.nil)) (BT.node (o59 P) (BT.node (o99 P) (BT.node (o165 P) BT.nil BT.nil) BT.nil) (BT.node (o131 P) BT.nil BT.nil))))) (BT.node (boot_o_5 P) (BT.node (boot_o_9 P) (BT.node (o8 P) (BT.node (o27 P) (BT.node (o68 P) (BT.node (o137 P) BT.nil BT.nil) BT.nil) (BT.node (o105 P) (BT.node (o171 P) BT.nil BT.nil) BT.nil)) (BT.node (o46 P) (BT.node (o87 P) (BT.node (o155 P) BT.nil BT.nil) BT.nil) (BT.node (o121 P) (BT.node (o187 P) BT.nil BT.nil) BT.nil))) (BT.node (o16 P) (BT.node (o38 P) (BT.node (o76 P) (BT.node (o147 P) BT.nil BT.nil) BT.nil) (BT.node (o113 P) (BT.node (o179 P) BT.nil BT.nil) BT.nil)) (BT.node (o57 P) (BT.node (o97 P) (BT.node (o163 P) BT.nil BT.nil) BT.nil) (BT.node (o129 P) BT.nil BT.nil)))) (BT.node (o2 P) (BT.node (o12 P) (BT.node (o31 P) (BT.node (o72 P) (BT.node (o143 P) BT.nil BT.nil) BT.nil) (BT.node (o109 P) (BT.node (o175 P) BT.nil BT.nil) BT.nil)) (BT.node (o53 P) (BT.node (o91 P) (BT.node (o159 P) BT.nil BT.nil) BT.nil) (BT.node (o125 P) BT.nil BT.nil))) (BT.node (o23 P) (BT.node (o42 P) (BT.node (o83 P) (BT.node (o151 P) BT.nil BT.nil) BT.nil) (BT.node (o117 P) (BT.node (o183 P) BT.nil BT.nil) BT.nil)) (BT.node (o61 P) (BT.node (o101 P) (BT.node (o167 P) BT.nil BT.nil) BT.nil) (BT.node (o133 P) BT.nil BT.nil)))))) (BT.node (boot_o_2 P) (BT.node (boot_o_4 P) (BT.node (boot_o_8 P) (BT.node (o7 P) (BT.node (o26 P) (BT.node (o67 P) (BT.node (o136 P) BT.nil BT.nil) BT.nil) (BT.node (o104 P) (BT.node (o170 P) BT.nil BT.nil) BT.nil)) (BT.node (o45 P) (BT.node (o86 P) (BT.node (o154 P) BT.nil BT.nil) BT.nil) (BT.node (o120 P) (BT.node (o186 P) BT.nil BT.nil) BT.nil))) (BT.node (o81 P) (BT.node (o37 P) (BT.node (o75 P) (BT.node (o146 P) BT.nil BT.nil) BT.nil) (BT.node (o112 P) (BT.node (o178 P) BT.nil BT.nil) BT.nil)) (BT.node (o56 P) (BT.node (o96 P) (BT.node (o162 P) BT.nil BT.nil) BT.nil) (BT.node (o128 P) BT.nil BT.nil)))) (BT.node (o142 P) (BT.node (o11 P) (BT.node (o30 P) (BT.node (o71 P) (BT.node (o140 P) BT.nil BT.nil) BT.nil) (BT.node (o108 P) (BT.node (o174 P) BT.nil BT.nil) BT.nil)) (BT.node (o52 P) (BT.node (o90 P) (BT.node (o158 P) BT.nil BT.nil) BT.nil) (BT.node (o124 P) (BT.node (o190 P) BT.nil BT.nil) BT.nil))) (BT.node (o22 P) (BT.node (o41 P) (BT.node (o82 P) (BT.node (o150 P) BT.nil BT.nil) BT.nil) (BT.node (o116 P) (BT.node (o182 P) BT.nil BT.nil) BT.nil)) (BT.node (o60 P) (BT.node (o100 P) (BT.node (o166 P) BT.nil BT.nil) BT.nil) (BT.node (o132 P) BT.nil BT.nil))))) (BT.node (boot_o_6 P) (BT.node (boot_o_10 P) (BT.node (o9 P) (BT.node (o28 P) (BT.node (o69 P) (BT.node (o138 P) BT.nil BT.nil) BT.nil) (BT.node (o106 P) (BT.node (o172 P) BT.nil BT.nil) BT.nil)) (BT.node (o47 P) (BT.node (o88 P) (BT.node (o156 P) BT.nil BT.nil) BT.nil) (BT.node (o122 P) (BT.node (o188 P) BT.nil BT.nil) BT.nil))) (BT.node (o17 P) (BT.node (o39 P) (BT.node (o77 P) (BT.node (o148 P) BT.nil BT.nil) BT.nil) (BT.node (o114 P) (BT.node (o180 P) BT.nil BT.nil) BT.nil)) (BT.node (o58 P) (BT.node (o98 P) (BT.node (o164 P) BT.nil BT.nil) BT.nil) (BT.node (o130 P) BT.nil BT.nil)))) (BT.node (o3 P) (BT.node (o13 P) (BT.node (o32 P) (BT.node (o73 P) (BT.node (o144 P) BT.nil BT.nil) BT.nil) (BT.node (o110 P) (BT.node (o176 P) BT.nil BT.nil) BT.nil)) (BT.node (o54 P) (BT.node (o92 P) (BT.node (o160 P) BT.nil BT.nil) BT.nil) (BT.node (o126 P) BT.nil BT.nil))) (BT.node (o24 P) (BT.node (o43 P) (BT.node (o84 P) (BT.node (o152 P) BT.nil BT.nil) BT.nil) (BT.node (o118 P) (BT.node (o184 P) BT.nil BT.nil) BT.nil)) (BT.node (o62 P) (BT.node (o102 P) (BT.node (o168 P) BT.nil BT.nil) BT.nil) (BT.node (o134 P) BT.nil BT.nil)))))))
noncomputable def S8 (w : World) (os : OsState) : SharedT := ⟨T8 w.params, 181, (PySem.Life.mk [] [] [] 0 [] [] false #[] [] 0 false false false (0 : Int) [(2000 : Int), (10 : Int), (10 : Int)] false 0 true [] [] 0 false), #[], (PySem.Drawn.mk 0 0 0 0), 411, os⟩
noncomputable def g8 : List Stmt := ((behindTheImports pp).drop 21).take 9
theorem c8 (w : World) (os : OsState) : segRunT treeTable pp w 11 ann0 1 232 (S7 w os) (piecesOf g8 env0 cod0 (PySem.Pos.mk 55 0 64 20) B0) = some (.next, S8 w os, cod0, (PySem.Pos.mk 111 0 118 32)) := seg_q (by kernel_rfl)
noncomputable def o191 (P : Params) : Obj := (Obj.mk (Value.type "dict") none (Data.dict #[(DictEntry.mk (kh P (SS "__name__")) (Value.str (SS "__name__") 165) (Value.str (SS "law_uf030029_12") 375)), (DictEntry.mk (kh P (SS "__doc__")) (Value.str (SS "__doc__") 166) Value.none), (DictEntry.mk (kh P (SS "__package__")) (Value.str (SS "__package__") 167) Value.none), (DictEntry.mk (kh P (SS "__loader__")) (Value.str (SS "__loader__") 168) (Value.builtin "__main__.__loader__#opaque")), (DictEntry.mk (kh P (SS "__spec__")) (Value.str (SS "__spec__") 169) Value.none), (DictEntry.mk (kh P (SS "__annotations__")) (Value.str (SS "__annotations__") 170) (Value.ref 6)), (DictEntry.mk (kh P (SS "__builtins__")) (Value.str (SS "__builtins__") 171) (Value.ref 4)), (DictEntry.mk (kh P (SS "__file__")) (Value.str (SS "__file__") 173) (Value.str (SS "/claim/cut.py") 172)), (DictEntry.mk (kh P (SS "__cached__")) (Value.str (SS "__cached__") 174) Value.none), (DictEntry.mk (kh P (SS "WebError")) (Value.str (SS "WebError") 206) (Value.ref 24)), (DictEntry.mk (kh P (SS "BadWeb")) (Value.str (SS "BadWeb") 222) (Value.ref 37)), (DictEntry.mk (kh P (SS "NoMove")) (Value.str (SS "NoMove") 238) (Value.ref 49)), (DictEntry.mk (kh P (SS "NotOver")) (Value.str (SS "NotOver") 254) (Value.ref 61)), (DictEntry.mk (kh P (SS "NoPlace")) (Value.str (SS "NoPlace") 270) (Value.ref 73)), (DictEntry.mk (kh P (SS "NoText")) (Value.str (SS "NoText") 286) (Value.ref 85)), (DictEntry.mk (kh P (SS "BOXES")) (Value.str (SS "BOXES") 290) (Value.int (4 : Int) 289)), (DictEntry.mk (kh P (SS "MOST_ROWS")) (Value.str (SS "MOST_ROWS") 292) (Value.int (3 : Int) 291)), (DictEntry.mk (kh P (SS "MOST_DEEDS")) (Value.str (SS "MOST_DEEDS") 294) (Value.int (8 : Int) 293)), (DictEntry.mk (kh P (SS "TOO_GREAT")) (Value.str (SS "TOO_GREAT") 298) (Value.int (1000000000000000000000000000000 : Int) 297)), (DictEntry.mk (kh P (SS "is_whole")) (Value.str (SS "is_whole") 305) (Value.ref 94)), (DictEntry.mk (kh P (SS "is_box")) (Value.str (SS "is_box") 312) (Value.ref 101)), (DictEntry.mk (kh P (SS "is_step")) (Value.str (SS "is_step") 319) (Value.ref 108)), (DictEntry.mk (kh P (SS "need_web")) (Value.str (SS "need_web") 329) (Value.ref 115)), (DictEntry.mk (kh P (SS "FIGURES")) (Value.str (SS "FIGURES") 333) (Value.str (SS "0123456789") 332)), (DictEntry.mk (kh P (SS "step_text")) (Value.str (SS "step_text") 339) (Value.ref 120)), (DictEntry.mk (kh P (SS "shown")) (Value.str (SS "shown") 345) (Value.ref 125)), (DictEntry.mk (kh P (SS "number_of")) (Value.str (SS "number_of") 354) (Value.ref 132)), (DictEntry.mk (kh P (SS "step_of")) (Value.str (SS "step_of") 362) (Value.ref 139)), (DictEntry.mk (kh P (SS "row_of")) (Value.str (SS "row_of") 368) (Value.ref 144)), (DictEntry.mk (kh P (SS "read")) (Value.str (SS "read") 374) (Value.ref 149)), (DictEntry.mk (kh P (SS "_law_cell_at")) (Value.str (SS "_law_cell_at") 384) (Value.ref 156)), (DictEntry.mk (kh P (SS "_law_number_by")) (Value.str (SS "_law_number_by") 391) (Value.ref 163)), (DictEntry.mk (kh P (SS "_law_step_by")) (Value.str (SS "_law_step_by") 398) (Value.ref 170)), (DictEntry.mk (kh P (SS "_law_web_by")) (Value.str (SS "_law_web_by") 404) (Value.ref 175)), (DictEntry.mk (kh P (SS "_law_text_by")) (Value.str (SS "_law_text_by") 410) (Value.ref 180)), (DictEntry.mk (kh P (SS "_law_changed")) (Value.str (SS "_law_changed") 421) (Value.ref 187)), (DictEntry.mk (kh P (SS "_law_odd")) (Value.str (SS "_law_odd") 429) (Value.ref 194)), (DictEntry.mk (kh P (SS "_law_number")) (Value.str (SS "_law_number") 435) (Value.ref 199)), (DictEntry.mk (kh P (SS "_law_step")) (Value.str (SS "_law_step") 441) (Value.ref 204)), (DictEntry.mk (kh P (SS "_law_due")) (Value.str (SS "_law_due") 447) (Value.ref 209)), (DictEntry.mk (kh P (SS "_law_read")) (Value.str (SS "_law_read") 456) (Value.ref 216)), (DictEntry.mk (kh P (SS "_law_same")) (Value.str (SS "_law_same") 462) (Value.ref 221)), (DictEntry.mk (kh P (SS "law")) (Value.str (SS "law") 468) (Value.ref 226))] 43) #[])
noncomputable def o192 (P : Params) : Obj := (Obj.mk Value.none none (Data.fields #[(Value.int (2 : Int) 0), (Value.int (0 : Int) 0), (Value.ref 20), (Value.int (4 : Int) 0), (Value.int (0 : Int) 0), (Value.ref 33), (Value.int (6 : Int) 0), (Value.int (0 : Int) 0), (Value.ref 45), (Value.int (8 : Int) 0), (Value.int (0 : Int) 0), (Value.ref 57), (Value.int (10 : Int) 0), (Value.int (0 : Int) 0), (Value.ref 69), (Value.int (12 : Int) 0), (Value.int (0 : Int) 0), (Value.ref 81), (Value.int (19 : Int) 0), (Value.int (0 : Int) 0), (Value.ref 93), (Value.int (21 : Int) 0), (Value.int (0 : Int) 0), (Value.ref 100), (Value.int (23 : Int) 0), (Value.int (0 : Int) 0), (Value.ref 107), (Value.int (33 : Int) 0), (Value.int (0 : Int) 0), (Value.ref 114), (Value.int (50 : Int) 0), (Value.int (0 : Int) 0), (Value.ref 119), (Value.int (52 : Int) 0), (Value.int (0 : Int) 0), (Value.ref 124), (Value.int (55 : Int) 0), (Value.int (0 : Int) 0), (Value.ref 131), (Value.int (65 : Int) 0), (Value.int (0 : Int) 0), (Value.ref 138), (Value.int (74 : Int) 0), (Value.int (0 : Int) 0), (Value.ref 143), (Value.int (78 : Int) 0), (Value.int (0 : Int) 0), (Value.ref 148), (Value.int (90 : Int) 0), (Value.int (0 : Int) 0), (Value.ref 155), (Value.int (94 : Int) 0), (Value.int (0 : Int) 0), (Value.ref 162), (Value.int (98 : Int) 0), (Value.int (0 : Int) 0), (Value.ref 169), (Value.int (104 : Int) 0), (Value.int (0 : Int) 0), (Value.ref 174), (Value.int (111 : Int) 0), (Value.int (0 : Int) 0), (Value.ref 179), (Value.int (119 : Int) 0), (Value.int (0 : Int) 0), (Value.ref 186), (Value.int (129 : Int) 0), (Value.int (0 : Int) 0), (Value.ref 193), (Value.int (134 : Int) 0), (Value.int (0 : Int) 0), (Value.ref 198), (Value.int (141 : Int) 0), (Value.int (0 : Int) 0), (Value.ref 203), (Value.int (151 : Int) 0), (Value.int (0 : Int) 0), (Value.ref 208), (Value.int (161 : Int) 0), (Value.int (0 : Int) 0), (Value.ref 215), (Value.int (168 : Int) 0), (Value.int (0 : Int) 0), (Value.ref 220), (Value.int (178 : Int) 0), (Value.int (0 : Int) 0), (Value.ref 225)]) #[])
noncomputable def o193 (P : Params) : Obj := (Obj.mk (Value.type "tuple") none (Data.seq #[] 0) #[])
noncomputable def o194 (P : Params) : Obj := (Obj.mk Value.none none (Data.fields #[]) #[])
noncomputable def o195 (P : Params) : Obj := (Obj.mk (Value.type "tuple") none (Data.seq #[(Value.str (SS "_law_text") 414), (Value.str (SS "_law_cell") 415), (Value.str (SS "_law_some") 416), (Value.str (SS "_law_at") 417), (Value.str (SS "_law_sign") 418)] 0) #[])
noncomputable def o196 (P : Params) : Obj := (Obj.mk (Value.type "tuple") none (Data.seq #[] 0) #[])
noncomputable def o197 (P : Params) : Obj := (Obj.mk Value.none none (Data.func (PySem.FuncData.mk (SS "_law_changed") (SS "_law_changed") (fdA 30) (PySem.FuncBody.stmts (fdB 30)) (fdS 30) 0 [] Value.none Value.none Value.none Value.none none Value.none Value.none 0)) #[])
noncomputable def o198 (P : Params) : Obj := (Obj.mk (Value.type "code") none (Data.fields #[(Value.str (SS "_law_changed") 411), (Value.str (SS "_law_changed") 412), (Value.str (SS "/claim/cut.py") 413), (Value.int (119 : Int) 0), (Value.int (2 : Int) 0), (Value.int (0 : Int) 0), (Value.int (0 : Int) 0), (Value.int (3 : Int) 0), (Value.ref 181), (Value.bool true), (Value.int (181 : Int) 0), (Value.ref 182), Value.none, (Value.ref 183), (Value.ref 184), (Value.ref 185), (Value.int (419 : Int) 0), (Value.int (119 : Int) 0), (Value.str (SS "/claim/cut.py") 420)]) #[])
noncomputable def o199 (P : Params) : Obj := (Obj.mk (Value.type "function") none (Data.func (PySem.FuncData.mk (SS "_law_changed") (SS "_law_changed") (fdA 30) (PySem.FuncBody.stmts (fdB 30)) (fdS 30) 3 [] Value.none Value.none Value.none (Value.str (SS "law_uf030029_12") 375) none (Value.ref 186) Value.none 0)) #[])
noncomputable def o200 (P : Params) : Obj := (Obj.mk (Value.type "tuple") none (Data.seq #[] 0) #[])
noncomputable def o201 (P : Params) : Obj := (Obj.mk Value.none none (Data.fields #[]) #[])
noncomputable def o202 (P : Params) : Obj := (Obj.mk (Value.type "tuple") none (Data.seq #[(Value.str (SS "_law_cell") 425), (Value.str (SS "_law_some") 426)] 0) #[])
noncomputable def o203 (P : Params) : Obj := (Obj.mk (Value.type "tuple") none (Data.seq #[] 0) #[])
noncomputable def o204 (P : Params) : Obj := (Obj.mk Value.none none (Data.func (PySem.FuncData.mk (SS "_law_odd") (SS "_law_odd") (fdA 31) (PySem.FuncBody.stmts (fdB 31)) (fdS 31) 0 [] Value.none Value.none Value.none Value.none none Value.none Value.none 0)) #[])
noncomputable def o205 (P : Params) : Obj := (Obj.mk (Value.type "code") none (Data.fields #[(Value.str (SS "_law_odd") 422), (Value.str (SS "_law_odd") 423), (Value.str (SS "/claim/cut.py") 424), (Value.int (129 : Int) 0), (Value.int (1 : Int) 0), (Value.int (0 : Int) 0), (Value.int (0 : Int) 0), (Value.int (3 : Int) 0), (Value.ref 188), (Value.bool true), (Value.int (181 : Int) 0), (Value.ref 189), Value.none, (Value.ref 190), (Value.ref 191), (Value.ref 192), (Value.int (427 : Int) 0), (Value.int (129 : Int) 0), (Value.str (SS "/claim/cut.py") 428)]) #[])
noncomputable def o206 (P : Params) : Obj := (Obj.mk (Value.type "function") none (Data.func (PySem.FuncData.mk (SS "_law_odd") (SS "_law_odd") (fdA 31) (PySem.FuncBody.stmts (fdB 31)) (fdS 31) 3 [] Value.none Value.none Value.none (Value.str (SS "law_uf030029_12") 375) none (Value.ref 193) Value.none 0)) #[])
noncomputable def o207 (P : Params) : Obj := (Obj.mk (Value.type "tuple") none (Data.seq #[] 0) #[])
noncomputable def o208 (P : Params) : Obj := (Obj.mk Value.none none (Data.fields #[]) #[])
noncomputable def o209 (P : Params) : Obj := (Obj.mk Value.none none (Data.func (PySem.FuncData.mk (SS "_law_number") (SS "_law_number") (fdA 32) (PySem.FuncBody.stmts (fdB 32)) (fdS 32) 0 [] Value.none Value.none Value.none Value.none none Value.none Value.none 0)) #[])
noncomputable def o210 (P : Params) : Obj := (Obj.mk (Value.type "code") none (Data.fields #[(Value.str (SS "_law_number") 430), (Value.str (SS "_law_number") 431), (Value.str (SS "/claim/cut.py") 432), (Value.int (134 : Int) 0), (Value.int (1 : Int) 0), (Value.int (0 : Int) 0), (Value.int (0 : Int) 0), (Value.int (3 : Int) 0), (Value.ref 195), (Value.bool true), (Value.int (181 : Int) 0), (Value.ref 196), Value.none, Value.none, Value.none, (Value.ref 197), (Value.int (433 : Int) 0), (Value.int (134 : Int) 0), (Value.str (SS "/claim/cut.py") 434)]) #[])
noncomputable def o211 (P : Params) : Obj := (Obj.mk (Value.type "function") none (Data.func (PySem.FuncData.mk (SS "_law_number") (SS "_law_number") (fdA 32) (PySem.FuncBody.stmts (fdB 32)) (fdS 32) 3 [] Value.none Value.none Value.none (Value.str (SS "law_uf030029_12") 375) none (Value.ref 198) Value.none 0)) #[])
noncomputable def o212 (P : Params) : Obj := (Obj.mk (Value.type "tuple") none (Data.seq #[] 0) #[])
noncomputable def o213 (P : Params) : Obj := (Obj.mk Value.none none (Data.fields #[]) #[])
noncomputable def o214 (P : Params) : Obj := (Obj.mk Value.none none (Data.func (PySem.FuncData.mk (SS "_law_step") (SS "_law_step") (fdA 33) (PySem.FuncBody.stmts (fdB 33)) (fdS 33) 0 [] Value.none Value.none Value.none Value.none none Value.none Value.none 0)) #[])
noncomputable def o215 (P : Params) : Obj := (Obj.mk (Value.type "code") none (Data.fields #[(Value.str (SS "_law_step") 436), (Value.str (SS "_law_step") 437), (Value.str (SS "/claim/cut.py") 438), (Value.int (141 : Int) 0), (Value.int (1 : Int) 0), (Value.int (0 : Int) 0), (Value.int (0 : Int) 0), (Value.int (3 : Int) 0), (Value.ref 200), (Value.bool true), (Value.int (181 : Int) 0), (Value.ref 201), Value.none, Value.none, Value.none, (Value.ref 202), (Value.int (439 : Int) 0), (Value.int (141 : Int) 0), (Value.str (SS "/claim/cut.py") 440)]) #[])
noncomputable def o216 (P : Params) : Obj := (Obj.mk (Value.type "function") none (Data.func (PySem.FuncData.mk (SS "_law_step") (SS "_law_step") (fdA 33) (PySem.FuncBody.stmts (fdB 33)) (fdS 33) 3 [] Value.none Value.none Value.none (Value.str (SS "law_uf030029_12") 375) none (Value.ref 203) Value.none 0)) #[])
noncomputable def o217 (P : Params) : Obj := (Obj.mk (Value.type "tuple") none (Data.seq #[] 0) #[])
noncomputable def o218 (P : Params) : Obj := (Obj.mk Value.none none (Data.fields #[]) #[])
noncomputable def o219 (P : Params) : Obj := (Obj.mk Value.none none (Data.func (PySem.FuncData.mk (SS "_law_due") (SS "_law_due") (fdA 34) (PySem.FuncBody.stmts (fdB 34)) (fdS 34) 0 [] Value.none Value.none Value.none Value.none none Value.none Value.none 0)) #[])
noncomputable def o220 (P : Params) : Obj := (Obj.mk (Value.type "code") none (Data.fields #[(Value.str (SS "_law_due") 442), (Value.str (SS "_law_due") 443), (Value.str (SS "/claim/cut.py") 444), (Value.int (151 : Int) 0), (Value.int (1 : Int) 0), (Value.int (0 : Int) 0), (Value.int (0 : Int) 0), (Value.int (3 : Int) 0), (Value.ref 205), (Value.bool true), (Value.int (181 : Int) 0), (Value.ref 206), Value.none, Value.none, Value.none, (Value.ref 207), (Value.int (445 : Int) 0), (Value.int (151 : Int) 0), (Value.str (SS "/claim/cut.py") 446)]) #[])
noncomputable def o221 (P : Params) : Obj := (Obj.mk (Value.type "function") none (Data.func (PySem.FuncData.mk (SS "_law_due") (SS "_law_due") (fdA 34) (PySem.FuncBody.stmts (fdB 34)) (fdS 34) 3 [] Value.none Value.none Value.none (Value.str (SS "law_uf030029_12") 375) none (Value.ref 208) Value.none 0)) #[])
noncomputable def o222 (P : Params) : Obj := (Obj.mk (Value.type "tuple") none (Data.seq #[] 0) #[])
noncomputable def o223 (P : Params) : Obj := (Obj.mk Value.none none (Data.fields #[]) #[])
noncomputable def o224 (P : Params) : Obj := (Obj.mk (Value.type "tuple") none (Data.seq #[(Value.str (SS "_law_text") 451), (Value.str (SS "error") 452), (Value.str (SS "_law_other") 453)] 0) #[])
noncomputable def o225 (P : Params) : Obj := (Obj.mk (Value.type "tuple") none (Data.seq #[] 0) #[])
noncomputable def o226 (P : Params) : Obj := (Obj.mk Value.none none (Data.func (PySem.FuncData.mk (SS "_law_read") (SS "_law_read") (fdA 35) (PySem.FuncBody.stmts (fdB 35)) (fdS 35) 0 [] Value.none Value.none Value.none Value.none none Value.none Value.none 0)) #[])
noncomputable def o227 (P : Params) : Obj := (Obj.mk (Value.type "code") none (Data.fields #[(Value.str (SS "_law_read") 448), (Value.str (SS "_law_read") 449), (Value.str (SS "/claim/cut.py") 450), (Value.int (161 : Int) 0), (Value.int (1 : Int) 0), (Value.int (0 : Int) 0), (Value.int (0 : Int) 0), (Value.int (3 : Int) 0), (Value.ref 210), (Value.bool true), (Value.int (181 : Int) 0), (Value.ref 211), Value.none, (Value.ref 212), (Value.ref 213), (Value.ref 214), (Value.int (454 : Int) 0), (Value.int (161 : Int) 0), (Value.str (SS "/claim/cut.py") 455)]) #[])
noncomputable def o228 (P : Params) : Obj := (Obj.mk (Value.type "function") none (Data.func (PySem.FuncData.mk (SS "_law_read") (SS "_law_read") (fdA 35) (PySem.FuncBody.stmts (fdB 35)) (fdS 35) 3 [] Value.none Value.none Value.none (Value.str (SS "law_uf030029_12") 375) none (Value.ref 215) Value.none 0)) #[])
noncomputable def o229 (P : Params) : Obj := (Obj.mk (Value.type "tuple") none (Data.seq #[] 0) #[])
noncomputable def o230 (P : Params) : Obj := (Obj.mk Value.none none (Data.fields #[]) #[])
noncomputable def o231 (P : Params) : Obj := (Obj.mk Value.none none (Data.func (PySem.FuncData.mk (SS "_law_same") (SS "_law_same") (fdA 36) (PySem.FuncBody.stmts (fdB 36)) (fdS 36) 0 [] Value.none Value.none Value.none Value.none none Value.none Value.none 0)) #[])
noncomputable def o232 (P : Params) : Obj := (Obj.mk (Value.type "code") none (Data.fields #[(Value.str (SS "_law_same") 457), (Value.str (SS "_law_same") 458), (Value.str (SS "/claim/cut.py") 459), (Value.int (168 : Int) 0), (Value.int (2 : Int) 0), (Value.int (0 : Int) 0), (Value.int (0 : Int) 0), (Value.int (3 : Int) 0), (Value.ref 217), (Value.bool true), (Value.int (181 : Int) 0), (Value.ref 218), Value.none, Value.none, Value.none, (Value.ref 219), (Value.int (460 : Int) 0), (Value.int (168 : Int) 0), (Value.str (SS "/claim/cut.py") 461)]) #[])
noncomputable def o233 (P : Params) : Obj := (Obj.mk (Value.type "function") none (Data.func (PySem.FuncData.mk (SS "_law_same") (SS "_law_same") (fdA 36) (PySem.FuncBody.stmts (fdB 36)) (fdS 36) 3 [] Value.none Value.none Value.none (Value.str (SS "law_uf030029_12") 375) none (Value.ref 220) Value.none 0)) #[])
noncomputable def o234 (P : Params) : Obj := (Obj.mk (Value.type "tuple") none (Data.seq #[] 0) #[])
noncomputable def o235 (P : Params) : Obj := (Obj.mk Value.none none (Data.fields #[]) #[])
noncomputable def o236 (P : Params) : Obj := (Obj.mk Value.none none (Data.func (PySem.FuncData.mk (SS "law") (SS "law") (fdA 37) (PySem.FuncBody.stmts (fdB 37)) (fdS 37) 0 [] Value.none Value.none Value.none Value.none none Value.none Value.none 0)) #[])
noncomputable def o237 (P : Params) : Obj := (Obj.mk (Value.type "code") none (Data.fields #[(Value.str (SS "law") 463), (Value.str (SS "law") 464), (Value.str (SS "/claim/cut.py") 465), (Value.int (178 : Int) 0), (Value.int (1 : Int) 0), (Value.int (0 : Int) 0), (Value.int (0 : Int) 0), (Value.int (3 : Int) 0), (Value.ref 222), (Value.bool true), (Value.int (181 : Int) 0), (Value.ref 223), Value.none, Value.none, Value.none, (Value.ref 224), (Value.int (466 : Int) 0), (Value.int (178 : Int) 0), (Value.str (SS "/claim/cut.py") 467)]) #[])
noncomputable def o238 (P : Params) : Obj := (Obj.mk (Value.type "function") none (Data.func (PySem.FuncData.mk (SS "law") (SS "law") (fdA 37) (PySem.FuncBody.stmts (fdB 37)) (fdS 37) 3 [] Value.none Value.none Value.none (Value.str (SS "law_uf030029_12") 375) none (Value.ref 225) Value.none 0)) #[])
noncomputable def T9 (P : Params) : BT := (BT.node (boot_o_0 P) (BT.node (boot_o_1 P) (BT.node (o191 P) (BT.node (boot_o_7 P) (BT.node (o6 P) (BT.node (o25 P) (BT.node (o63 P) (BT.node (o135 P) BT.nil BT.nil) (BT.node (o203 P) BT.nil BT.nil)) (BT.node (o103 P) (BT.node (o169 P) BT.nil BT.nil) (BT.node (o235 P) BT.nil BT.nil))) (BT.node (o44 P) (BT.node (o85 P) (BT.node (o153 P) BT.nil BT.nil) (BT.node (o219 P) BT.nil BT.nil)) (BT.node (o119 P) (BT.node (o185 P) BT.nil BT.nil) BT.nil))) (BT.node (o14 P) (BT.node (o33 P) (BT.node (o74 P) (BT.node (o145 P) BT.nil BT.nil) (BT.node (o211 P) BT.nil BT.nil)) (BT.node (o111 P) (BT.node (o177 P) BT.nil BT.nil) BT.nil)) (BT.node (o55 P) (BT.node (o93 P) (BT.node (o161 P) BT.nil BT.nil) (BT.node (o227 P) BT.nil BT.nil)) (BT.node (o127 P) (BT.node (o195 P) BT.nil BT.nil) BT.nil)))) (BT.node (o0 P) (BT.node (o10 P) (BT.node (o29 P) (BT.node (o70 P) (BT.node (o139 P) BT.nil BT.nil) (BT.node (o207 P) BT.nil BT.nil)) (BT.node (o107 P) (BT.node (o173 P) BT.nil BT.nil) BT.nil)) (BT.node (o48 P) (BT.node (o89 P) (BT.node (o157 P) BT.nil BT.nil) (BT.node (o223 P) BT.nil BT.nil)) (BT.node (o123 P) (BT.node (o189 P) BT.nil BT.nil) BT.nil))) (BT.node (o18 P) (BT.node (o40 P) (BT.node (o78 P) (BT.node (o149 P) BT.nil BT.nil) (BT.node (o215 P) BT.nil BT.nil)) (BT.node (o115 P) (BT.node (o181 P) BT.nil BT.nil) BT.nil)) (BT.node (o59 P) (BT.node (o99 P) (BT.node (o165 P) BT.nil BT.nil) (BT.node (o231 P) BT.nil BT.nil)) (BT.node (o131 P) (BT.node (o199 P) BT.nil BT.nil) BT.nil))))) (BT.node (boot_o_5 P) (BT.node (boot_o_9 P) (BT.node (o8 P) (BT.node (o27 P) (BT.node (o68 P) (BT.node (o137 P) BT.nil BT.nil) (BT.node (o205 P) BT.nil BT.nil)) (BT.node (o105 P) (BT.node (o171 P) BT.nil BT.nil) (BT.node (o237 P) BT.nil BT.nil))) (BT.node (o46 P) (BT.node (o87 P) (BT.node (o155 P) BT.nil BT.nil) (BT.node (o221 P) BT.nil BT.nil)) (BT.node (o121 P) (BT.node (o187 P) BT.nil BT.nil) BT.nil))) (BT.node (o16 P) (BT.node (o38 P) (BT.node (o76 P) (BT.node (o147 P) BT.nil BT.nil) (BT.node (o213 P) BT.nil BT.nil)) (BT.node (o113 P) (BT.node (o179 P) BT.nil BT.nil) BT.nil)) (BT.node (o57 P) (BT.node (o97 P) (BT.node (o163 P) BT.nil BT.nil) (BT.node (o229 P) BT.nil BT.nil)) (BT.node (o129 P) (BT.node (o197 P) BT.nil BT.nil) BT.nil)))) (BT.node (o2 P) (BT.node (o12 P) (BT.node (o31 P) (BT.node (o72 P) (BT.node (o143 P) BT.nil BT.nil) (BT.node (o209 P) BT.nil BT.nil)) (BT.node (o109 P) (BT.node (o175 P) BT.nil BT.nil) BT.nil)) (BT.node (o53 P) (BT.node (o91 P) (BT.node (o159 P) BT.nil BT.nil) (BT.node (o225 P) BT.nil BT.nil)) (BT.node (o125 P) (BT.node (o193 P) BT.nil BT.nil) BT.nil))) (BT.node (o23 P) (BT.node (o42 P) (BT.node (o83 P) (BT.node (o151 P) BT.nil BT.nil) (BT.node (o217 P) BT.nil BT.nil)) (BT.node (o117 P) (BT.node (o183 P) BT.nil BT.nil) BT.nil)) (BT.node (o61 P) (BT.node (o101 P) (BT.node (o167 P) BT.nil BT.nil) (BT.node (o233 P) BT.nil BT.nil)) (BT.node (o133 P) (BT.node (o201 P) BT.nil BT.nil) BT.nil)))))) (BT.node (boot_o_2 P) (BT.node (boot_o_4 P) (BT.node (boot_o_8 P) (BT.node (o7 P) (BT.node (o26 P) (BT.node (o67 P) (BT.node (o136 P) BT.nil BT.nil) (BT.node (o204 P) BT.nil BT.nil)) (BT.node (o104 P) (BT.node (o170 P) BT.nil BT.nil) (BT.node (o236 P) BT.nil BT.nil))) (BT.node (o45 P) (BT.node (o86 P) (BT.node (o154 P) BT.nil BT.nil) (BT.node (o220 P) BT.nil BT.nil)) (BT.node (o120 P) (BT.node (o186 P) BT.nil BT.nil) BT.nil))) (BT.node (o81 P) (BT.node (o37 P) (BT.node (o75 P) (BT.node (o146 P) BT.nil BT.nil) (BT.node (o212 P) BT.nil BT.nil)) (BT.node (o112 P) (BT.node (o178 P) BT.nil BT.nil) BT.nil)) (BT.node (o56 P) (BT.node (o96 P) (BT.node (o162 P) BT.nil BT.nil) (BT.node (o228 P) BT.nil BT.nil)) (BT.node (o128 P) (BT.node (o196 P) BT.nil BT.nil) BT.nil)))) (BT.node (o192 P) (BT.node (o11 P) (BT.node (o30 P) (BT.node (o71 P) (BT.node (o140 P) BT.nil BT.nil) (BT.node (o208 P) BT.nil BT.nil)) (BT.node (o108 P) (BT.node (o174 P) BT.nil BT.nil) BT.nil)) (BT.node (o52 P) (BT.node (o90 P) (BT.node (o158 P) BT.nil BT.nil) (BT.node (o224 P) BT.nil BT.nil)) (BT.node (o124 P) (BT.node (o190 P) BT.nil BT.nil) BT.nil))) (BT.node (o22 P) (BT.node (o41 P) (BT.node (o82 P) (BT.node (o150 P) BT.nil BT.nil) (BT.node (o216 P) BT.nil BT.nil)) (BT.node (o116 P) (BT.node (o182 P) BT.nil BT.nil) BT.nil)) (BT.node (o60 P) (BT.node (o100 P) (BT.node (o166 P) BT.nil BT.nil) (BT.node (o232 P) BT.nil BT.nil)) (BT.node (o132 P) (BT.node (o200 P) BT.nil BT.nil) BT.nil))))) (BT.node (boot_o_6 P) (BT.node (boot_o_10 P) (BT.node (o9 P) (BT.node (o28 P) (BT.node (o69 P) (BT.node (o138 P) BT.nil BT.nil) (BT.node (o206 P) BT.nil BT.nil)) (BT.node (o106 P) (BT.node (o172 P) BT.nil BT.nil) (BT.node (o238 P) BT.nil BT.nil))) (BT.node (o47 P) (BT.node (o88 P) (BT.node (o156 P) BT.nil BT.nil) (BT.node (o222 P) BT.nil BT.nil)) (BT.node (o122 P) (BT.node (o188 P) BT.nil BT.nil) BT.nil))) (BT.node (o17 P) (BT.node (o39 P) (BT.node (o77 P) (BT.node (o148 P) BT.nil BT.nil) (BT.node (o214 P) BT.nil BT.nil)) (BT.node (o114 P) (BT.node (o180 P) BT.nil BT.nil) BT.nil)) (BT.node (o58 P) (BT.node (o98 P) (BT.node (o164 P) BT.nil BT.nil) (BT.node (o230 P) BT.nil BT.nil)) (BT.node (o130 P) (BT.node (o198 P) BT.nil BT.nil) BT.nil)))) (BT.node (o3 P) (BT.node (o13 P) (BT.node (o32 P) (BT.node (o73 P) (BT.node (o144 P) BT.nil BT.nil) (BT.node (o210 P) BT.nil BT.nil)) (BT.node (o110 P) (BT.node (o176 P) BT.nil BT.nil) BT.nil)) (BT.node (o54 P) (BT.node (o92 P) (BT.node (o160 P) BT.nil BT.nil) (BT.node (o226 P) BT.nil BT.nil)) (BT.node (o126 P) (BT.node (o194 P) BT.nil BT.nil) BT.nil))) (BT.node (o24 P) (BT.node (o43 P) (BT.node (o84 P) (BT.node (o152 P) BT.nil BT.nil) (BT.node (o218 P) BT.nil BT.nil)) (BT.node (o118 P) (BT.node (o184 P) BT.nil BT.nil) BT.nil)) (BT.node (o62 P) (BT.node (o102 P) (BT.node (o168 P) BT.nil BT.nil) (BT.node (o234 P) BT.nil BT.nil)) (BT.node (o134 P) (BT.node (o202 P) BT.nil BT.nil) BT.nil)))))))
noncomputable def S9 (w : World) (os : OsState) : SharedT := ⟨T9 w.params, 227, (PySem.Life.mk [] [] [] 0 [] [] false #[] [] 0 false false false (0 : Int) [(2000 : Int), (10 : Int), (10 : Int)] false 0 true [] [] 0 false), #[], (PySem.Drawn.mk 0 0 0 0), 469, os⟩
noncomputable def g9 : List Stmt := ((behindTheImports pp).drop 30).take 8
theorem c9 (w : World) (os : OsState) : segRunT treeTable pp w 11 ann0 1 225 (S8 w os) (piecesOf g9 env0 cod0 (PySem.Pos.mk 111 0 118 32) B0) = some (.next, S9 w os, cod0, (PySem.Pos.mk 178 0 196 46)) := seg_q (by kernel_rfl)
noncomputable def H1 (P : Params) : Heap := ⟨#[boot_o_0 P, boot_o_1 P, boot_o_2 P, o191 P, boot_o_4 P, boot_o_5 P, boot_o_6 P, boot_o_7 P, boot_o_8 P, boot_o_9 P, boot_o_10 P, o0 P, o192 P, o2 P, o3 P, o6 P, o7 P, o8 P, o9 P, o10 P, o11 P, o12 P, o13 P, o14 P, o81 P, o16 P, o17 P, o18 P, o22 P, o23 P, o24 P, o25 P, o26 P, o27 P, o28 P, o29 P, o30 P, o31 P, o32 P, o33 P, o37 P, o38 P, o39 P, o40 P, o41 P, o42 P, o43 P, o44 P, o45 P, o46 P, o47 P, o48 P, o52 P, o53 P, o54 P, o55 P, o56 P, o57 P, o58 P, o59 P, o60 P, o61 P, o62 P, o63 P, o67 P, o68 P, o69 P, o70 P, o71 P, o72 P, o73 P, o74 P, o75 P, o76 P, o77 P, o78 P, o82 P, o83 P, o84 P, o85 P, o86 P, o87 P, o88 P, o89 P, o90 P, o91 P, o92 P, o93 P, o96 P, o97 P, o98 P, o99 P, o100 P, o101 P, o102 P, o103 P, o104 P, o105 P, o106 P, o107 P, o108 P, o109 P, o110 P, o111 P, o112 P, o113 P, o114 P, o115 P, o116 P, o117 P, o118 P, o119 P, o120 P, o121 P, o122 P, o123 P, o124 P, o125 P, o126 P, o127 P, o128 P, o129 P, o130 P, o131 P, o132 P, o133 P, o134 P, o135 P, o136 P, o137 P, o138 P, o139 P, o140 P, o143 P, o144 P, o145 P, o146 P, o147 P, o148 P, o149 P, o150 P, o151 P, o152 P, o153 P, o154 P, o155 P, o156 P, o157 P, o158 P, o159 P, o160 P, o161 P, o162 P, o163 P, o164 P, o165 P, o166 P, o167 P, o168 P, o169 P, o170 P, o171 P, o172 P, o173 P, o174 P, o175 P, o176 P, o177 P, o178 P, o179 P, o180 P, o181 P, o182 P, o183 P, o184 P, o185 P, o186 P, o187 P, o188 P, o189 P, o190 P, o193 P, o194 P, o195 P, o196 P, o197 P, o198 P, o199 P, o200 P, o201 P, o202 P, o203 P, o204 P, o205 P, o206 P, o207 P, o208 P, o209 P, o210 P, o211 P, o212 P, o213 P, o214 P, o215 P, o216 P, o217 P, o218 P, o219 P, o220 P, o221 P, o222 P, o223 P, o224 P, o225 P, o226 P, o227 P, o228 P, o229 P, o230 P, o231 P, o232 P, o233 P, o234 P, o235 P, o236 P, o237 P, o238 P], (PySem.Life.mk [] [] [] 0 [] [] false #[] [] 0 false false false (0 : Int) [(2000 : Int), (10 : Int), (10 : Int)] false 0 true [] [] 0 false)⟩
noncomputable def d1 : Drawn := (PySem.Drawn.mk 0 0 0 0)
noncomputable def Sf (w : World) (os : OsState) : Shared := ⟨H1 w.params, #[], d1, 469, os⟩
theorem c_fin (w : World) (os : OsState) : topRun treeTable pp w 11 ann0 2 (S9 w os).abs ⟨doneF .next, cod0, (PySem.Pos.mk 178 0 196 46), B0⟩ = some (Sf w os) := by kernel_rfl
theorem all_g : behindTheImports pp = g1 ++ (g2 ++ (g3 ++ (g4 ++ (g5 ++ (g6 ++ (g7 ++ (g8 ++ (g9 ++ [])))))))) := by kernel_rfl
theorem run0 (w : World) (os : OsState) : topRun treeTable pp w 11 ann0 (12 + (1 + (196 + (214 + (214 + (214 + (214 + (250 + (236 + (232 + (225 + 2))))))))))) ⟨boot_heap w.params, Array.mk [], boot_drawn, boot_toks, os⟩ (topStub pp) = some (Sf w os) :=
  go_top (c_pre w os) (piece_block (c_blk w os) (by rw [all_g]; exact piece_app (segRun_of (c1 w os)) (piece_app (segRun_of (c2 w os)) (piece_app (segRun_of (c3 w os)) (piece_app (segRun_of (c4 w os)) (piece_app (segRun_of (c5 w os)) (piece_app (segRun_of (c6 w os)) (piece_app (segRun_of (c7 w os)) (piece_app (segRun_of (c8 w os)) (piece_app (segRun_of (c9 w os)) (piece_nil (c_fin w os))))))))))))
theorem size0 (w : World) : ((boot_heap w.params).isNs mainGlobals && (Array.mk [] : Array GenState).size == 0, (boot_heap w.params).objs.size, (boot_heap w.params).nsMap mainGlobals "__annotations__") = (true, 11, ann0) := by kernel_rfl
theorem op0 : opening pp = plainProg pp.main.scope.names := by kernel_rfl
theorem fe0 (s : Shared) : fenceModules? pp s = some s := by kernel_rfl
theorem lk1 (w : World) (os : OsState) : (staticsOk (importedModules pp.main.body) (boot_heap w.params) (H1 w.params) && namesBound pp (H1 w.params) && gensDone (Sf w os) && laidKept (boot_heap w.params) (H1 w.params)) = true := by kernel_rfl
theorem lk2 (w : World) (os : OsState) : openSeen q lo (importedModules pp.main.body) Xt true (Sf w os) = openGood q lo := by kernel_rfl
theorem lk3 (w : World) (os : OsState) : Hook.obs look (Sf w os) = Hook.val look w := by kernel_rfl
theorem left : LeftO pp q lo Xt (Hook.obs look) (Hook.val look) 4900 := LeftO.of_pieces (H₀ := boot_heap) (H₁ := H1) (gs₀ := Array.mk []) (gs₁ := #[]) (d₀ := boot_drawn) (d₁ := d1) (k₀ := boot_toks) (k₁ := 469) (boot_open op0 (by decide) fe0) size0 run0 (by decide)
  fun w => funext fun os => looks_pair (lk1 w os) (looks_pair (lk2 w os) (lk3 w os))
end Mine.L12
open Mine in
set_option maxHeartbeats 8000000 in
theorem PySem.Challenge.cw_uf030029_12_holds : PySem.Challenge.rw_uf030029_12.Holds := by
  w_on
  o_law
  refine holds_open (q := Mine.L12.q) (loose := Mine.L12.lo) (Xt := Mine.L12.Xt) (XP := XL Mine.L12.q Mine.L12.lv) (YP := Hook.says Mine.L12.look) Mine.L12.left (Hook.of Mine.L12.look) (Hook.keeps Mine.L12.look) (fun s e => xl_of s (Bool.and_eq_true_iff.mp e).1) XL.keeps (by rfl) (by rfl) (by rfl) (fun s e => recFacts_of (Bool.and_eq_true_iff.mp e).2) (by rfl) (by assumption) (by decide +kernel) ⟨rfl, rfl, rfl, rfl, rfl, by decide +kernel⟩ ?hw ?hc
  (case hw => w_witness2)
  intro w s₀ s₁ mg mb G Y fa o pm cd doc dV kV ho hd hcd hD hmg hg args vals as hpre hlay hrd hwl hlo
  obtain ⟨K, ⟨e, eS⟩, KX⟩ := Y
  have T := G.T
  clear hd hcd hD ho G
  have hmg' : mg (Str.ofString "law") = some (.ref fa) := hmg
  clear hmg
  wrow_args hpre hlay hrd hwl hlo
  rename_i ns _ _ hlay0 _ _ _ _ l vs _ _ _ hW _ _ _ hlen _
  have E : Mine.L12.Env ⟨PySem.Challenge.pw_uf030029_12, w, s₁.heap, mg, mb⟩ := {
    co := cxOk_of T
    fn_is_whole := fnIs_hook e KX T.g 0 rfl (by decide)
    fn_is_box := fnIs_hook e KX T.g 1 rfl (by decide)
    fn_is_step := fnIs_hook e KX T.g 2 rfl (by decide)
    fn_need_web := fnIs_hook e KX T.g 3 rfl (by decide)
    fn_step_text := fnIs_hook e KX T.g 4 rfl (by decide)
    fn_shown := fnIs_hook e KX T.g 5 rfl (by decide)
    fn_number_of := fnIs_hook e KX T.g 6 rfl (by decide)
    fn_step_of := fnIs_hook e KX T.g 7 rfl (by decide)
    fn_row_of := fnIs_hook e KX T.g 8 rfl (by decide)
    fn_read := fnIs_hook e KX T.g 9 rfl (by decide)
    fn__law_cell_at := fnIs_hook e KX T.g 10 rfl (by decide)
    fn__law_number_by := fnIs_hook e KX T.g 11 rfl (by decide)
    fn__law_step_by := fnIs_hook e KX T.g 12 rfl (by decide)
    fn__law_web_by := fnIs_hook e KX T.g 13 rfl (by decide)
    fn__law_text_by := fnIs_hook e KX T.g 14 rfl (by decide)
    fn__law_changed := fnIs_hook e KX T.g 15 rfl (by decide)
    fn__law_odd := fnIs_hook e KX T.g 16 rfl (by decide)
    fn__law_number := fnIs_hook e KX T.g 17 rfl (by decide)
    fn__law_step := fnIs_hook e KX T.g 18 rfl (by decide)
    fn__law_due := fnIs_hook e KX T.g 19 rfl (by decide)
    fn__law_read := fnIs_hook e KX T.g 20 rfl (by decide)
    fn__law_same := fnIs_hook e KX T.g 21 rfl (by decide)
    fn_law := fnIs_hook e KX T.g 22 rfl (by decide)
    g_BOXES := gint_hook e KX T.g 0 rfl
    g_MOST_ROWS := gint_hook e KX T.g 1 rfl
    g_MOST_DEEDS := gint_hook e KX T.g 2 rfl
    g_TOO_GREAT := gint_hook e KX T.g 3 rfl
    g_FIGURES := gstr_hook eS KX T.g 0 rfl
    b_ValueError := builtin_hook e KX T 0 rfl (by kernel_rfl) (by decide +kernel)
    b_bool := builtin_hook e KX T 1 rfl (by kernel_rfl) (by decide +kernel)
    b_int := builtin_hook e KX T 2 rfl (by kernel_rfl) (by decide +kernel)
    b_isinstance := builtin_hook e KX T 3 rfl (by kernel_rfl) (by decide +kernel)
    b_len := builtin_hook e KX T 4 rfl (by kernel_rfl) (by decide +kernel)
    b_list := builtin_hook e KX T 5 rfl (by kernel_rfl) (by decide +kernel)
    b_range := builtin_hook e KX T 6 rfl (by kernel_rfl) (by decide +kernel)
    b_str := builtin_hook e KX T 7 rfl (by kernel_rfl) (by decide +kernel)
    b_tuple := builtin_hook e KX T 8 rfl (by kernel_rfl) (by decide +kernel)
    exc := exc_hook e KX T (by decide +kernel)
  }
  exact law_end (Mine.L12.ok_law E) (by decide) hmg' hW hg (Mine.L12.law_true ns (by omega) hlay0) (by intro cls; rfl) (by first | rfl | wrow_post)

