import PyProof.Rows.All
import Wide.All
import OpenK.AllK
import Wide.FinOn
import HandS.ForMost
import HandS.Conv
import HandS.Style
import HandS.Deep
import HandS.Wide
import HandS.IsInst
import HandS.Flow
import HandS.SortInts
import HandS.Zip
import HandS.Ends
import HandS.EndBits
import PySem.Challenge.RW_skipstops_k03_trips_and_their_lengths
set_option Elab.async false
set_option linter.all false
set_option maxRecDepth 100000
/-! DL1: the data layer over HandS. A value is plain data (W.d) or a handle (W.own) of a cell that may still change; an address is never seen. -/
namespace DL
open PySem PySem.Spec L2

inductive W where
  | d (x : PyData) | own (i : Nat) | raw (v : V)
inductive Cell where
  | frz (x : PyData) | lst (ws : List W) | tup (ws : List W)
abbrev Mem := List Cell
abbrev FM := Addr → Option PyData
abbrev Rho := List (Option W)

/-- a list that is an object of the module itself (the script, where nothing tracks it) -/
def KLst (K : PySem.W.Frag) (a : Addr) (xs : List V) : Prop := ∃ its : List Value, K.lookup a = some { cls := .type "list", data := .seq its.toArray } ∧ its.length ≤ sizeLine ∧ Vals xs its
def KInts (K : PySem.W.Frag) (a : Addr) (ns : List Int) : Prop := KLst K a (ns.map V.int)
/-- a list whose whole object is known -/
def SqX (K : PySem.W.Frag) (H : Hp) (a : Addr) (xs : List V) : Prop := Rd H a (.lst xs) ∨ KLst K a xs
theorem SqX.sql {K : PySem.W.Frag} {H : Hp} {a : Addr} {xs : List V} (h : SqX K H a xs) : SqL K H a xs := by
  rcases h with h | ⟨its, h1, h2, h3⟩
  · exact .inl h
  · exact .inr ⟨_, its.toArray, _, h1, rfl, rfl, rfl, by simpa using h2, by simpa using h3⟩
theorem whole {X : Cx} {pins : List (Addr × Obj)} {σ : L2.St} {H : Hp} {s : Shared} (I : Inv X pins σ H s) {a : Addr} {xs : List V} (h : SqX X.K H a xs) :
    ∃ (its : List Value) (n : Nat), Vals xs its ∧ xs.length = its.length ∧ its.length ≤ sizeLine ∧ s.heap.get? a = some { cls := .type "list", data := .seq its.toArray n } := by
  rcases h with h | ⟨its, h1, h2, h3⟩
  · obtain ⟨z, its, n, r, e⟩ := h.ok I.hok
    exact ⟨its, n, r, r.length, r.length ▸ z, e⟩
  · exact ⟨its, _, h3, h3.length, h2, I.kIn a _ h1⟩

def RepF (K : PySem.W.Frag) (F : FM) : V → PyData → Prop
  | .non, .none => True
  | .bl a, .bool b => a = b
  | .int a, .int b => a = b
  | .str a, .str b => a = b
  | .ref a, .list ds => F a = some (.list ds) ∨ ∃ ns : List Int, ds = ns.map .int ∧ KInts K a ns
  | .ref a, .tuple ds => F a = some (.tuple ds)
  | _, _ => False
def RepW (K : PySem.W.Frag) (F : FM) (A : List Addr) : V → W → Prop
  | x, .d y => RepF K F x y
  | .ref a, .own i => A[i]? = some a
  | x, .raw y => x = y
  | _, _ => False
def RepO (K : PySem.W.Frag) (F : FM) (A : List Addr) : Option V → Option W → Prop
  | _, none => True
  | some x, some w => RepW K F A x w
  | none, some _ => False

def FzOk (K : PySem.W.Frag) (F : FM) (H : Hp) (a : Addr) : PyData → Prop
  | .list ds => ∃ xs, Rd H a (.lst xs) ∧ Paired (RepF K F) xs ds
  | .tuple ds => ∃ xs, Rd H a (.tup xs) ∧ Paired (RepF K F) xs ds
  | _ => False
def CellRep (K : PySem.W.Frag) (F : FM) (A : List Addr) : HO → Cell → Prop
  | .lst xs, .lst ws => Paired (RepW K F A) xs ws
  | .tup xs, .tup ws => Paired (RepW K F A) xs ws
  | _, _ => False
def CellAt (K : PySem.W.Frag) (F : FM) (A : List Addr) (H : Hp) (a : Addr) : Cell → Prop
  | .frz x => F a = some x
  | c => F a = none ∧ ∃ o, H a = some o ∧ CellRep K F A o c
structure Abs (K : PySem.W.Frag) (F : FM) (A : List Addr) (M : Mem) (H : Hp) : Prop where
  fz : ∀ a x, F a = some x → FzOk K F H a x
  len : A.length = M.length
  nd : A.Nodup
  cl : ∀ (i : Nat) (a : Addr) (c : Cell), A[i]? = some a → M[i]? = some c → CellAt K F A H a c

structure Ext (F : FM) (A : List Addr) (H : Hp) (F' : FM) (A' : List Addr) (H' : Hp) : Prop where
  f : ∀ a x, F a = some x → F' a = some x
  a : ∃ B, A' = A ++ B ∧ ∀ b ∈ B, H b = none
  keep : ∀ b o, H b = some o → b ∉ A → H' b = some o
  dom : ∀ b, H' b = none → H b = none
  fn : ∀ b, F' b ≠ none → F b ≠ none ∨ H b = none ∨ b ∈ A

section
variable {K : PySem.W.Frag} {F F1 F2 F' : FM} {A A1 A2 A' : List Addr} {M M' : Mem} {H H1 H2 H' : Hp}

theorem Ext.refl : Ext F A H F A H := ⟨fun _ _ h => h, ⟨[], by simp, by simp⟩, fun _ _ h _ => h, fun _ h => h, fun _ h => .inl h⟩
theorem Ext.trans (e : Ext F A H F1 A1 H1) (g : Ext F1 A1 H1 F2 A2 H2) : Ext F A H F2 A2 H2 := by
  obtain ⟨B, rfl, hB⟩ := e.a
  obtain ⟨C, rfl, hC⟩ := g.a
  refine ⟨fun a x h => g.f a x (e.f a x h), ⟨B ++ C, by simp, fun b hb => ?_⟩, fun b o h hA => ?_, fun b h => e.dom b (g.dom b h), fun b h => ?_⟩
  · rcases List.mem_append.mp hb with hb | hb
    · exact hB b hb
    · exact e.dom b (hC b hb)
  · refine g.keep b o (e.keep b o h hA) fun hb => ?_
    rcases List.mem_append.mp hb with hb | hb
    · exact hA hb
    · have := hB b hb
      rw [this] at h
      cases h
  · rcases g.fn b h with h | h | h
    · exact e.fn b h
    · exact .inr (.inl (e.dom b h))
    · rcases List.mem_append.mp h with h | h
      · exact .inr (.inr h)
      · exact .inr (.inl (hB b h))
theorem Ext.at (e : Ext F A H F' A' H') {i : Nat} {a : Addr} (h : A[i]? = some a) : A'[i]? = some a := by
  obtain ⟨B, rfl, _⟩ := e.a
  have hi : i < A.length := by
    rcases Nat.lt_or_ge i A.length with q | q
    · exact q
    · rw [List.getElem?_eq_none q] at h; cases h
  rw [List.getElem?_append_left hi]
  exact h

theorem RepF.mono (h : ∀ a x, F a = some x → F' a = some x) {x : V} {y : PyData} (r : RepF K F x y) : RepF K F' x y := by
  cases x <;> cases y <;> simp only [RepF] at r ⊢ <;> first | exact r | skip
  · rcases r with r | r
    · exact .inl (h _ _ r)
    · exact .inr r
  · exact h _ _ r
theorem RepW.ext (e : Ext F A H F' A' H') {x : V} {w : W} (r : RepW K F A x w) : RepW K F' A' x w := by
  cases w with
  | d y => exact RepF.mono e.f r
  | own i => cases x <;> simp only [RepW] at r ⊢; exact e.at r
  | raw y => simp only [RepW] at r ⊢; exact r
theorem RepO.ext (e : Ext F A H F' A' H') {x : Option V} {w : Option W} (r : RepO K F A x w) : RepO K F' A' x w := by
  cases w with
  | none => cases x <;> trivial
  | some w =>
    cases x with
    | none => exact r
    | some x => exact RepW.ext e r
theorem paired_imp {α β : Type} {R S : α → β → Prop} : ∀ {xs : List α} {ys : List β}, Paired R xs ys → (∀ a b, R a b → S a b) → Paired S xs ys
  | _, _, .nil, _ => .nil
  | _, _, .cons h t, k => .cons (k _ _ h) (paired_imp t k)
theorem nodup_at {α : Type} : ∀ {l : List α} {i j : Nat} {x : α}, l.Nodup → l[i]? = some x → l[j]? = some x → i = j
  | [], _, _, _, _, h, _ => by simp at h
  | a :: l, 0, 0, _, _, _, _ => rfl
  | a :: l, 0, j + 1, x, nd, h1, h2 => by
    simp at h1 h2
    subst h1
    exact absurd (List.mem_of_getElem? h2) (List.nodup_cons.mp nd).1
  | a :: l, i + 1, 0, x, nd, h1, h2 => by
    simp at h1 h2
    subst h2
    exact absurd (List.mem_of_getElem? h1) (List.nodup_cons.mp nd).1
  | a :: l, i + 1, j + 1, x, nd, h1, h2 => by
    rw [nodup_at (i := i) (j := j) (x := x) (List.nodup_cons.mp nd).2 (by simpa using h1) (by simpa using h2)]
theorem repsW_ext (e : Ext F A H F' A' H') {xs : List V} {ws : List W} (r : Paired (RepW K F A) xs ws) : Paired (RepW K F' A') xs ws := paired_imp r fun _ _ q => q.ext e
theorem repsO_ext (e : Ext F A H F' A' H') {xs : St} {ws : Rho} (r : Paired (RepO K F A) xs ws) : Paired (RepO K F' A') xs ws := paired_imp r fun _ _ q => q.ext e

theorem RepF.int {x : V} {i : Int} (r : RepF K F x (.int i)) : x = .int i := by
  cases x <;> simp only [RepF] at r
  rw [r]
theorem RepF.bool {x : V} {b : Bool} (r : RepF K F x (.bool b)) : x = .bl b := by
  cases x <;> simp only [RepF] at r
  rw [r]
theorem RepF.none {x : V} (r : RepF K F x .none) : x = .non := by
  cases x <;> simp only [RepF] at r
  rfl
theorem RepF.str {x : V} {b : Str} (r : RepF K F x (.str b)) : x = .str b := by
  cases x <;> simp only [RepF] at r
  rw [r]
theorem RepF.list {x : V} {ds : List PyData} (r : RepF K F x (.list ds)) : ∃ a, x = .ref a ∧ (F a = some (.list ds) ∨ ∃ ns : List Int, ds = ns.map .int ∧ KInts K a ns) := by
  cases x <;> simp only [RepF] at r
  exact ⟨_, rfl, r⟩
theorem RepF.tuple {x : V} {ds : List PyData} (r : RepF K F x (.tuple ds)) : ∃ a, x = .ref a ∧ F a = some (.tuple ds) := by
  cases x <;> simp only [RepF] at r
  exact ⟨_, rfl, r⟩
theorem RepF.nodict {x : V} {kvs} (r : RepF K F x (.dict kvs)) : False := by
  cases x <;> simp only [RepF] at r
theorem RepW.own {x : V} {i : Nat} (r : RepW K F A x (.own i)) : ∃ a, x = .ref a ∧ A[i]? = some a := by
  cases x <;> simp only [RepW] at r
  exact ⟨_, rfl, r⟩

theorem paired_map {α β γ δ : Type} {R : α → β → Prop} {S : γ → δ → Prop} {f : α → γ} {g : β → δ} : ∀ {xs : List α} {ys : List β}, Paired R xs ys → (∀ a b, R a b → S (f a) (g b)) → Paired S (xs.map f) (ys.map g)
  | _, _, .nil, _ => .nil
  | _, _, .cons h t, k => .cons (k _ _ h) (paired_map t k)
theorem paired_mapr {α β δ : Type} {R : α → β → Prop} {S : α → δ → Prop} {g : β → δ} : ∀ {xs : List α} {ys : List β}, Paired R xs ys → (∀ a b, R a b → S a (g b)) → Paired S xs (ys.map g)
  | _, _, .nil, _ => .nil
  | _, _, .cons h t, k => .cons (k _ _ h) (paired_mapr t k)
theorem paired_unmapr {α β δ : Type} {R : α → β → Prop} {S : α → δ → Prop} {g : β → δ} : ∀ {ys : List β} {xs : List α}, Paired S xs (ys.map g) → (∀ a b, S a (g b) → R a b) → Paired R xs ys
  | [], _, .nil, _ => .nil
  | _ :: _, _, .cons h t, k => .cons (k _ _ h) (paired_unmapr t k)
theorem paired_append {α β : Type} {R : α → β → Prop} : ∀ {xs xs' : List α} {ys ys' : List β}, Paired R xs ys → Paired R xs' ys' → Paired R (xs ++ xs') (ys ++ ys')
  | _, _, _, _, .nil, r => r
  | _, _, _, _, .cons h t, r => .cons h (paired_append t r)
theorem paired_get {α β : Type} {R : α → β → Prop} : ∀ {xs : List α} {ys : List β} {i : Nat} {y : β}, Paired R xs ys → ys[i]? = some y → ∃ x, xs[i]? = some x ∧ R x y
  | _, _, _, _, .nil, e => by simp at e
  | _, _, 0, _, .cons h _, e => by simp at e; subst e; exact ⟨_, rfl, h⟩
  | _, _, i + 1, y, .cons _ t, e => by
    obtain ⟨x, h1, h2⟩ := paired_get (i := i) (y := y) t (by simpa using e)
    exact ⟨x, by simpa using h1, h2⟩
theorem paired_getl {α β : Type} {R : α → β → Prop} : ∀ {xs : List α} {ys : List β} {i : Nat} {x : α}, Paired R xs ys → xs[i]? = some x → ∃ y, ys[i]? = some y ∧ R x y
  | _, _, _, _, .nil, e => by simp at e
  | _, _, 0, _, .cons h _, e => by simp at e; subst e; exact ⟨_, rfl, h⟩
  | _, _, i + 1, y, .cons _ t, e => by
    obtain ⟨x, h1, h2⟩ := paired_getl (i := i) (x := y) t (by simpa using e)
    exact ⟨x, by simpa using h1, h2⟩
theorem paired_set {α β : Type} {R : α → β → Prop} {x : α} {y : β} (r : R x y) : ∀ {xs : List α} {ys : List β} (i : Nat), Paired R xs ys → Paired R (xs.set i x) (ys.set i y)
  | _, _, _, .nil => .nil
  | _, _, 0, .cons _ t => .cons r t
  | _, _, i + 1, .cons h t => .cons h (paired_set r i t)
theorem paired_take {α β : Type} {R : α → β → Prop} : ∀ {xs : List α} {ys : List β} (i : Nat), Paired R xs ys → Paired R (xs.take i) (ys.take i)
  | _, _, _, .nil => by simp; exact .nil
  | _, _, 0, .cons _ t => .nil
  | _, _, i + 1, .cons h t => .cons h (paired_take i t)
theorem paired_drop {α β : Type} {R : α → β → Prop} : ∀ {xs : List α} {ys : List β} (i : Nat), Paired R xs ys → Paired R (xs.drop i) (ys.drop i)
  | _, _, _, .nil => by simp; exact .nil
  | _, _, 0, .cons h t => .cons h t
  | _, _, i + 1, .cons h t => paired_drop i t
theorem paired_rev {α β : Type} {R : α → β → Prop} : ∀ {xs : List α} {ys : List β}, Paired R xs ys → Paired R xs.reverse ys.reverse
  | _, _, .nil => .nil
  | _, _, .cons h t => by
    rw [List.reverse_cons, List.reverse_cons]
    exact paired_append (paired_rev t) (.cons h .nil)
theorem paired_erase {α β : Type} {R : α → β → Prop} : ∀ {xs : List α} {ys : List β} (i : Nat), Paired R xs ys → Paired R (xs.eraseIdx i) (ys.eraseIdx i)
  | _, _, _, .nil => .nil
  | _, _, 0, .cons _ t => t
  | _, _, i + 1, .cons h t => .cons h (paired_erase i t)
theorem paired_ints : ∀ {xs : List V} {ns : List Int}, Paired (RepF K F) xs (ns.map .int) → xs = ns.map .int
  | _, [], .nil => rfl
  | _, _ :: _, .cons h t => by rw [RepF.int h, paired_ints t]; rfl
theorem paired_toInts : ∀ (ns : List Int), Paired (RepF K F) (ns.map .int) (ns.map .int)
  | [] => .nil
  | _ :: t => .cons rfl (paired_toInts t)

/-! ### reading -/
theorem Abs.isList (ab : Abs K F A M H) {x : V} {ds : List PyData} (r : RepF K F x (.list ds)) : ∃ a xs, x = .ref a ∧ SqX K H a xs ∧ Paired (RepF K F) xs ds := by
  obtain ⟨a, rfl, h | ⟨ns, rfl, h⟩⟩ := r.list
  · obtain ⟨xs, h1, h2⟩ := ab.fz a _ h
    exact ⟨a, xs, rfl, .inl h1, h2⟩
  · exact ⟨a, _, rfl, .inr h, paired_toInts ns⟩
theorem Abs.isTup (ab : Abs K F A M H) {x : V} {ds : List PyData} (r : RepF K F x (.tuple ds)) : ∃ a xs, x = .ref a ∧ SqT K H a xs ∧ Paired (RepF K F) xs ds := by
  obtain ⟨a, rfl, h⟩ := r.tuple
  obtain ⟨xs, h1, h2⟩ := ab.fz a _ h
  exact ⟨a, xs, rfl, .inl h1, h2⟩
mutual
theorem Abs.dp (ab : Abs K F A M H) : ∀ (d : PyData) (x : V), RepF K F x d → Dp K H x d
  | .none, x, r => by rw [r.none]; exact .non
  | .bool b, x, r => by rw [r.bool]; exact .bl b
  | .int b, x, r => by rw [r.int]; exact .int b
  | .str b, x, r => by rw [r.str]; exact .str b
  | .list ds, x, r => by
    obtain ⟨a, xs, rfl, h1, h2⟩ := ab.isList r
    exact .lst h1.sql (Abs.dpAll ab ds xs h2)
  | .tuple ds, x, r => by
    obtain ⟨a, xs, rfl, h1, h2⟩ := ab.isTup r
    exact .tup h1 (Abs.dpAll ab ds xs h2)
  | .dict _, x, r => r.nodict.elim
theorem Abs.dpAll (ab : Abs K F A M H) : ∀ (ds : List PyData) (xs : List V), Paired (RepF K F) xs ds → DpAll K H xs ds
  | [], _, .nil => .nil
  | d :: ds, _, .cons h t => .cons (Abs.dp ab d _ h) (Abs.dpAll ab ds _ t)
end
/-- what a list holds -/
def listOf (M : Mem) : W → Option (List W)
  | .d (.list ds) => some (ds.map .d)
  | .own i => match M[i]? with
    | some (.lst ws) => some ws
    | some (.frz (.list ds)) => some (ds.map .d)
    | _ => none
  | _ => none
def tupOf (M : Mem) : W → Option (List W)
  | .d (.tuple ds) => some (ds.map .d)
  | .own i => match M[i]? with
    | some (.tup ws) => some ws
    | some (.frz (.tuple ds)) => some (ds.map .d)
    | _ => none
  | _ => none
theorem repsD {xs : List V} {ds : List PyData} (r : Paired (RepF K F) xs ds) : Paired (RepW K F A) xs (ds.map .d) := paired_mapr r fun _ _ h => h
theorem Abs.cell (ab : Abs K F A M H) {i : Nat} {a : Addr} (h : A[i]? = some a) : ∃ c, M[i]? = some c ∧ CellAt K F A H a c := by
  have hi : i < A.length := by
    rcases Nat.lt_or_ge i A.length with q | q
    · exact q
    · rw [List.getElem?_eq_none q] at h; cases h
  have hm : i < M.length := by rw [← ab.len]; exact hi
  exact ⟨M[i], List.getElem?_eq_getElem hm, ab.cl i a _ h (List.getElem?_eq_getElem hm)⟩
theorem Abs.listW (ab : Abs K F A M H) {x : V} {w : W} {ws : List W} (r : RepW K F A x w) (h : listOf M w = some ws) : ∃ a xs, x = .ref a ∧ SqX K H a xs ∧ Paired (RepW K F A) xs ws := by
  cases w with
  | d y =>
    cases y <;> simp only [listOf, Option.some.injEq, reduceCtorEq] at h
    subst h
    obtain ⟨a, xs, rfl, h1, h2⟩ := ab.isList r
    exact ⟨a, xs, rfl, h1, repsD h2⟩
  | raw y => simp [listOf] at h
  | own i =>
    obtain ⟨a, rfl, ha⟩ := r.own
    obtain ⟨c, hc, hcl⟩ := ab.cell ha
    simp only [listOf, hc] at h
    cases c with
    | lst vs =>
      simp only [Option.some.injEq] at h
      subst h
      obtain ⟨_, o, ho, hr⟩ := hcl
      cases o <;> simp only [CellRep] at hr
      exact ⟨a, _, rfl, .inl (.inl ho), hr⟩
    | tup vs => simp at h
    | frz y =>
      cases y <;> simp only [Option.some.injEq, reduceCtorEq] at h
      subst h
      obtain ⟨xs, h1, h2⟩ := ab.fz a _ hcl
      exact ⟨a, xs, rfl, .inl h1, repsD h2⟩
theorem Abs.tupW (ab : Abs K F A M H) {x : V} {w : W} {ws : List W} (r : RepW K F A x w) (h : tupOf M w = some ws) : ∃ a xs, x = .ref a ∧ SqT K H a xs ∧ Paired (RepW K F A) xs ws := by
  cases w with
  | d y =>
    cases y <;> simp only [tupOf, Option.some.injEq, reduceCtorEq] at h
    subst h
    obtain ⟨a, xs, rfl, h1, h2⟩ := ab.isTup r
    exact ⟨a, xs, rfl, h1, repsD h2⟩
  | raw y => simp [tupOf] at h
  | own i =>
    obtain ⟨a, rfl, ha⟩ := r.own
    obtain ⟨c, hc, hcl⟩ := ab.cell ha
    simp only [tupOf, hc] at h
    cases c with
    | tup vs =>
      simp only [Option.some.injEq] at h
      subst h
      obtain ⟨_, o, ho, hr⟩ := hcl
      cases o <;> simp only [CellRep] at hr
      exact ⟨a, _, rfl, .inl (.inl ho), hr⟩
    | lst vs => simp at h
    | frz y =>
      cases y <;> simp only [Option.some.injEq, reduceCtorEq] at h
      subst h
      obtain ⟨xs, h1, h2⟩ := ab.fz a _ hcl
      exact ⟨a, xs, rfl, .inl h1, repsD h2⟩

/-! ### changes -/
theorem Rd.some {a : Addr} {o : HO} (h : Rd H a o) : H a ≠ none := by
  rcases h with h | ⟨u, h⟩ <;> (rw [h]; exact fun z => nomatch z)
theorem Abs.fnone (ab : Abs K F A M H) {p : Addr} (h : H p = none) : F p = none := by
  cases q : F p with
  | none => rfl
  | some x =>
    have z := ab.fz p x q
    cases x <;> simp only [FzOk] at z
    all_goals
      obtain ⟨xs, h1, _⟩ := z
      exact absurd h (Rd.some h1)
theorem Abs.anone (ab : Abs K F A M H) {p : Addr} (h : H p = none) : p ∉ A := fun hp => by
  obtain ⟨i, hi, e⟩ := List.mem_iff_getElem.mp hp
  have e' : A[i]? = some p := by rw [List.getElem?_eq_getElem hi, e]
  obtain ⟨c, _, hc⟩ := ab.cell e'
  cases c with
  | frz x => have q := ab.fnone h; rw [show F p = some x from hc] at q; cases q
  | lst ws => obtain ⟨_, o, ho, _⟩ := hc; rw [h] at ho; cases ho
  | tup ws => obtain ⟨_, o, ho, _⟩ := hc; rw [h] at ho; cases ho
theorem FzOk.mono (hF : ∀ a x, F a = some x → F' a = some x) {a : Addr} {x : PyData} (hH : ∀ o, H a = some o → H' a = some o) (h : FzOk K F H a x) : FzOk K F' H' a x := by
  cases x <;> simp only [FzOk] at h ⊢
  all_goals
    obtain ⟨xs, h1, h2⟩ := h
    refine ⟨xs, ?_, paired_imp h2 fun _ _ q => q.mono hF⟩
    rcases h1 with h1 | ⟨u, h1⟩
    · exact .inl (hH _ h1)
    · exact .inr ⟨u, hH _ h1⟩
theorem CellRep.mono (e : ∀ x w, RepW K F A x w → RepW K F' A' x w) {o : HO} {c : Cell} (h : CellRep K F A o c) : CellRep K F' A' o c := by
  cases o <;> cases c <;> simp only [CellRep] at h ⊢
  all_goals exact paired_imp h fun _ _ q => e _ _ q
theorem CellAt.mono (e : ∀ x w, RepW K F A x w → RepW K F' A' x w) (hF : ∀ a x, F a = some x → F' a = some x) {a : Addr} {c : Cell} (hn : F a = none → F' a = none) (hH : ∀ o, H a = some o → H' a = some o) (h : CellAt K F A H a c) : CellAt K F' A' H' a c := by
  cases c with
  | frz x => exact hF _ _ h
  | lst ws => obtain ⟨h0, o, ho, hr⟩ := h; exact ⟨hn h0, o, hH o ho, hr.mono e⟩
  | tup ws => obtain ⟨h0, o, ho, hr⟩ := h; exact ⟨hn h0, o, hH o ho, hr.mono e⟩
def setF (F : FM) (p : Addr) (x : PyData) : FM := fun b => if b = p then some x else F b
theorem setF_same {p : Addr} {x : PyData} : setF F p x p = some x := if_pos rfl
theorem setF_ne {p b : Addr} {x : PyData} (h : b ≠ p) : setF F p x b = F b := if_neg h
/-- a new object whose content is data -/
theorem Abs.newD (ab : Abs K F A M H) {p : Addr} (hp : H p = none) {o : HO} {x : PyData} (hx : ∀ F' : FM, (∀ a y, F a = some y → F' a = some y) → ∀ H' : Hp, H' p = some o → FzOk K F' H' p x) :
    Abs K (setF F p x) A M (upd H p o) ∧ Ext F A H (setF F p x) A (upd H p o) := by
  have hF : ∀ a y, F a = some y → setF F p x a = some y := fun a y h => by
    rw [setF_ne]
    · exact h
    · rintro rfl; rw [ab.fnone hp] at h; cases h
  have hA := ab.anone hp
  have hH : ∀ a o', H a = some o' → upd H p o a = some o' := fun a o' h => by rw [upd_ne (ne_of_none h hp)]; exact h
  have ex : Ext F A H (setF F p x) A (upd H p o) := ⟨hF, ⟨[], by simp, by simp⟩, fun b o' h _ => hH b o' h, fun b h => by
    by_cases e : b = p
    · subst e; exact hp
    · rw [upd_ne e] at h; exact h, fun b h => by
    by_cases e : b = p
    · subst e; exact .inr (.inl hp)
    · rw [setF_ne e] at h; exact .inl h⟩
  refine ⟨⟨fun a y h => ?_, ab.len, ab.nd, fun i a c h1 h2 => ?_⟩, ex⟩
  · by_cases e : a = p
    · subst e
      rw [setF_same] at h
      cases h
      exact hx _ hF _ upd_same
    · rw [setF_ne e] at h
      exact (ab.fz a y h).mono hF (fun o' => hH a o')
  · have hne : a ≠ p := by rintro rfl; exact hA (List.mem_of_getElem? h1)
    exact (ab.cl i a c h1 h2).mono (fun _ _ r => r.ext ex) hF (fun h => by rw [setF_ne hne]; exact h) (fun o' => hH a o')
theorem Abs.newListD (ab : Abs K F A M H) {p : Addr} (hp : H p = none) {xs : List V} {ds : List PyData} (r : Paired (RepF K F) xs ds) :
    Abs K (setF F p (.list ds)) A M (upd H p (.lst xs)) ∧ Ext F A H (setF F p (.list ds)) A (upd H p (.lst xs)) :=
  ab.newD hp fun F' hF H' h => ⟨xs, .inl h, paired_imp r fun _ _ q => q.mono hF⟩
theorem Abs.newTupD (ab : Abs K F A M H) {p : Addr} (hp : H p = none) {xs : List V} {ds : List PyData} (r : Paired (RepF K F) xs ds) :
    Abs K (setF F p (.tuple ds)) A M (upd H p (.tup xs)) ∧ Ext F A H (setF F p (.tuple ds)) A (upd H p (.tup xs)) :=
  ab.newD hp fun F' hF H' h => ⟨xs, .inl h, paired_imp r fun _ _ q => q.mono hF⟩
theorem repW_app {x : V} {w : W} {p : Addr} (r : RepW K F A x w) : RepW K F (A ++ [p]) x w := by
  cases w with
  | d y => exact r
  | raw y => exact r
  | own i =>
    obtain ⟨a, rfl, h⟩ := r.own
    have hi : i < A.length := by
      rcases Nat.lt_or_ge i A.length with q | q
      · exact q
      · rw [List.getElem?_eq_none q] at h; cases h
    show (A ++ [p])[i]? = _
    rw [List.getElem?_append_left hi]
    exact h
/-- a new object that may still change -/
theorem Abs.newC (ab : Abs K F A M H) {p : Addr} (hp : H p = none) {o : HO} {c : Cell} (hc : ∀ x, c ≠ .frz x) (r : CellRep K F A o c) :
    Abs K F (A ++ [p]) (M ++ [c]) (upd H p o) ∧ Ext F A H F (A ++ [p]) (upd H p o) ∧ (A ++ [p])[M.length]? = some p := by
  have hA := ab.anone hp
  have hH : ∀ a o', H a = some o' → upd H p o a = some o' := fun a o' h => by rw [upd_ne (ne_of_none h hp)]; exact h
  have ex : Ext F A H F (A ++ [p]) (upd H p o) := ⟨fun _ _ h => h, ⟨[p], rfl, by simp [hp]⟩, fun b o' h _ => hH b o' h, fun b h => by
    by_cases e : b = p
    · subst e; exact hp
    · rw [upd_ne e] at h; exact h, fun _ h => .inl h⟩
  have up : ∀ x w, RepW K F A x w → RepW K F (A ++ [p]) x w := fun _ _ q => repW_app q
  refine ⟨⟨fun a y h => (ab.fz a y h).mono (fun _ _ z => z) (fun o' => hH a o'), by simp [ab.len], ?_, fun i a c' h1 h2 => ?_⟩, ex, by rw [← ab.len]; simp⟩
  · rw [List.nodup_append]
    exact ⟨ab.nd, by simp, fun a ha b hb => by
      rw [List.mem_singleton.mp hb]
      rintro rfl
      exact hA ha⟩
  · by_cases hi : i < A.length
    · rw [List.getElem?_append_left hi] at h1
      rw [List.getElem?_append_left (by rw [← ab.len]; exact hi)] at h2
      exact (ab.cl i a c' h1 h2).mono up (fun _ _ z => z) (fun z => z) (fun o' => hH a o')
    · have hi' : i = A.length := by
        rcases Nat.lt_or_ge i (A ++ [p]).length with q | q
        · simp at q; omega
        · rw [List.getElem?_eq_none q] at h1; cases h1
      subst hi'
      rw [List.getElem?_append_right (Nat.le_refl _)] at h1
      rw [ab.len, List.getElem?_append_right (Nat.le_refl _)] at h2
      simp at h1 h2
      subst h1 h2
      have r' := r.mono up
      cases c with
      | frz x => exact absurd rfl (hc x)
      | lst ws => exact ⟨ab.fnone hp, o, upd_same, r'⟩
      | tup ws => exact ⟨ab.fnone hp, o, upd_same, r'⟩
/-- a cell is written -/
theorem Abs.put (ab : Abs K F A M H) {i : Nat} {a : Addr} (ha : A[i]? = some a) (hf : F a = none) {o : HO} {c : Cell} (hc : ∀ x, c ≠ .frz x) (r : CellRep K F A o c) :
    Abs K F A (M.set i c) (upd H a o) ∧ Ext F A H F A (upd H a o) := by
  have hi : i < A.length := by
    rcases Nat.lt_or_ge i A.length with q | q
    · exact q
    · rw [List.getElem?_eq_none q] at ha; cases ha
  have ex : Ext F A H F A (upd H a o) := ⟨fun _ _ h => h, ⟨[], by simp, by simp⟩, fun b o' h hb => by
      rw [upd_ne]
      · exact h
      · rintro rfl; exact hb (List.mem_of_getElem? ha), fun b h => by
    by_cases e : b = a
    · subst e; rw [upd_same] at h; cases h
    · rw [upd_ne e] at h; exact h, fun _ h => .inl h⟩
  refine ⟨⟨fun b y h => (ab.fz b y h).mono (fun _ _ z => z) (fun o' z => ?_), by simp [ab.len], ab.nd, fun j b c' h1 h2 => ?_⟩, ex⟩
  · rw [upd_ne]
    · exact z
    · rintro rfl; rw [hf] at h; cases h
  · by_cases hj : j = i
    · subst hj
      rw [ha] at h1; cases h1
      rw [List.getElem?_set_self (by rw [← ab.len]; exact hi)] at h2
      cases h2
      cases c with
      | frz x => exact absurd rfl (hc x)
      | lst ws => exact ⟨hf, o, upd_same, r⟩
      | tup ws => exact ⟨hf, o, upd_same, r⟩
    · rw [List.getElem?_set_ne (Ne.symm hj)] at h2
      have hb : b ≠ a := by
        rintro rfl
        exact hj (nodup_at ab.nd h1 ha)
      exact (ab.cl j b c' h1 h2).mono (fun _ _ z => z) (fun _ _ z => z) (fun z => z) (fun o' z => by rw [upd_ne hb]; exact z)
def allD : List W → Option (List PyData)
  | [] => some []
  | .d x :: r => (allD r).map (x :: ·)
  | _ :: _ => none
theorem allD_map : ∀ ds : List PyData, allD (ds.map .d) = some ds
  | [] => rfl
  | x :: r => by simp only [List.map_cons, allD, allD_map r, Option.map_some]
theorem allD_eq : ∀ {ws : List W} {ds : List PyData}, allD ws = some ds → ws = ds.map .d
  | [], _, h => by simp [allD] at h; subst h; rfl
  | .d x :: r, ds, h => by
    simp only [allD, Option.map_eq_some_iff] at h
    obtain ⟨l, h1, rfl⟩ := h
    rw [allD_eq h1]; rfl
  | .own _ :: _, _, h => by simp [allD] at h
  | .raw _ :: _, _, h => by simp [allD] at h
theorem repsF {xs : List V} {ws : List W} {ds : List PyData} (h : allD ws = some ds) (r : Paired (RepW K F A) xs ws) : Paired (RepF K F) xs ds := by
  rw [allD_eq h] at r
  exact paired_unmapr r fun _ _ q => q
/-- an object that is laid already, but not told, is data from now on, or a cell -/
theorem Abs.adoptD (ab : Abs K F A M H) {p : Addr} {xs : List V} {ds : List PyData} (hp : H p = some (.lst xs)) (hF : F p = none) (hA : p ∉ A) (r : Paired (RepF K F) xs ds) : Abs K (setF F p (.list ds)) A M H := by
  have hm : ∀ a y, F a = some y → setF F p (.list ds) a = some y := fun a y h => by
    rw [setF_ne]
    · exact h
    · rintro rfl; rw [hF] at h; cases h
  refine ⟨fun a y h => ?_, ab.len, ab.nd, fun i a c h1 h2 => ?_⟩
  · by_cases e : a = p
    · subst e
      rw [setF_same] at h
      cases h
      exact ⟨xs, .inl hp, paired_imp r fun _ _ q => q.mono hm⟩
    · rw [setF_ne e] at h
      exact (ab.fz a y h).mono hm (fun _ z => z)
  · have hne : a ≠ p := by rintro rfl; exact hA (List.mem_of_getElem? h1)
    exact (ab.cl i a c h1 h2).mono (fun _ w r => by cases w with
      | d y => exact RepF.mono hm r
      | own i => obtain ⟨b, rfl, hb⟩ := r.own; exact hb
      | raw v => simp only [RepW] at r ⊢; exact r) hm (fun h => by rw [setF_ne hne]; exact h) (fun _ z => z)
theorem Abs.adoptC (ab : Abs K F A M H) {p : Addr} {xs : List V} {ws : List W} (hp : H p = some (.lst xs)) (hF : F p = none) (hA : p ∉ A) (r : Paired (RepW K F A) xs ws) : Abs K F (A ++ [p]) (M ++ [.lst ws]) H ∧ (A ++ [p])[M.length]? = some p := by
  have up : ∀ x w, RepW K F A x w → RepW K F (A ++ [p]) x w := fun _ _ q => repW_app q
  refine ⟨⟨ab.fz, by simp [ab.len], ?_, fun i a c h1 h2 => ?_⟩, by rw [← ab.len]; simp⟩
  · rw [List.nodup_append]
    exact ⟨ab.nd, by simp, fun a ha b hb => by
      rw [List.mem_singleton.mp hb]
      rintro rfl
      exact hA ha⟩
  · by_cases hi : i < A.length
    · rw [List.getElem?_append_left hi] at h1
      rw [List.getElem?_append_left (by rw [← ab.len]; exact hi)] at h2
      exact (ab.cl i a c h1 h2).mono up (fun _ _ z => z) (fun z => z) (fun _ z => z)
    · have hi' : i = A.length := by
        rcases Nat.lt_or_ge i (A ++ [p]).length with q | q
        · simp at q; omega
        · rw [List.getElem?_eq_none q] at h1; cases h1
      subst hi'
      rw [List.getElem?_append_right (Nat.le_refl _)] at h1
      rw [ab.len, List.getElem?_append_right (Nat.le_refl _)] at h2
      simp at h1 h2
      subst h1 h2
      exact ⟨hF, _, hp, paired_imp r up⟩
/-- what is not told may change -/
theorem Abs.aside (ab : Abs K F A M H) {p : Addr} {o : HO} (hF : F p = none) (hA : p ∉ A) : Abs K F A M (upd H p o) := by
  refine ⟨fun a y h => (ab.fz a y h).mono (fun _ _ z => z) fun o' z => ?_, ab.len, ab.nd, fun i a c h1 h2 => (ab.cl i a c h1 h2).mono (fun _ _ z => z) (fun _ _ z => z) (fun z => z) fun o' z => ?_⟩
  · rw [upd_ne]
    · exact z
    · rintro rfl; rw [hF] at h; cases h
  · rw [upd_ne]
    · exact z
    · rintro rfl; exact hA (List.mem_of_getElem? h1)
end
end DL

/-! DL2: expressions, read over data. -/
namespace DL
open PySem PySem.Spec L2
abbrev DT (β : Type) := Rho → Mem → (β → Mem → Prop) → Prop
abbrev DW := DT W
def lift {α β : Type} (K : PySem.W.Frag) (R : FM → List Addr → α → β → Prop) (t : DT β) : L2.St → Hp → (α → Hp → Prop) → Prop := fun σ H Q =>
  ∃ F A ρ M Q', Abs K F A M H ∧ Paired (RepO K F A) σ ρ ∧ t ρ M Q' ∧ ∀ a b F' A' M' H', Ext F A H F' A' H' → Abs K F' A' M' H' → R F' A' a b → Q' b M' → Q a H'
abbrev liftW (K : PySem.W.Frag) := lift K (RepW K)
abbrev liftB (K : PySem.W.Frag) := lift K (fun _ _ (a b : Bool) => a = b)
abbrev liftA (K : PySem.W.Frag) := lift K (fun F A => Paired (RepW K F A))
abbrev DE (X : Cx) (e : Expr) (t : DW) : Prop := PE X e (liftW X.K t)
abbrev DTe (X : Cx) (e : Expr) (t : DT Bool) : Prop := PT X e (liftB X.K t)
abbrev DA (X : Cx) (es : List Expr) (t : DT (List W)) : Prop := PA X es (liftA X.K t)
/-- what the rest wants of a value -/
abbrev Post (K : PySem.W.Frag) (F : FM) (A : List Addr) (H : Hp) (Q' : W → Mem → Prop) (Q : V → Hp → Prop) : Prop :=
  ∀ z w F' A' M' H', Ext F A H F' A' H' → Abs K F' A' M' H' → RepW K F' A' z w → Q' w M' → Q z H'
theorem PE.imp {X : Cx} {e : Expr} {t t' : TE} (h : PE X e t) (k : ∀ σ H Q, t' σ H Q → t σ H Q) : PE X e t' := ⟨fun pins s σ H Q I q => h.run pins s σ H Q I (k σ H Q q)⟩
theorem PT.imp {X : Cx} {e : Expr} {t t' : TT} (h : PT X e t) (k : ∀ σ H Q, t' σ H Q → t σ H Q) : PT X e t' := ⟨fun pins s σ H Q I q => h.run pins s σ H Q I (k σ H Q q)⟩
theorem PA.imp {X : Cx} {es : List Expr} {t t' : TA} (h : PA X es t) (k : ∀ σ H Q, t' σ H Q → t σ H Q) : PA X es t' := ⟨fun pos pins s σ H Q I q => h.run pos pins s σ H Q I (k σ H Q q)⟩

section
variable {K : PySem.W.Frag} {F : FM} {A : List Addr} {M : Mem} {H : Hp} {Q' : W → Mem → Prop} {Q : V → Hp → Prop}
/-- nothing changes, a plain value comes -/
theorem post_d (ab : Abs K F A M H) (k : Post K F A H Q' Q) {z : V} {x : PyData} (r : RepF K F z x) (q : Q' (.d x) M) : Q z H := k z (.d x) F A M H .refl ab r q
def mkL (o : Bool) (ws : List W) (M : Mem) (Q : W → Mem → Prop) : Prop :=
  match o, allD ws with
  | false, some ds => Q (.d (.list ds)) M
  | _, _ => Q (.own M.length) (M ++ [.lst ws])
def mkT (ws : List W) (M : Mem) (Q : W → Mem → Prop) : Prop :=
  match allD ws with
  | some ds => Q (.d (.tuple ds)) M
  | none => Q (.own M.length) (M ++ [.tup ws])
theorem mkL_ok {o : Bool} {ws : List W} {xs : List V} (ab : Abs K F A M H) (k : Post K F A H Q' Q) (r : Paired (RepW K F A) xs ws) (q : mkL o ws M Q') {p : Addr} (hp : H p = none) : Q (.ref p) (upd H p (.lst xs)) := by
  unfold mkL at q
  split at q
  · rename_i ds hd
    obtain ⟨ab', ex⟩ := ab.newListD hp (repsF hd r)
    exact k (.ref p) (.d (.list ds)) _ _ _ _ ex ab' (show _ ∨ _ from .inl setF_same) q
  · obtain ⟨ab', ex, hi⟩ := ab.newC (c := .lst ws) hp (fun _ z => nomatch z) (o := .lst xs) r
    exact k (.ref p) (.own M.length) _ _ _ _ ex ab' hi q
theorem mkT_ok {ws : List W} {xs : List V} (ab : Abs K F A M H) (k : Post K F A H Q' Q) (r : Paired (RepW K F A) xs ws) (q : mkT ws M Q') {p : Addr} (hp : H p = none) : Q (.ref p) (upd H p (.tup xs)) := by
  unfold mkT at q
  split at q
  · rename_i ds hd
    obtain ⟨ab', ex⟩ := ab.newTupD hp (repsF hd r)
    exact k (.ref p) (.d (.tuple ds)) _ _ _ _ ex ab' setF_same q
  · obtain ⟨ab', ex, hi⟩ := ab.newC (c := .tup ws) hp (fun _ z => nomatch z) (o := .tup xs) r
    exact k (.ref p) (.own M.length) _ _ _ _ ex ab' hi q
end

/-! ### names, constants -/
section
variable {X : Cx} {pos : Pos}
def dVar (i : Nat) : DW := fun ρ M Q => match ρ[i]? with
  | some (some w) => Q w M
  | _ => False
theorem de_var {i : Nat} {e : Expr} (h : PE X e (tVar i)) : DE X e (dVar i) := PE.imp h fun σ H Q ⟨F, A, ρ, M, Q', ab, rs, h, k⟩ => by
  unfold dVar at h
  split at h
  · rename_i w e
    obtain ⟨x, hx, rx⟩ := paired_get rs e
    cases x with
    | none => exact False.elim rx
    | some x => exact ⟨x, hx, k _ _ F A M H .refl ab rx h⟩
  · exact h.elim
def dC (x : PyData) : DW := fun _ M Q => Q (.d x) M
theorem de_int {i j} : DE X (.Constant (.int i) j pos) (dC (.int i)) := PE.imp pe_int fun σ H Q ⟨F, A, ρ, M, Q', ab, rs, h, k⟩ => post_d ab k (x := .int i) rfl h
theorem de_bl {i j} : DE X (.Constant (.bool i) j pos) (dC (.bool i)) := PE.imp pe_bl fun σ H Q ⟨F, A, ρ, M, Q', ab, rs, h, k⟩ => post_d ab k (x := .bool i) rfl h
theorem de_non {j} : DE X (.Constant .none j pos) (dC .none) := PE.imp pe_non fun σ H Q ⟨F, A, ρ, M, Q', ab, rs, h, k⟩ => post_d ab k (x := .none) trivial h
theorem de_str {i j} : DE X (.Constant (.str i) j pos) (dC (.str i)) := PE.imp pe_str fun σ H Q ⟨F, A, ρ, M, Q', ab, rs, h, k⟩ => post_d ab k (x := .str i) rfl h
/-- a module's int -/
theorem de_gint {x : Str} {i : Int} {t : Tok} {p : Pos} (hm : X.mg x = some (.int i t)) (hg : Gl X x := by rfl) (hd : (x == ("__debug__" : Str)) = false := by decide) : DE X (.Name x p) (dC (.int i)) :=
  PE.imp (pe_glob (v := .int i) hg hm ⟨_, rfl⟩ hd) fun σ H Q ⟨F, A, ρ, M, Q', ab, rs, h, k⟩ => post_d ab k (x := .int i) rfl h
/-- a built-in class as a value -/
def dRaw (v : V) : DW := fun _ M Q => Q (.raw v) M
theorem de_ty {x : Str} {n : String} {p : Pos} (hm : X.mg x = none) (hv : bootBuiltins x = some (.type n)) (hg : Gl X x := by rfl) (hn : x ≠ "__name__" := by decide) (hd : (x == ("__debug__" : Str)) = false := by decide) : DE X (.Name x p) (dRaw (.ty n)) :=
  PE.imp (pe_bltn (v := .ty n) hg hm hv rfl hn hd) fun σ H Q ⟨F, A, ρ, M, Q', ab, rs, h, k⟩ => k _ (.raw (.ty n)) F A M H .refl ab rfl h

/-! ### operators -/
variable {a b c : Expr} {ta tb tc : DW}
abbrev DR1 := W → Mem → (W → Mem → Prop) → Prop
abbrev DR2 := W → W → Mem → (W → Mem → Prop) → Prop
abbrev DRN := List W → Mem → (W → Mem → Prop) → Prop
def Snd1 (K : PySem.W.Frag) (r : V → Hp → VK → Prop) (dr : DR1) : Prop := ∀ F A M H x wx Q Q', Abs K F A M H → RepW K F A x wx → dr wx M Q' → Post K F A H Q' Q → r x H Q
def Snd2 (K : PySem.W.Frag) (r : R2) (dr : DR2) : Prop := ∀ F A M H x y wx wy Q Q', Abs K F A M H → RepW K F A x wx → RepW K F A y wy → dr wx wy M Q' → Post K F A H Q' Q → r x y H Q
def SndN (K : PySem.W.Frag) (r : List V → Hp → VK → Prop) (dr : DRN) : Prop := ∀ F A M H xs ws Q Q', Abs K F A M H → Paired (RepW K F A) xs ws → dr ws M Q' → Post K F A H Q' Q → r xs H Q
def dOp (dr : DR2) (ta tb : DW) : DW := fun ρ M Q => ta ρ M fun x M1 => tb ρ M1 fun y M2 => dr x y M2 Q
def dUn (dr : DR1) (ta : DW) : DW := fun ρ M Q => ta ρ M fun x M1 => dr x M1 Q
theorem lift2 {K : PySem.W.Frag} {r : R2} {dr : DR2} (s : Snd2 K r dr) (σ : L2.St) (H : Hp) (Q : VK) (q : liftW K (dOp dr ta tb) σ H Q) : tOp r (liftW K ta) (liftW K tb) σ H Q := by
  obtain ⟨F, A, ρ, M, Q', ab, rs, h, k⟩ := q
  refine ⟨F, A, ρ, M, _, ab, rs, h, fun x wx F1 A1 M1 H1 e1 ab1 rx h1 => ?_⟩
  refine ⟨F1, A1, ρ, M1, _, ab1, repsO_ext e1 rs, h1, fun y wy F2 A2 M2 H2 e2 ab2 ry h2 => ?_⟩
  exact s F2 A2 M2 H2 x y wx wy Q Q' ab2 (rx.ext e2) ry h2 fun z w F3 A3 M3 H3 e3 ab3 rz q3 => k z w F3 A3 M3 H3 (e1.trans (e2.trans e3)) ab3 rz q3
theorem lift1 {K : PySem.W.Frag} {r : V → Hp → VK → Prop} {dr : DR1} (s : Snd1 K r dr) (σ : L2.St) (H : Hp) (Q : VK) (q : liftW K (dUn dr ta) σ H Q) : tUn r (liftW K ta) σ H Q := by
  obtain ⟨F, A, ρ, M, Q', ab, rs, h, k⟩ := q
  refine ⟨F, A, ρ, M, _, ab, rs, h, fun x wx F1 A1 M1 H1 e1 ab1 rx h1 => ?_⟩
  exact s F1 A1 M1 H1 x wx Q Q' ab1 rx h1 fun z w F3 A3 M3 H3 e3 ab3 rz q3 => k z w F3 A3 M3 H3 (e1.trans e3) ab3 rz q3
theorem de_op {op : Operator} {r : R2} {dr : DR2} (ho : OpR X (binaryOp op) r) (s : Snd2 X.K r dr) (ha : DE X a ta) (hb : DE X b tb) : DE X (.BinOp a op b pos) (dOp dr ta tb) := PE.imp (pe_op ho ha hb) (lift2 s)
theorem de_un {op : UnaryOp} {r : V → Hp → VK → Prop} {dr : DR1} (ho : UnR X (unaryOp op) r) (s : Snd1 X.K r dr) (ha : DE X a ta) : DE X (.UnaryOp op a pos) (dUn dr ta) := PE.imp (pe_un ho ha) (lift1 s)
theorem de_cmp {op : CmpOp} {r : R2} {dr : DR2} (ho : OpR X (compareOp op) r) (s : Snd2 X.K r dr) (ha : DE X a ta) (hb : DE X b tb) (hm : behindInMarks op b = false) : DE X (.Compare a [op] [b] pos) (dOp dr ta tb) := PE.imp (pe_cmpR ho ha hb hm) (lift2 s)
/-- a value that is a truth, as a test -/
def dTest (t : DW) : DT Bool := fun ρ M Q => t ρ M fun w M1 => match w with
  | .d (.bool b) => Q b M1
  | _ => False
theorem lift_test {K : PySem.W.Frag} {t : DW} {t' : TE} (w : ∀ σ H Q, liftW K t σ H Q → t' σ H Q) (σ : L2.St) (H : Hp) (Q : Bool → Hp → Prop) (q : liftB K (dTest t) σ H Q) : tTest t' σ H Q := by
  obtain ⟨F, A, ρ, M, Q', ab, rs, h, k⟩ := q
  refine w σ H _ ⟨F, A, ρ, M, _, ab, rs, h, fun x wx F1 A1 M1 H1 e1 ab1 rx h1 => ?_⟩
  split at h1
  · obtain rfl := RepF.bool rx
    exact ⟨_, rfl, k _ _ _ _ _ _ e1 ab1 rfl h1⟩
  · exact h1.elim
theorem dt_cmp {op : CmpOp} {r : R2} {dr : DR2} (ho : OpR X (compareOp op) r) (s : Snd2 X.K r dr) (ha : DE X a ta) (hb : DE X b tb) (hm : behindInMarks op b = false) : DTe X (.Compare a [op] [b] pos) (dTest (dOp dr ta tb)) :=
  PT.imp (pt_cmpR ho ha hb hm) (lift_test (lift2 s))
theorem dt_val {e : Expr} {t : DW} (h : DE X e t) (he : ∀ w, isTrue e X.env w = (do let v ← w; standAt e.pos; holding [v] (truthy v)) := by intro _; rfl) : DTe X e (dTest t) := PT.imp (pt_val h he) (lift_test fun _ _ _ q => q)
/-- a < b < c -/
def dChain (dr dr' : DR2) (ta tb tc : DW) : DW := fun ρ M Q => ta ρ M fun x M1 => tb ρ M1 fun y M2 => dr x y M2 fun w M3 => match w with
  | .d (.bool true) => tc ρ M3 fun z M4 => dr' y z M4 Q
  | .d (.bool false) => Q (.d (.bool false)) M3
  | _ => False
theorem lift_chain {K : PySem.W.Frag} {r r' : R2} {dr dr' : DR2} (s : Snd2 K r dr) (s' : Snd2 K r' dr') (σ : L2.St) (H : Hp) (Q : VK) (q : liftW K (dChain dr dr' ta tb tc) σ H Q) : tChain r r' (liftW K ta) (liftW K tb) (liftW K tc) σ H Q := by
  obtain ⟨F, A, ρ, M, Q', ab, rs, h, k⟩ := q
  refine ⟨F, A, ρ, M, _, ab, rs, h, fun x wx F1 A1 M1 H1 e1 ab1 rx h1 => ?_⟩
  refine ⟨F1, A1, ρ, M1, _, ab1, repsO_ext e1 rs, h1, fun y wy F2 A2 M2 H2 e2 ab2 ry h2 => ?_⟩
  refine s F2 A2 M2 H2 x y wx wy _ _ ab2 (rx.ext e2) ry h2 fun z w F3 A3 M3 H3 e3 ab3 rz q3 => ?_
  split at q3
  · obtain rfl := RepF.bool rz
    refine ⟨true, rfl, ?_⟩
    refine iteT ⟨F3, A3, ρ, M3, _, ab3, repsO_ext e3 (repsO_ext e2 (repsO_ext e1 rs)), q3, fun z wz F4 A4 M4 H4 e4 ab4 rz4 h4 => ?_⟩
    exact s' F4 A4 M4 H4 y z wy wz Q Q' ab4 ((ry.ext e3).ext e4) rz4 h4 fun z w F5 A5 M5 H5 e5 ab5 rz q5 => k z w F5 A5 M5 H5 (e1.trans (e2.trans (e3.trans (e4.trans e5)))) ab5 rz q5
  · obtain rfl := RepF.bool rz
    refine ⟨false, rfl, ?_⟩
    exact iteF (k _ (.d (.bool false)) F3 A3 M3 H3 (e1.trans (e2.trans e3)) ab3 rfl q3)
  · exact q3.elim
theorem de_chain {op op' : CmpOp} {r r' : R2} {dr dr' : DR2} (ho : OpR X (compareOp op) r) (s : Snd2 X.K r dr) (ho' : OpR X (compareOp op') r') (s' : Snd2 X.K r' dr') (ha : DE X a ta) (hb : DE X b tb) (hc : DE X c tc)
    (hm : lastMarks [op, op'] [b, c] = false := by with_unfolding_all rfl) : DE X (.Compare a [op, op'] [b, c] pos) (dChain dr dr' ta tb tc) := PE.imp (pe_chain ho ho' ha hb hc hm) (lift_chain s s')
theorem dt_chain {op op' : CmpOp} {r r' : R2} {dr dr' : DR2} (ho : OpR X (compareOp op) r) (s : Snd2 X.K r dr) (ho' : OpR X (compareOp op') r') (s' : Snd2 X.K r' dr') (ha : DE X a ta) (hb : DE X b tb) (hc : DE X c tc)
    (hm : lastMarks [op, op'] [b, c] = false := by with_unfolding_all rfl) : DTe X (.Compare a [op, op'] [b, c] pos) (dTest (dChain dr dr' ta tb tc)) := PT.imp (pt_chain ho ho' ha hb hc hm) (lift_test (lift_chain s s'))

/-! ### and, or, not, if -/
def dAnd (t u : DT Bool) : DT Bool := fun ρ M Q => t ρ M fun b M1 => if b = true then u ρ M1 Q else Q false M1
def dOr (t u : DT Bool) : DT Bool := fun ρ M Q => t ρ M fun b M1 => if b = true then Q true M1 else u ρ M1 Q
def dNot (t : DT Bool) : DT Bool := fun ρ M Q => t ρ M fun b M1 => Q (!b) M1
abbrev DPw (X : Cx) (e : Expr) (t : DT Bool) : Prop := PW X e (liftB X.K t)
theorem PW.imp {e : Expr} {t t' : TT} (h : PW X e t) (k : ∀ σ H Q, t' σ H Q → t σ H Q) : PW X e t' := ⟨fun wh pins s σ H Q I q => h.run wh pins s σ H Q I (k σ H Q q)⟩
variable {rest : List Expr} {t u : DT Bool}
theorem lift_and {K : PySem.W.Frag} (σ : L2.St) (H : Hp) (Q : Bool → Hp → Prop) (q : liftB K (dAnd t u) σ H Q) : tAnd (liftB K t) (liftB K u) σ H Q := by
  obtain ⟨F, A, ρ, M, Q', ab, rs, h, k⟩ := q
  refine ⟨F, A, ρ, M, _, ab, rs, h, fun x y F1 A1 M1 H1 e1 ab1 rx h1 => ?_⟩
  subst rx
  cases x with
  | true => exact iteT ⟨F1, A1, ρ, M1, _, ab1, repsO_ext e1 rs, h1, fun a b F2 A2 M2 H2 e2 ab2 r2 h2 => k a b F2 A2 M2 H2 (e1.trans e2) ab2 r2 h2⟩
  | false => exact iteF (k _ _ _ _ _ _ e1 ab1 rfl h1)
theorem lift_or {K : PySem.W.Frag} (σ : L2.St) (H : Hp) (Q : Bool → Hp → Prop) (q : liftB K (dOr t u) σ H Q) : tOr (liftB K t) (liftB K u) σ H Q := by
  obtain ⟨F, A, ρ, M, Q', ab, rs, h, k⟩ := q
  refine ⟨F, A, ρ, M, _, ab, rs, h, fun x y F1 A1 M1 H1 e1 ab1 rx h1 => ?_⟩
  subst rx
  cases x with
  | true => exact iteT (k _ _ _ _ _ _ e1 ab1 rfl h1)
  | false => exact iteF ⟨F1, A1, ρ, M1, _, ab1, repsO_ext e1 rs, h1, fun a b F2 A2 M2 H2 e2 ab2 r2 h2 => k a b F2 A2 M2 H2 (e1.trans e2) ab2 r2 h2⟩
theorem dw_and1 (ha : DTe X a t) : DPw X (.BoolOp .And [a] pos) t := pw_and1 ha
theorem dw_or1 (ha : DTe X a t) : DPw X (.BoolOp .Or [a] pos) t := pw_or1 ha
theorem dw_and (ha : DTe X a t) (hb : DPw X (.BoolOp .And (b :: rest) pos) u) : DPw X (.BoolOp .And (a :: b :: rest) pos) (dAnd t u) := PW.imp (pw_and ha hb) lift_and
theorem dw_or (ha : DTe X a t) (hb : DPw X (.BoolOp .Or (b :: rest) pos) u) : DPw X (.BoolOp .Or (a :: b :: rest) pos) (dOr t u) := PW.imp (pw_or ha hb) lift_or
theorem dt_w {e : Expr} (h : DPw X e t) : DTe X e t := h.pt
theorem dt_not (ha : DTe X a t) : DTe X (.UnaryOp .Not a pos) (dNot t) := PT.imp (pt_not ha) fun σ H Q ⟨F, A, ρ, M, Q', ab, rs, h, k⟩ =>
  ⟨F, A, ρ, M, _, ab, rs, h, fun x y F1 A1 M1 H1 e1 ab1 rx h1 => by subst rx; exact k _ _ _ _ _ _ e1 ab1 rfl h1⟩
/-- .. as values: all but the last are truths -/
def dAndV (ta tb : DW) : DW := fun ρ M Q => ta ρ M fun w M1 => match w with
  | .d (.bool true) => tb ρ M1 Q
  | .d (.bool false) => Q (.d (.bool false)) M1
  | _ => False
def dOrV (ta tb : DW) : DW := fun ρ M Q => ta ρ M fun w M1 => match w with
  | .d (.bool true) => Q (.d (.bool true)) M1
  | .d (.bool false) => tb ρ M1 Q
  | _ => False
theorem de_one {op} {t : DW} (h : DE X a t) : DE X (.BoolOp op [a] pos) t := pe_one h
theorem de_and (ha : DE X a ta) (hb : DE X (.BoolOp .And (b :: rest) pos) tb) : DE X (.BoolOp .And (a :: b :: rest) pos) (dAndV ta tb) := PE.imp (pe_and ha hb) fun σ H Q ⟨F, A, ρ, M, Q', ab, rs, h, k⟩ =>
  ⟨F, A, ρ, M, _, ab, rs, h, fun x w F1 A1 M1 H1 e1 ab1 rx h1 => by
    split at h1
    · obtain rfl := RepF.bool rx
      exact ⟨true, rfl, iteT ⟨F1, A1, ρ, M1, _, ab1, repsO_ext e1 rs, h1, fun a b F2 A2 M2 H2 e2 ab2 r2 h2 => k a b F2 A2 M2 H2 (e1.trans e2) ab2 r2 h2⟩⟩
    · obtain rfl := RepF.bool rx
      exact ⟨false, rfl, iteF (k _ _ _ _ _ _ e1 ab1 rx h1)⟩
    · exact h1.elim⟩
theorem de_or (ha : DE X a ta) (hb : DE X (.BoolOp .Or (b :: rest) pos) tb) : DE X (.BoolOp .Or (a :: b :: rest) pos) (dOrV ta tb) := PE.imp (pe_or ha hb) fun σ H Q ⟨F, A, ρ, M, Q', ab, rs, h, k⟩ =>
  ⟨F, A, ρ, M, _, ab, rs, h, fun x w F1 A1 M1 H1 e1 ab1 rx h1 => by
    split at h1
    · obtain rfl := RepF.bool rx
      exact ⟨true, rfl, iteT (k _ _ _ _ _ _ e1 ab1 rx h1)⟩
    · obtain rfl := RepF.bool rx
      exact ⟨false, rfl, iteF ⟨F1, A1, ρ, M1, _, ab1, repsO_ext e1 rs, h1, fun a b F2 A2 M2 H2 e2 ab2 r2 h2 => k a b F2 A2 M2 H2 (e1.trans e2) ab2 r2 h2⟩⟩
    · exact h1.elim⟩
def dNotV (t : DT Bool) : DW := fun ρ M Q => t ρ M fun b M1 => Q (.d (.bool (!b))) M1
/-- not t as a value -/
theorem de_not {ta : DW} (ha : DE X a ta) : DE X (.UnaryOp .Not a pos) (dNotV (dTest ta)) := PE.imp (pe_not ha) fun σ H Q ⟨F, A, ρ, M, Q', ab, rs, h, k⟩ =>
  ⟨F, A, ρ, M, _, ab, rs, h, fun x w F1 A1 M1 H1 e1 ab1 rx h1 => by
    split at h1
    · obtain rfl := RepF.bool rx
      exact ⟨_, rfl, k _ (.d (.bool _)) _ _ _ _ e1 ab1 rfl h1⟩
    · exact h1.elim⟩
def dIf (t : DT Bool) (ta tb : DW) : DW := fun ρ M Q => t ρ M fun b M1 => if b = true then ta ρ M1 Q else tb ρ M1 Q
theorem de_if (hc : DTe X c t) (ha : DE X a ta) (hb : DE X b tb) : DE X (.IfExp c a b pos) (dIf t ta tb) := PE.imp (pe_ifExp hc ha hb) fun σ H Q ⟨F, A, ρ, M, Q', ab, rs, h, k⟩ =>
  ⟨F, A, ρ, M, _, ab, rs, h, fun x y F1 A1 M1 H1 e1 ab1 rx h1 => by
    subst rx
    cases x with
    | true => exact iteT ⟨F1, A1, ρ, M1, _, ab1, repsO_ext e1 rs, h1, fun a b F2 A2 M2 H2 e2 ab2 r2 h2 => k a b F2 A2 M2 H2 (e1.trans e2) ab2 r2 h2⟩
    | false => exact iteF ⟨F1, A1, ρ, M1, _, ab1, repsO_ext e1 rs, h1, fun a b F2 A2 M2 H2 e2 ab2 r2 h2 => k a b F2 A2 M2 H2 (e1.trans e2) ab2 r2 h2⟩⟩

/-! ### arguments, displays, calls of built-ins -/
variable {es : List Expr} {tA : DT (List W)}
def dNil : DT (List W) := fun _ M Q => Q [] M
def dCons (t : DW) (u : DT (List W)) : DT (List W) := fun ρ M Q => t ρ M fun w M1 => u ρ M1 fun ws M2 => Q (w :: ws) M2
theorem da_nil : DA X [] dNil := PA.imp pa_nil fun σ H Q ⟨F, A, ρ, M, Q', ab, rs, h, k⟩ => k _ _ F A M H .refl ab .nil h
theorem da_cons (ha : DE X a ta) (hr : DA X es tA) (hs : starEach (a :: es) X.env = (false, eval a X.env) :: starEach es X.env := by rfl) : DA X (a :: es) (dCons ta tA) := PA.imp (pa_cons ha hr hs) fun σ H Q ⟨F, A, ρ, M, Q', ab, rs, h, k⟩ =>
  ⟨F, A, ρ, M, _, ab, rs, h, fun x w F1 A1 M1 H1 e1 ab1 rx h1 => ⟨F1, A1, ρ, M1, _, ab1, repsO_ext e1 rs, h1, fun xs ws F2 A2 M2 H2 e2 ab2 r2 h2 => k _ _ F2 A2 M2 H2 (e1.trans e2) ab2 (.cons (rx.ext e2) r2) h2⟩⟩
def dLst (o : Bool) (t : DT (List W)) : DW := fun ρ M Q => t ρ M fun ws M1 => ws.length ≤ sizeLine ∧ mkL o ws M1 Q
theorem de_lst (o : Bool) (h : DA X es tA) : DE X (.List es pos) (dLst o tA) := PE.imp (pe_lst h) fun σ H Q ⟨F, A, ρ, M, Q', ab, rs, h, k⟩ =>
  ⟨F, A, ρ, M, _, ab, rs, h, fun xs ws F1 A1 M1 H1 e1 ab1 r1 ⟨hz, h1⟩ => ⟨by rw [Paired.length r1]; exact hz, fun p hp => mkL_ok ab1 (fun z w F' A' M' H' e2 => k z w F' A' M' H' (e1.trans e2)) r1 h1 hp⟩⟩
def dTup (t : DT (List W)) : DW := fun ρ M Q => t ρ M fun ws M1 => ws.length ≤ sizeLine ∧ mkT ws M1 Q
theorem de_tup {j} (h : DA X es tA) : DE X (.Tuple es j pos) (dTup tA) := PE.imp (pe_tup h) fun σ H Q ⟨F, A, ρ, M, Q', ab, rs, h, k⟩ =>
  ⟨F, A, ρ, M, _, ab, rs, h, fun xs ws F1 A1 M1 H1 e1 ab1 r1 ⟨hz, h1⟩ => ⟨by rw [Paired.length r1]; exact hz, fun p hp => mkT_ok ab1 (fun z w F' A' M' H' e2 => k z w F' A' M' H' (e1.trans e2)) r1 h1 hp⟩⟩
def dCB (dr : DRN) (t : DT (List W)) : DW := fun ρ M Q => t ρ M fun ws M1 => dr ws M1 Q
theorem liftN {K : PySem.W.Frag} {r : List V → Hp → VK → Prop} {dr : DRN} (s : SndN K r dr) (σ : L2.St) (H : Hp) (Q : VK) (q : liftW K (dCB dr tA) σ H Q) : tCB r (liftA K tA) σ H Q := by
  obtain ⟨F, A, ρ, M, Q', ab, rs, h, k⟩ := q
  exact ⟨F, A, ρ, M, _, ab, rs, h, fun xs ws F1 A1 M1 H1 e1 ab1 r1 h1 => s F1 A1 M1 H1 xs ws Q Q' ab1 r1 h1 fun z w F' A' M' H' e2 => k z w F' A' M' H' (e1.trans e2)⟩
variable {x : Str} {p : Pos} {id T : String} {r : List V → Hp → VK → Prop} {dr : DRN}
theorem de_callB (hc : CallR X (.builtin id) r) (s : SndN X.K r dr) (hm : X.mg x = none) (hv : bootBuiltins x = some (.builtin id)) (ha : DA X (a :: es) tA) (hg : Gl X x := by rfl) (hn : x ≠ "__name__" := by decide) (hdb : (x == ("__debug__" : Str)) = false := by decide)
    (he : starEach (a :: es) X.env = (false, eval a X.env) :: starEach es X.env := by rfl) (hpl : (backTo pos (starEach es X.env)).any (·.1) = false := by rfl) : DE X (.Call (.Name x p) (a :: es) [] pos) (dCB dr tA) :=
  PE.imp (pe_callB hc hg hm hv ha hn hdb he hpl) (liftN s)
theorem de_callTy (hc : CallR X (.type T) r) (s : SndN X.K r dr) (hm : X.mg x = none) (hv : bootBuiltins x = some (.type T)) (ha : DA X (a :: es) tA) (hg : Gl X x := by rfl) (hn : x ≠ "__name__" := by decide) (hdb : (x == ("__debug__" : Str)) = false := by decide)
    (he : starEach (a :: es) X.env = (false, eval a X.env) :: starEach es X.env := by rfl) (hpl : (backTo pos (starEach es X.env)).any (·.1) = false := by rfl) : DE X (.Call (.Name x p) (a :: es) [] pos) (dCB dr tA) :=
  PE.imp (pe_callTy hc hg hm hv ha hn hdb he hpl) (liftN s)
end
end DL

/-! DL3: what operators, methods and built-ins do to data. -/
namespace DL
open PySem PySem.Spec L2

/-! ### data, and what a handle holds now -/
def optAll {α β : Type} (f : α → Option β) : List α → Option (List β)
  | [] => some []
  | x :: r => match f x, optAll f r with
    | some y, some ys => some (y :: ys)
    | _, _ => none
def toDn : Nat → Mem → W → Option PyData
  | _, _, .d x => some x
  | n + 1, M, .own i => match M[i]? with
    | some (.frz x) => some x
    | some (.lst ws) => (optAll (toDn n M) ws).map .list
    | some (.tup ws) => (optAll (toDn n M) ws).map .tuple
    | none => none
  | _, _, _ => none
abbrev toD := toDn 4
theorem toD_d (M : Mem) (x : PyData) : toD M (.d x) = some x := rfl
section
variable {K : PySem.W.Frag} {F : FM} {A : List Addr} {M : Mem} {H : Hp}
theorem optAll_dp {f : W → Option PyData} (hf : ∀ x w d, RepW K F A x w → f w = some d → Dp K H x d) : ∀ (ws : List W) (xs : List V) (ds : List PyData), Paired (RepW K F A) xs ws → optAll f ws = some ds → DpAll K H xs ds
  | [], _, ds, .nil, h => by
    simp only [optAll, Option.some.injEq] at h
    subst h
    exact .nil
  | w :: ws, _, ds, .cons r t, h => by
    simp only [optAll] at h
    split at h
    · rename_i y ys h1 h2
      simp only [Option.some.injEq] at h
      subst h
      exact .cons (hf _ _ _ r h1) (optAll_dp hf ws _ _ t h2)
    · cases h
theorem Abs.toD (ab : Abs K F A M H) : ∀ (n : Nat) (x : V) (w : W) (d : PyData), RepW K F A x w → toDn n M w = some d → Dp K H x d
  | n, x, .d y, d, r, h => by
    have e : some y = some d := by cases n <;> exact h
    cases e
    exact ab.dp _ _ r
  | 0, x, .own i, d, r, h => by cases h
  | n, x, .raw v, d, r, h => by cases n <;> cases h
  | n + 1, x, .own i, d, r, h => by
    obtain ⟨a, rfl, ha⟩ := r.own
    obtain ⟨c, hc, hcl⟩ := ab.cell ha
    simp only [toDn, hc] at h
    cases c with
    | frz y =>
      have e : y = d := Option.some.inj h
      subst e
      have hf : F a = some y := hcl
      have z := ab.fz a y hf
      cases y <;> simp only [FzOk] at z
      · obtain ⟨xs, h1, h2⟩ := z
        exact .lst (.inl h1) (ab.dpAll _ _ h2)
      · obtain ⟨xs, h1, h2⟩ := z
        exact .tup (.inl h1) (ab.dpAll _ _ h2)
    | lst ws =>
      obtain ⟨_, o, ho, hr⟩ := hcl
      cases o <;> simp only [CellRep] at hr
      simp only [Option.map_eq_some_iff] at h
      obtain ⟨ds, h1, rfl⟩ := h
      exact .lst (.inl (.inl ho)) (optAll_dp (fun x w d r h => Abs.toD ab n x w d r h) ws _ ds hr h1)
    | tup ws =>
      obtain ⟨_, o, ho, hr⟩ := hcl
      cases o <;> simp only [CellRep] at hr
      simp only [Option.map_eq_some_iff] at h
      obtain ⟨ds, h1, rfl⟩ := h
      exact .tup (.inl (.inl ho)) (optAll_dp (fun x w d r h => Abs.toD ab n x w d r h) ws _ ds hr h1)
end

/-! ### combining rules -/
section
variable {X : Cx}
theorem OpR.or {f : Value → Value → Sem Value} {r r' : R2} (h : OpR X f r) (h' : OpR X f r') : OpR X f (fun x y H Q => r x y H Q ∨ r' x y H Q) := by
  intro pins s σ H x y v u Q I rx ry q
  rcases q with q | q
  · exact h pins s σ H x y v u Q I rx ry q
  · exact h' pins s σ H x y v u Q I rx ry q
theorem CallR.or {f : Value} {r r' : List V → Hp → VK → Prop} (h : CallR X f r) (h' : CallR X f r') : CallR X f (fun xs H Q => r xs H Q ∨ r' xs H Q) := by
  intro pins s σ H xs us Q I rx q
  rcases q with q | q
  · exact h pins s σ H xs us Q I rx q
  · exact h' pins s σ H xs us Q I rx q

/-! ### arithmetic -/
def rCatX (K : PySem.W.Frag) : R2 := fun x y H Q => ∃ l b xs zs, x = .ref l ∧ y = .ref b ∧ SqX K H l xs ∧ SqX K H b zs ∧ xs.length + zs.length ≤ sizeLine ∧ ∀ p, H p = none → Q (.ref p) (upd H p (.lst (xs ++ zs)))
theorem op_catX : OpR X (binaryOp .Add) (rCatX X.K) := by
  intro pins s σ H x y v u Q I rx ry q
  obtain ⟨l, b, xs, zs, rfl, rfl, h1, h2, hz, k⟩ := q
  obtain rfl : v = Value.ref l := rx
  obtain rfl : u = Value.ref b := ry
  obtain ⟨i1, n1, r1, l1, _, e1⟩ := whole I h1
  obtain ⟨i2, n2, r2, l2, _, e2⟩ := whole I h2
  have joined : i1.toArray ++ i2.toArray = (i1 ++ i2).toArray := List.append_toArray ..
  refine P.add_list e1 e2 ?_ (by simp only [List.size_toArray]; omega)
  rw [joined]
  exact ⟨.ref _, _, I.lnew (t' := s.toks) (r1.append r2) (by simp only [List.length_append]; exact hz), rfl, k _ I.fresh⟩
/-- a + b -/
def dAddR (o : Bool) : DR2
  | .d (.int i), .d (.int j), M, Q => Q (.d (.int (i + j))) M
  | .d (.str a), .d (.str b), M, Q => a.length + b.length ≤ sizeLine ∧ Q (.d (.str (a ++ b))) M
  | x, y, M, Q => ∃ as bs, listOf M x = some as ∧ listOf M y = some bs ∧ as.length + bs.length ≤ sizeLine ∧ mkL o (as ++ bs) M Q
abbrev rAddR (K : PySem.W.Frag) : R2 := fun x y H Q => (rI0 (fun i j => .int (i + j)) x y H Q) ∨ ((∃ i j, x = .str i ∧ y = .str j ∧ i.length + j.length ≤ sizeLine ∧ Q (.str (i ++ j)) H) ∨ rCatX K x y H Q)
theorem sAdd {K : PySem.W.Frag} (o : Bool) : Snd2 K (rAddR K) (dAddR o) := by
  intro F A M H x y wx wy Q Q' ab rx ry h k
  unfold dAddR at h
  split at h
  · obtain rfl := RepF.int rx
    obtain rfl := RepF.int ry
    exact .inl ⟨_, _, rfl, rfl, post_d ab k (x := .int _) rfl h⟩
  · obtain rfl := RepF.str rx
    obtain rfl := RepF.str ry
    exact .inr (.inl ⟨_, _, rfl, rfl, h.1, post_d ab k (x := .str _) rfl h.2⟩)
  · obtain ⟨as, bs, h1, h2, hz, q⟩ := h
    obtain ⟨a, xs, rfl, s1, r1⟩ := ab.listW rx h1
    obtain ⟨b, ys, rfl, s2, r2⟩ := ab.listW ry h2
    exact .inr (.inr ⟨a, b, xs, ys, rfl, rfl, s1, s2, by rw [Paired.length r1, Paired.length r2]; exact hz, fun p hp => mkL_ok ab k (paired_append r1 r2) q hp⟩)
theorem op_addX : OpR X (binaryOp .Add) (rAddR X.K) := OpR.or op_add (OpR.or (op_add_str) op_catX)
def dIntR (C : Int → Int → Prop) (g : Int → Int → PyData) : DR2
  | .d (.int i), .d (.int j), M, Q => C i j ∧ Q (.d (g i j)) M
  | _, _, _, _ => False
theorem sInt {K : PySem.W.Frag} {C : Int → Int → Prop} {g : Int → Int → Int} : Snd2 K (rI C fun i j => .int (g i j)) (dIntR C fun i j => .int (g i j)) := by
  intro F A M H x y wx wy Q Q' ab rx ry h k
  unfold dIntR at h
  split at h
  · obtain rfl := RepF.int rx
    obtain rfl := RepF.int ry
    exact ⟨_, _, rfl, rfl, h.1, post_d ab k (x := .int _) rfl h.2⟩
  · exact h.elim
theorem sInt0 {K : PySem.W.Frag} {g : Int → Int → Int} : Snd2 K (rI0 fun i j => .int (g i j)) (dIntR (fun _ _ => True) fun i j => .int (g i j)) := by
  intro F A M H x y wx wy Q Q' ab rx ry h k
  unfold dIntR at h
  split at h
  · obtain rfl := RepF.int rx
    obtain rfl := RepF.int ry
    exact ⟨_, _, rfl, rfl, post_d ab k (x := .int _) rfl h.2⟩
  · exact h.elim
theorem sIntB0 {K : PySem.W.Frag} {g : Int → Int → Bool} : Snd2 K (rI0 fun i j => .bl (g i j)) (dIntR (fun _ _ => True) fun i j => .bool (g i j)) := by
  intro F A M H x y wx wy Q Q' ab rx ry h k
  unfold dIntR at h
  split at h
  · obtain rfl := RepF.int rx
    obtain rfl := RepF.int ry
    exact ⟨_, _, rfl, rfl, post_d ab k (x := .bool _) rfl h.2⟩
  · exact h.elim
def dSubR : DR2 := dIntR (fun _ _ => True) fun i j => .int (i - j)
def CMulA (i j : Int) : Prop := CMul i j ∨ CMulW i j
theorem op_mulA : OpR X (binaryOp .Mult) (rI CMulA fun i j => .int (i * j)) := by
  intro pins s σ H x y v u Q I rx ry q
  obtain ⟨i, j, rfl, rfl, c, q⟩ := q
  rcases c with c | c
  · exact op_mul pins s σ H _ _ v u Q I rx ry ⟨i, j, rfl, rfl, c, q⟩
  · exact op_mulW pins s σ H _ _ v u Q I rx ry ⟨i, j, rfl, rfl, c, q⟩
/-- a list times an int -/
def rRepX (K : PySem.W.Frag) : R2 := fun x y H Q => ∃ l k xs, x = .ref l ∧ y = .int k ∧ SqX K H l xs ∧ -(2 ^ 63) ≤ k ∧ k < 2 ^ 63 ∧ xs.length * k.toNat ≤ sizeLine ∧ ∀ p, H p = none → Q (.ref p) (upd H p (.lst (List.replicate k.toNat xs).flatten))
theorem foldl_joins {α : Type} (xs : List α) : ∀ (m : Nat) (a : Array α), (List.replicate m xs.toArray).foldl (fun u v => u ++ v) a = a ++ (List.replicate m xs).flatten.toArray
  | 0, a => by simp
  | m + 1, a => by
    rw [List.replicate_succ, List.foldl_cons, foldl_joins xs m, List.replicate_succ, List.flatten_cons, Array.append_assoc]
    simp
theorem op_repX : OpR X (binaryOp .Mult) (rRepX X.K) := by
  intro pins s σ H x y v u Q I rx ry q
  obtain ⟨l, m, xs, rfl, rfl, hs, lo, hi, hz, k⟩ := q
  obtain rfl : v = Value.ref l := rx
  obtain ⟨tk, rfl⟩ := ry
  obtain ⟨its, n, rv, le, _, e⟩ := whole I hs
  have z1 : its.toArray.size * m.toNat ≤ sizeLine := by simp only [List.size_toArray]; rw [← le]; exact hz
  have z2 : ¬ its.toArray.size * m.toNat > (2 ^ 63 - 1) / 8 := fun w => by
    have := sizeLine_eq
    omega
  have z3 : ¬ ((!Builtin.List.listFitsIndex m) = true) := fun w => by rw [fitsIndex_both lo hi] at w; exact Bool.noConfusion w
  have z4 : ¬ (Builtin.List.listTooLong (its.toArray.size * m.toNat) = true) := fun w => by rw [notLongL z1] at w; exact Bool.noConfusion w
  have joins : (List.replicate (if its.toArray.isEmpty = true then 0 else m.toNat) its.toArray).foldl (fun u v => u ++ v) #[] = (List.replicate m.toNat its).flatten.toArray := by
    rw [foldl_joins]
    cases its with
    | nil => simp
    | cons a r => simp
  have ty : s.TypeIs (Value.ref l) "list" := ⟨_, e, rfl⟩
  refine wpAny_binaryOp_repeat_ref (T := "list") (U := "int") (by decide) ty (fun t => typeIs_int t m tk) noFill_list_mul F.fills_int_mul F.slot_int_rmul repeat_list F.slot_int_index.lookup
    (call_meets F.slot_int_rmul (typeIs_int s m tk) F.entry_int_rmul (F.args_int_rmul_2 _ _) (int___rmul___int_list m tk l its.toArray n) ⟨e, ?_⟩)
  refine ⟨rfl, ty, call_meets F.slot_list_mul ty F.entry_list_mul (F.args_list_mul_2 _ _) (AutoListH.list___mul___list_int_3 l its.toArray n m tk z3 z2 z4) ⟨e, ?_⟩⟩
  rw [joins]
  refine ⟨.ref _, _, I.lnew (t' := s.toks) (rv.rep m.toNat) ?_, rfl, k _ I.fresh⟩
  rw [PyProof.Rows.lm_len_rep_flat, Nat.mul_comm]
  exact hz
/-- a * b -/
def dMulR (o : Bool) : DR2
  | .d (.int i), .d (.int j), M, Q => CMulA i j ∧ Q (.d (.int (i * j))) M
  | x, .d (.int j), M, Q => ∃ ws, listOf M x = some ws ∧ -(2 ^ 63) ≤ j ∧ j < 2 ^ 63 ∧ ws.length * j.toNat ≤ sizeLine ∧ mkL o (List.replicate j.toNat ws).flatten M Q
  | _, _, _, _ => False
abbrev rMulR (K : PySem.W.Frag) : R2 := fun x y H Q => (rI CMulA (fun i j => .int (i * j)) x y H Q) ∨ rRepX K x y H Q
theorem paired_rep {α β : Type} {R : α → β → Prop} {xs : List α} {ys : List β} (r : Paired R xs ys) : ∀ n : Nat, Paired R (List.replicate n xs).flatten (List.replicate n ys).flatten
  | 0 => by simp; exact .nil
  | n + 1 => by
    rw [List.replicate_succ, List.replicate_succ, List.flatten_cons, List.flatten_cons]
    exact paired_append r (paired_rep r n)
theorem sMul {K : PySem.W.Frag} (o : Bool) : Snd2 K (rMulR K) (dMulR o) := by
  intro F A M H x y wx wy Q Q' ab rx ry h k
  unfold dMulR at h
  split at h
  · obtain rfl := RepF.int rx
    obtain rfl := RepF.int ry
    exact .inl ⟨_, _, rfl, rfl, h.1, post_d ab k (x := .int _) rfl h.2⟩
  · obtain rfl := RepF.int ry
    obtain ⟨ws, h1, lo, hi, hz, q⟩ := h
    obtain ⟨a, xs, rfl, s1, r1⟩ := ab.listW rx h1
    exact .inr ⟨a, _, xs, rfl, rfl, s1, lo, hi, by rw [Paired.length r1]; exact hz, fun p hp => mkL_ok ab k (paired_rep r1 _) q hp⟩
  · exact h.elim
theorem op_mulX : OpR X (binaryOp .Mult) (rMulR X.K) := OpR.or op_mulA op_repX
def dModR : DR2 := dIntR (fun _ j => 0 < j) fun i j => .int (i % j)
def CDivA (i j : Int) : Prop := CDiv i j ∨ CDivW i j
theorem op_fdivA : OpR X (binaryOp .FloorDiv) (rI CDivA fun i j => .int (i / j)) := by
  intro pins s σ H x y v u Q I rx ry q
  obtain ⟨i, j, rfl, rfl, c, q⟩ := q
  rcases c with c | c
  · exact op_fdiv pins s σ H _ _ v u Q I rx ry ⟨i, j, rfl, rfl, c, q⟩
  · exact op_fdivW pins s σ H _ _ v u Q I rx ry ⟨i, j, rfl, rfl, c, q⟩
def dDivR : DR2 := dIntR CDivA fun i j => .int (i / j)
/-- powers of any base, bounded by bits -/
def CPowA (i j : Int) : Prop := 0 ≤ j ∧ (Builtin.Int.intBits i : Int) * j ≤ 2 ^ 27
theorem op_powA : OpR X (binaryOp .Pow) (rI CPowA fun i j => .int (i ^ j.toNat)) := by
  intro pins s σ H x y v u Q I rx ry q
  obtain ⟨i, j, rfl, rfl, c, q⟩ := q
  obtain ⟨t, rfl⟩ := rx
  obtain ⟨t', rfl⟩ := ry
  exact PyProof.Rows.pow_int c.1 c.2 ⟨.int _, H, I.tok _, ⟨_, rfl⟩, q⟩
def dPowR : DR2 := dIntR CPowA fun i j => .int (i ^ j.toNat)
def dNegR : DR1
  | .d (.int i), M, Q => Q (.d (.int (-i))) M
  | _, _, _ => False
theorem sNeg {K : PySem.W.Frag} : Snd1 K (rU fun i => .int (-i)) dNegR := by
  intro F A M H x wx Q Q' ab rx h k
  unfold dNegR at h
  split at h
  · obtain rfl := RepF.int rx
    exact ⟨_, rfl, post_d ab k (x := .int _) rfl h⟩
  · exact h.elim
section
variable {a b c : Expr} {ta tb tc : DW} {pos : Pos}
theorem de_add (o : Bool) (ha : DE X a ta) (hb : DE X b tb) : DE X (.BinOp a .Add b pos) (dOp (dAddR o) ta tb) := de_op op_addX (sAdd o) ha hb
theorem de_sub (ha : DE X a ta) (hb : DE X b tb) : DE X (.BinOp a .Sub b pos) (dOp dSubR ta tb) := de_op op_sub sInt0 ha hb
theorem de_mul (o : Bool) (ha : DE X a ta) (hb : DE X b tb) : DE X (.BinOp a .Mult b pos) (dOp (dMulR o) ta tb) := de_op op_mulX (sMul o) ha hb
theorem de_mod (ha : DE X a ta) (hb : DE X b tb) : DE X (.BinOp a .Mod b pos) (dOp dModR ta tb) := de_op op_mod sInt ha hb
theorem de_fdiv (ha : DE X a ta) (hb : DE X b tb) : DE X (.BinOp a .FloorDiv b pos) (dOp dDivR ta tb) := de_op op_fdivA sInt ha hb
theorem de_pow (ha : DE X a ta) (hb : DE X b tb) : DE X (.BinOp a .Pow b pos) (dOp dPowR ta tb) := de_op op_powA sInt ha hb
theorem de_neg (ha : DE X a ta) : DE X (.UnaryOp .USub a pos) (dUn dNegR ta) := de_un un_neg sNeg ha

/-! ### comparisons -/
def dLtR : DR2 := dIntR (fun _ _ => True) fun i j => .bool (decide (i < j))
def dLeR : DR2 := dIntR (fun _ _ => True) fun i j => .bool (decide (i ≤ j))
def dGtR : DR2 := dIntR (fun _ _ => True) fun i j => .bool (decide (j < i))
def dGeR : DR2 := dIntR (fun _ _ => True) fun i j => .bool (decide (j ≤ i))
theorem de_lt (ha : DE X a ta) (hb : DE X b tb) : DE X (.Compare a [.Lt] [b] pos) (dOp dLtR ta tb) := de_cmp op_lt sIntB0 ha hb (nomark _)
theorem de_le (ha : DE X a ta) (hb : DE X b tb) : DE X (.Compare a [.LtE] [b] pos) (dOp dLeR ta tb) := de_cmp op_le sIntB0 ha hb (nomark _)
theorem de_gt (ha : DE X a ta) (hb : DE X b tb) : DE X (.Compare a [.Gt] [b] pos) (dOp dGtR ta tb) := de_cmp op_gt sIntB0 ha hb (nomark _)
theorem de_ge (ha : DE X a ta) (hb : DE X b tb) : DE X (.Compare a [.GtE] [b] pos) (dOp dGeR ta tb) := de_cmp op_ge sIntB0 ha hb (nomark _)
theorem dt_lt (ha : DE X a ta) (hb : DE X b tb) : DTe X (.Compare a [.Lt] [b] pos) (dTest (dOp dLtR ta tb)) := dt_cmp op_lt sIntB0 ha hb (nomark _)
theorem dt_le (ha : DE X a ta) (hb : DE X b tb) : DTe X (.Compare a [.LtE] [b] pos) (dTest (dOp dLeR ta tb)) := dt_cmp op_le sIntB0 ha hb (nomark _)
theorem dt_gt (ha : DE X a ta) (hb : DE X b tb) : DTe X (.Compare a [.Gt] [b] pos) (dTest (dOp dGtR ta tb)) := dt_cmp op_gt sIntB0 ha hb (nomark _)
theorem dt_ge (ha : DE X a ta) (hb : DE X b tb) : DTe X (.Compare a [.GtE] [b] pos) (dTest (dOp dGeR ta tb)) := dt_cmp op_ge sIntB0 ha hb (nomark _)
/-- == and != -/
def dEqR (n : Bool) : DR2
  | .d (.int i), .d (.int j), M, Q => Q (.d (.bool (n ^^ decide (i = j)))) M
  | .d (.str i), .d (.str j), M, Q => Q (.d (.bool (n ^^ decide (i = j)))) M
  | x, y, M, Q => ∃ d e, toD M x = some d ∧ toD M y = some e ∧ SeqAt.shaped d = true ∧ SeqAt.shaped e = true ∧ Q (.d (.bool (n ^^ PyData.eqv d e))) M
theorem sEq {K : PySem.W.Frag} : Snd2 K (fun x y H Q => rEq x y H Q ∨ rEqD K x y H Q) (dEqR false) := by
  intro F A M H x y wx wy Q Q' ab rx ry h k
  unfold dEqR at h
  split at h
  · obtain rfl := RepF.int rx
    obtain rfl := RepF.int ry
    exact .inl ⟨rfl, post_d ab k (x := .bool _) (by simp [RepF]) h⟩
  · obtain rfl := RepF.str rx
    obtain rfl := RepF.str ry
    exact .inl ⟨rfl, post_d ab k (x := .bool _) (by simp [RepF]) h⟩
  · obtain ⟨d, e, h1, h2, s1, s2, q⟩ := h
    exact .inr ⟨d, e, ab.toD _ _ _ _ rx h1, ab.toD _ _ _ _ ry h2, s1, s2, post_d ab k (x := .bool _) (by simp [RepF]) q⟩
theorem sNe {K : PySem.W.Frag} : Snd2 K (fun x y H Q => rNe x y H Q ∨ rNeD K x y H Q) (dEqR true) := by
  intro F A M H x y wx wy Q Q' ab rx ry h k
  unfold dEqR at h
  split at h
  · obtain rfl := RepF.int rx
    obtain rfl := RepF.int ry
    exact .inl ⟨rfl, post_d ab k (x := .bool _) (by simp [RepF]) h⟩
  · obtain rfl := RepF.str rx
    obtain rfl := RepF.str ry
    exact .inl ⟨rfl, post_d ab k (x := .bool _) (by simp [RepF]) h⟩
  · obtain ⟨d, e, h1, h2, s1, s2, q⟩ := h
    exact .inr ⟨d, e, ab.toD _ _ _ _ rx h1, ab.toD _ _ _ _ ry h2, s1, s2, post_d ab k (x := .bool _) (by simp [RepF]) q⟩
theorem de_eq (hu : X.A.units + 64 < cLine) (ha : DE X a ta) (hb : DE X b tb) : DE X (.Compare a [.Eq] [b] pos) (dOp (dEqR false) ta tb) := de_cmp (OpR.or op_eq (op_eqD hu)) sEq ha hb (nomark _)
theorem de_ne (hu : X.A.units + 64 < cLine) (ha : DE X a ta) (hb : DE X b tb) : DE X (.Compare a [.NotEq] [b] pos) (dOp (dEqR true) ta tb) := de_cmp (OpR.or op_ne (op_neD hu)) sNe ha hb (nomark _)
theorem dt_eq (hu : X.A.units + 64 < cLine) (ha : DE X a ta) (hb : DE X b tb) : DTe X (.Compare a [.Eq] [b] pos) (dTest (dOp (dEqR false) ta tb)) := dt_cmp (OpR.or op_eq (op_eqD hu)) sEq ha hb (nomark _)
theorem dt_ne (hu : X.A.units + 64 < cLine) (ha : DE X a ta) (hb : DE X b tb) : DTe X (.Compare a [.NotEq] [b] pos) (dTest (dOp (dEqR true) ta tb)) := dt_cmp (OpR.or op_ne (op_neD hu)) sNe ha hb (nomark _)
/-- is None, is not None -/
def isNone : W → Bool
  | .d .none => true
  | _ => false
def dIsNR (n : Bool) : DR2
  | .raw _, _, _, _ => False
  | x, .d .none, M, Q => Q (.d (.bool (n ^^ isNone x))) M
  | _, _, _, _ => False
theorem repW_none {K : PySem.W.Frag} {F : FM} {A : List Addr} {x : V} {w : W} (r : RepW K F A x w) (h : ∀ v, w ≠ .raw v) : decide (x = V.non) = isNone w := by
  cases w with
  | raw v => exact absurd rfl (h v)
  | own i => obtain ⟨a, rfl, _⟩ := r.own; rfl
  | d y =>
    cases y <;> cases x <;> simp only [RepW, RepF] at r <;> rfl
theorem sIsN {K : PySem.W.Frag} : Snd2 K (fun x y H Q => y = .non ∧ Q (.bl (decide (x = .non))) H) (dIsNR false) := by
  intro F A M H x y wx wy Q Q' ab rx ry h k
  unfold dIsNR at h
  split at h
  · exact h.elim
  · rename_i hw
    obtain rfl := RepF.none ry
    refine ⟨rfl, post_d ab k (x := .bool _) (show _ = _ from ?_) h⟩
    rw [repW_none rx fun v e => hw v e]; simp
  · exact h.elim
theorem sNotN {K : PySem.W.Frag} : Snd2 K (fun x y H Q => y = .non ∧ Q (.bl (!decide (x = .non))) H) (dIsNR true) := by
  intro F A M H x y wx wy Q Q' ab rx ry h k
  unfold dIsNR at h
  split at h
  · exact h.elim
  · rename_i hw
    obtain rfl := RepF.none ry
    refine ⟨rfl, post_d ab k (x := .bool _) (show _ = _ from ?_) h⟩
    rw [repW_none rx fun v e => hw v e]; simp
  · exact h.elim
theorem de_isN (ha : DE X a ta) (hb : DE X b tb) : DE X (.Compare a [.Is] [b] pos) (dOp (dIsNR false) ta tb) := de_cmp op_isN sIsN ha hb (nomark _)
theorem de_notN (ha : DE X a ta) (hb : DE X b tb) : DE X (.Compare a [.IsNot] [b] pos) (dOp (dIsNR true) ta tb) := de_cmp op_notN sNotN ha hb (nomark _)
theorem dt_isN (ha : DE X a ta) (hb : DE X b tb) : DTe X (.Compare a [.Is] [b] pos) (dTest (dOp (dIsNR false) ta tb)) := dt_cmp op_isN sIsN ha hb (nomark _)
theorem dt_notN (ha : DE X a ta) (hb : DE X b tb) : DTe X (.Compare a [.IsNot] [b] pos) (dTest (dOp (dIsNR true) ta tb)) := dt_cmp op_notN sNotN ha hb (nomark _)
/-- x in a list -/
def dInR (n : Bool) : DR2 := fun x y M Q => ∃ d ds, toD M x = some d ∧ toD M y = some (.list ds) ∧ SeqAt.shaped d = true ∧ SeqAt.shaped (.list ds) = true ∧ Q (.d (.bool (n ^^ ds.any fun z => PyData.eqv z d))) M
theorem sIn {K : PySem.W.Frag} : Snd2 K (rInD K) (dInR false) := by
  intro F A M H x y wx wy Q Q' ab rx ry h k
  obtain ⟨d, ds, h1, h2, s1, s2, q⟩ := h
  exact ⟨d, ds, ab.toD _ _ _ _ rx h1, ab.toD _ _ _ _ ry h2, s1, s2, post_d ab k (x := .bool _) (by simp [RepF]) q⟩
theorem sNotIn {K : PySem.W.Frag} : Snd2 K (rNotInD K) (dInR true) := by
  intro F A M H x y wx wy Q Q' ab rx ry h k
  obtain ⟨d, ds, h1, h2, s1, s2, q⟩ := h
  exact ⟨d, ds, ab.toD _ _ _ _ rx h1, ab.toD _ _ _ _ ry h2, s1, s2, post_d ab k (x := .bool _) (by simp [RepF]) q⟩
theorem de_in (hu : X.A.units + 65 < cLine) (ha : DE X a ta) (hb : DE X b tb) (hm : behindInMarks .In b = false := by rfl) : DE X (.Compare a [.In] [b] pos) (dOp (dInR false) ta tb) := de_cmp (op_inD hu) sIn ha hb hm
theorem de_nin (hu : X.A.units + 65 < cLine) (ha : DE X a ta) (hb : DE X b tb) (hm : behindInMarks .NotIn b = false := by rfl) : DE X (.Compare a [.NotIn] [b] pos) (dOp (dInR true) ta tb) := de_cmp (op_notInD hu) sNotIn ha hb hm
theorem dt_in (hu : X.A.units + 65 < cLine) (ha : DE X a ta) (hb : DE X b tb) (hm : behindInMarks .In b = false := by rfl) : DTe X (.Compare a [.In] [b] pos) (dTest (dOp (dInR false) ta tb)) := dt_cmp (op_inD hu) sIn ha hb hm
theorem dt_nin (hu : X.A.units + 65 < cLine) (ha : DE X a ta) (hb : DE X b tb) (hm : behindInMarks .NotIn b = false := by rfl) : DTe X (.Compare a [.NotIn] [b] pos) (dTest (dOp (dInR true) ta tb)) := dt_cmp (op_notInD hu) sNotIn ha hb hm

/-! ### items, slices -/
theorem paired_atI {α β : Type} {R : α → β → Prop} {xs : List α} {ys : List β} {i : Int} {y : β} (r : Paired R xs ys) (h : atI ys i = some y) : ∃ x, atI xs i = some x ∧ R x y := by
  unfold atI at h ⊢
  rw [Paired.length r]
  cases e : ixN ys.length i with
  | none => rw [e] at h; cases h
  | some j =>
    rw [e] at h
    exact paired_get r h
def dIxR : DR2
  | x, .d (.int i), M, Q => (∃ ws w, listOf M x = some ws ∧ atI ws i = some w ∧ Q w M) ∨ (∃ ws w, tupOf M x = some ws ∧ atI ws i = some w ∧ Q w M)
  | _, _, _, _ => False
theorem sIx {K : PySem.W.Frag} : Snd2 K (rIx K) dIxR := by
  intro F A M H x y wx wy Q Q' ab rx ry h k
  unfold dIxR at h
  split at h
  · obtain rfl := RepF.int ry
    rcases h with ⟨ws, w, h1, h2, q⟩ | ⟨ws, w, h1, h2, q⟩
    · obtain ⟨a, xs, rfl, s1, r1⟩ := ab.listW rx h1
      obtain ⟨v, hv, rv⟩ := paired_atI r1 h2
      exact .inl ⟨a, xs, _, v, rfl, rfl, s1.sql, hv, k v w F A M H .refl ab rv q⟩
    · obtain ⟨a, xs, rfl, s1, r1⟩ := ab.tupW rx h1
      obtain ⟨v, hv, rv⟩ := paired_atI r1 h2
      exact .inr (.inl ⟨a, xs, _, v, rfl, rfl, s1, hv, k v w F A M H .refl ab rv q⟩)
  · exact h.elim
theorem de_ix (ha : DE X a ta) (hb : DE X b tb) (hpl : PlainIx b := by exact fun _ _ => rfl) : DE X (.Subscript a b pos) (dOp dIxR ta tb) := PE.imp (pe_ix ix_seq ha hb hpl) (lift2 sIx)
def cutW {α : Type} (xs : List α) (lo hi : Option Int) : List α := (xs.drop (HT.sIx xs.length 0 lo)).take (HT.sIx xs.length xs.length hi - HT.sIx xs.length 0 lo)
abbrev DO := DT (Option Int)
abbrev liftO (K : PySem.W.Frag) := lift K (fun _ _ (a b : Option Int) => a = b)
abbrev DPo (X : Cx) (e : Option Expr) (t : DO) : Prop := PO X e (liftO X.K t)
def dNoPart : DO := fun _ M Q => Q none M
def dPart (t : DW) : DO := fun ρ M Q => t ρ M fun w M1 => match w with
  | .d (.int i) => Q (some i) M1
  | _ => False
theorem PO.imp {e : Option Expr} {t t' : TO} (h : PO X e t) (k : ∀ σ H Q, t' σ H Q → t σ H Q) : PO X e t' := ⟨fun pins s σ H Q I q => h.run pins s σ H Q I (k σ H Q q)⟩
theorem do_none : DPo X none dNoPart := PO.imp po_none fun σ H Q ⟨F, A, ρ, M, Q', ab, rs, h, k⟩ => k _ _ F A M H .refl ab rfl h
theorem do_some (ha : DE X a ta) : DPo X (some a) (dPart ta) := PO.imp (po_some ha) fun σ H Q ⟨F, A, ρ, M, Q', ab, rs, h, k⟩ =>
  ⟨F, A, ρ, M, _, ab, rs, h, fun x w F1 A1 M1 H1 e1 ab1 rx h1 => by
    split at h1
    · obtain rfl := RepF.int rx
      exact ⟨_, rfl, k _ _ _ _ _ _ e1 ab1 rfl h1⟩
    · exact h1.elim⟩
def dSl (o : Bool) (ta : DW) (tl th : DO) : DW := fun ρ M Q => ta ρ M fun x M1 => tl ρ M1 fun l M2 => th ρ M2 fun h M3 => ∃ ws, listOf M3 x = some ws ∧ mkL o (cutW ws l h) M3 Q
theorem paired_cut {α β : Type} {R : α → β → Prop} {xs : List α} {ys : List β} (r : Paired R xs ys) (lo hi : Option Int) : Paired R ((xs.drop (HT.sIx xs.length 0 lo)).take (HT.sIx xs.length xs.length hi - HT.sIx xs.length 0 lo)) (cutW ys lo hi) := by
  unfold cutW
  rw [Paired.length r]
  exact paired_take _ (paired_drop _ r)
theorem de_sl (o : Bool) {lo hi : Option Expr} {tl th : DO} {p2 : Pos} (ha : DE X a ta) (hl : DPo X lo tl) (hh : DPo X hi th) : DE X (.Subscript a (.Slice lo hi none p2) pos) (dSl o ta tl th) := PE.imp (pe_slice sl_list ha hl hh) fun σ H Q ⟨F, A, ρ, M, Q', ab, rs, h, k⟩ =>
  ⟨F, A, ρ, M, _, ab, rs, h, fun x w F1 A1 M1 H1 e1 ab1 rx h1 => ⟨F1, A1, ρ, M1, _, ab1, repsO_ext e1 rs, h1, fun l l' F2 A2 M2 H2 e2 ab2 rl h2 => by
    subst rl
    refine ⟨F2, A2, ρ, M2, _, ab2, repsO_ext e2 (repsO_ext e1 rs), h2, fun u u' F3 A3 M3 H3 e3 ab3 ru h3 => ?_⟩
    subst ru
    obtain ⟨ws, hw, q⟩ := h3
    obtain ⟨p, xs, rfl, s1, r1⟩ := ab3.listW ((rx.ext e2).ext e3) hw
    exact ⟨p, xs, rfl, s1.sql, fun p hp => mkL_ok ab3 (fun z w F' A' M' H' e4 => k z w F' A' M' H' (e1.trans (e2.trans (e3.trans e4)))) (paired_cut r1 _ _) q hp⟩⟩⟩
def dRev (o : Bool) (ta : DW) : DW := fun ρ M Q => ta ρ M fun x M1 => ∃ ws, listOf M1 x = some ws ∧ mkL o ws.reverse M1 Q
theorem de_rev (o : Bool) {j : Nat} {p1 p2 p3 : Pos} (ha : DE X a ta) : DE X (.Subscript a (.Slice none none (some (.UnaryOp .USub (.Constant (.int 1) j p1) p2)) p3) pos) (dRev o ta) := PE.imp (pe_revL ha) fun σ H Q ⟨F, A, ρ, M, Q', ab, rs, h, k⟩ =>
  ⟨F, A, ρ, M, _, ab, rs, h, fun x w F1 A1 M1 H1 e1 ab1 rx ⟨ws, hw, q⟩ => by
    obtain ⟨p, xs, rfl, s1, r1⟩ := ab1.listW rx hw
    exact ⟨p, xs, rfl, s1.sql, fun p hp => mkL_ok ab1 (fun z w F' A' M' H' e4 => k z w F' A' M' H' (e1.trans e4)) (paired_rev r1) q hp⟩⟩
end
end
end DL

/-! DL4: statements over data; defs, their promises and their calls (no repr runs around them: the guards are empty). -/
namespace DL
open PySem PySem.Spec L2

structure DEnds where
  nx : Rho → Mem → Prop
  rt : W → Mem → Prop
  bk : Rho → Mem → Prop := fun _ _ => False
  ct : Rho → Mem → Prop := fun _ _ => False
abbrev DTS := DEnds → Rho → Mem → Prop
abbrev Fl (K : PySem.W.Frag) (F : FM) (A : List Addr) (H : Hp) (N' : Rho → Mem → Prop) (N : L2.St → Hp → Prop) : Prop :=
  ∀ σ ρ F' A' M' H', Ext F A H F' A' H' → Abs K F' A' M' H' → Paired (RepO K F' A') σ ρ → N' ρ M' → N σ H'
structure EndsOk (K : PySem.W.Frag) (F : FM) (A : List Addr) (H : Hp) (D' : DEnds) (D : Ends) : Prop where
  nx : Fl K F A H D'.nx D.nx
  rt : Post K F A H D'.rt D.rt
  bk : Fl K F A H D'.bk D.bk
  ct : Fl K F A H D'.ct D.ct
section
variable {K : PySem.W.Frag} {F F1 : FM} {A A1 : List Addr} {H H1 : Hp} {D' : DEnds} {D : Ends}
theorem Fl.ext {N' : Rho → Mem → Prop} {N : L2.St → Hp → Prop} (e : Ext F A H F1 A1 H1) (k : Fl K F A H N' N) : Fl K F1 A1 H1 N' N := fun σ ρ F' A' M' H' e' => k σ ρ F' A' M' H' (e.trans e')
theorem Post.ext {N' : W → Mem → Prop} {N : V → Hp → Prop} (e : Ext F A H F1 A1 H1) (k : Post K F A H N' N) : Post K F1 A1 H1 N' N := fun z w F' A' M' H' e' => k z w F' A' M' H' (e.trans e')
theorem EndsOk.ext (e : Ext F A H F1 A1 H1) (k : EndsOk K F A H D' D) : EndsOk K F1 A1 H1 D' D := ⟨Fl.ext e k.nx, Post.ext e k.rt, Fl.ext e k.bk, Fl.ext e k.ct⟩
end
def liftS (K : PySem.W.Frag) (t : DTS) : TS := fun D σ H => ∃ F A ρ M D', Abs K F A M H ∧ Paired (RepO K F A) σ ρ ∧ t D' ρ M ∧ EndsOk K F A H D' D
abbrev DS (X : Cx) (st : Stmt) (t : DTS) : Prop := PS X st (liftS X.K t)
abbrev DSs (X : Cx) (st : List Stmt) (t : DTS) : Prop := PSs X st (liftS X.K t)
theorem PS.imp {X : Cx} {st : Stmt} {t t' : TS} (h : PS X st t) (k : ∀ D σ H, t' D σ H → t D σ H) : PS X st t' := ⟨fun pins s σ H D I q => h.run pins s σ H D I (k D σ H q)⟩
theorem PSs.imp {X : Cx} {st : List Stmt} {t t' : TS} (h : PSs X st t) (k : ∀ D σ H, t' D σ H → t D σ H) : PSs X st t' := ⟨fun pins s σ H D I q => h.run pins s σ H D I (k D σ H q)⟩

/-- data that a handle holds for good -/
def dat (M : Mem) : W → Option PyData
  | .d x => some x
  | .own j => match M[j]? with
    | some (.frz x) => some x
    | _ => none
  | .raw _ => none
/-- a cell is data from now on -/
def FrzStep (M M' : Mem) : Prop := ∃ i ws ds, M[i]? = some (.lst ws) ∧ optAll (dat M) ws = some ds ∧ M' = M.set i (.frz (.list ds))
inductive Frz : Mem → Mem → Prop
  | refl (M : Mem) : Frz M M
  | step {M M' M'' : Mem} : FrzStep M M' → Frz M' M'' → Frz M M''
section
variable {K : PySem.W.Frag} {F : FM} {A : List Addr} {M M' : Mem} {H : Hp}
theorem Abs.dat (ab : Abs K F A M H) {x : V} {w : W} {d : PyData} (r : RepW K F A x w) (h : dat M w = some d) : RepF K F x d := by
  cases w with
  | d y => cases h; exact r
  | raw v => cases h
  | own j =>
    obtain ⟨a, rfl, ha⟩ := r.own
    obtain ⟨c, hc, hcl⟩ := ab.cell ha
    simp only [DL.dat, hc] at h
    cases c with
    | frz y =>
      simp only [Option.some.injEq] at h
      subst h
      have hf : F a = some y := hcl
      have z := ab.fz a y hf
      cases y <;> simp only [FzOk] at z
      · exact .inl hf
      · exact hf
    | lst ws => simp at h
    | tup ws => simp at h
theorem Abs.dats (ab : Abs K F A M H) : ∀ {ws : List W} {xs : List V} {ds : List PyData}, Paired (RepW K F A) xs ws → optAll (DL.dat M) ws = some ds → Paired (RepF K F) xs ds
  | [], _, ds, .nil, h => by
    simp only [optAll, Option.some.injEq] at h
    subst h
    exact .nil
  | w :: ws, _, ds, .cons r t, h => by
    simp only [optAll] at h
    split at h
    · rename_i y ys h1 h2
      simp only [Option.some.injEq] at h
      subst h
      exact .cons (ab.dat r h1) (Abs.dats ab t h2)
    · cases h
theorem Abs.frz1 (ab : Abs K F A M H) (s : FrzStep M M') : ∃ F', Abs K F' A M' H ∧ Ext F A H F' A H := by
  obtain ⟨i, ws, ds, hm, hd, rfl⟩ := s
  have hi : i < M.length := by
    rcases Nat.lt_or_ge i M.length with q | q
    · exact q
    · rw [List.getElem?_eq_none q] at hm; cases hm
  have hia : i < A.length := by rw [ab.len]; exact hi
  have ha : A[i]? = some A[i] := List.getElem?_eq_getElem hia
  obtain ⟨hf, o, ho, hr⟩ := ab.cl i _ _ ha hm
  cases o <;> simp only [CellRep] at hr
  rename_i xs
  have hF : ∀ b y, F b = some y → setF F A[i] (.list ds) b = some y := fun b y h => by
    rw [setF_ne]
    · exact h
    · intro e; rw [e] at h; rw [hf] at h; cases h
  have ex : Ext F A H (setF F A[i] (.list ds)) A H := ⟨hF, ⟨[], by simp, by simp⟩, fun _ _ h _ => h, fun _ h => h, fun b h => by
    by_cases e : b = A[i]
    · rw [e]; exact .inr (.inr (List.getElem_mem _))
    · rw [setF_ne e] at h; exact .inl h⟩
  refine ⟨_, ⟨fun b y h => ?_, by simp [ab.len], ab.nd, fun j b c h1 h2 => ?_⟩, ex⟩
  · by_cases e : b = A[i]
    · subst e
      rw [setF_same] at h
      cases h
      exact ⟨xs, .inl ho, paired_imp (ab.dats hr hd) fun _ _ q => q.mono hF⟩
    · rw [setF_ne e] at h
      exact (ab.fz b y h).mono hF (fun _ z => z)
  · by_cases hj : j = i
    · subst hj
      rw [ha] at h1; cases h1
      rw [List.getElem?_set_self hi] at h2
      cases h2
      exact setF_same
    · rw [List.getElem?_set_ne (Ne.symm hj)] at h2
      have hb : b ≠ A[i] := by
        intro e
        rw [e] at h1
        exact hj (nodup_at ab.nd h1 ha)
      exact (ab.cl j b c h1 h2).mono (fun _ _ r => r.ext ex) hF (fun z => by rw [setF_ne hb]; exact z) (fun _ z => z)
theorem Abs.frzs (f : Frz M M') : ∀ {F : FM}, Abs K F A M H → ∃ F', Abs K F' A M' H ∧ Ext F A H F' A H := by
  induction f with
  | refl M => exact fun {F} ab => ⟨F, ab, .refl⟩
  | step s f ih =>
    intro F ab
    obtain ⟨F1, ab1, e1⟩ := ab.frz1 s
    obtain ⟨F2, ab2, e2⟩ := ih ab1
    exact ⟨F2, ab2, e1.trans e2⟩
end

/-! ### statements -/
section
variable {X : Cx} {st : Stmt} {rest : List Stmt} {t u : DTS} {a b c : Expr} {ta tb : DW} {pos : Pos}
def dNext : DTS := fun D ρ M => D.nx ρ M
/-- N: what holds between both -/
def dSeq (t u : DTS) : DTS := fun D ρ M => ∃ N : Rho → Mem → Prop, t { D with nx := N } ρ M ∧ ∀ ρ' M', N ρ' M' → u D ρ' M'
theorem dSeq.mk {D : DEnds} {ρ : Rho} {M : Mem} (h : t { D with nx := u D } ρ M) : dSeq t u D ρ M := ⟨_, h, fun _ _ q => q⟩
theorem dss_nil : DSs X [] dNext := PSs.imp pss_nil fun D σ H ⟨F, A, ρ, M, D', ab, rs, h, k⟩ => k.nx σ ρ F A M H .refl ab rs h
theorem dss_cons (h1 : DS X st t) (h2 : DSs X rest u) : DSs X (st :: rest) (dSeq t u) := PSs.imp (pss_cons h1 h2) fun D σ H ⟨F, A, ρ, M, D', ab, rs, ⟨N, h, hN⟩, k⟩ =>
  ⟨F, A, ρ, M, _, ab, rs, h, ⟨fun σ' ρ' F' A' M' H' e ab' rs' n => ⟨F', A', ρ', M', D', ab', rs', hN _ _ n, k.ext e⟩, k.rt, k.bk, k.ct⟩⟩
theorem dss_one (h1 : DS X st t) : DSs X [st] t := pss_one h1
theorem ds_pass : DS X (.Pass pos) dNext := PS.imp ps_pass fun D σ H ⟨F, A, ρ, M, D', ab, rs, h, k⟩ => k.nx σ ρ F A M H .refl ab rs h
def dBreak : DTS := fun D ρ M => D.bk ρ M
def dCont : DTS := fun D ρ M => D.ct ρ M
theorem ds_break : DS X (.Break pos) dBreak := PS.imp ps_break fun D σ H ⟨F, A, ρ, M, D', ab, rs, h, k⟩ => k.bk σ ρ F A M H .refl ab rs h
theorem ds_cont : DS X (.Continue pos) dCont := PS.imp ps_continue fun D σ H ⟨F, A, ρ, M, D', ab, rs, h, k⟩ => k.ct σ ρ F A M H .refl ab rs h
def dNever : DTS := fun _ _ _ => False
theorem ds_never : DS X st dNever := PS.imp (ps_never) fun D σ H ⟨F, A, ρ, M, D', ab, rs, h, k⟩ => h
def dDrop (ta : DW) : DTS := fun D ρ M => ta ρ M fun _ M1 => D.nx ρ M1
theorem ds_expr (ha : DE X a ta) (hs : swapsWith a none pos.line X.env = pure false := by rfl) : DS X (.Expr a pos) (dDrop ta) := PS.imp (ps_expr ha hs) fun D σ H ⟨F, A, ρ, M, D', ab, rs, h, k⟩ =>
  ⟨F, A, ρ, M, _, ab, rs, h, fun x w F1 A1 M1 H1 e1 ab1 rx h1 => k.nx σ ρ F1 A1 M1 H1 e1 ab1 (repsO_ext e1 rs) h1⟩
def dRet (ta : DW) : DTS := fun D ρ M => ta ρ M D.rt
theorem ds_ret (ha : DE X a ta) : DS X (.Return (some a) pos) (dRet ta) := PS.imp (ps_ret ha) fun D σ H ⟨F, A, ρ, M, D', ab, rs, h, k⟩ =>
  ⟨F, A, ρ, M, _, ab, rs, h, fun x w F1 A1 M1 H1 e1 ab1 rx h1 => k.rt x w F1 A1 M1 H1 e1 ab1 rx h1⟩
/-- what is returned is data from now on -/
def dRetF (ta : DW) : DTS := fun D ρ M => ta ρ M fun w M1 => ∃ M2 x, Frz M1 M2 ∧ dat M2 w = some x ∧ D.rt (.d x) M2
theorem ds_retF (ha : DE X a ta) : DS X (.Return (some a) pos) (dRetF ta) := PS.imp (ps_ret ha) fun D σ H ⟨F, A, ρ, M, D', ab, rs, h, k⟩ =>
  ⟨F, A, ρ, M, _, ab, rs, h, fun x w F1 A1 M1 H1 e1 ab1 rx ⟨M2, y, f, hd, h1⟩ => by
    obtain ⟨F2, ab2, e2⟩ := Abs.frzs f ab1
    exact k.rt x (.d y) F2 A1 M2 H1 (e1.trans e2) ab2 (ab2.dat (rx.ext e2) hd) h1⟩
/-- some cells are data from now on -/
def dFrz (t : DTS) : DTS := fun D ρ M => ∃ M', Frz M M' ∧ t D ρ M'
theorem dss_frz (h : DSs X rest t) : DSs X rest (dFrz t) := PSs.imp h fun D σ H ⟨F, A, ρ, M, D', ab, rs, ⟨M2, f, h⟩, k⟩ => by
  obtain ⟨F2, ab2, e2⟩ := Abs.frzs f ab
  exact ⟨F2, A, ρ, M2, D', ab2, repsO_ext e2 rs, h, k.ext e2⟩
theorem ds_frz (h : DS X st t) : DS X st (dFrz t) := PS.imp h fun D σ H ⟨F, A, ρ, M, D', ab, rs, ⟨M2, f, h⟩, k⟩ => by
  obtain ⟨F2, ab2, e2⟩ := Abs.frzs f ab
  exact ⟨F2, A, ρ, M2, D', ab2, repsO_ext e2 rs, h, k.ext e2⟩
/-- a name is bound to data that its handle holds for good -/
def dAsD (i : Nat) (t : DTS) : DTS := fun D ρ M => match ρ[i]? with
  | some (some w) => ∃ x, dat M w = some x ∧ t D (ρ.set i (some (.d x))) M
  | _ => False
theorem paired_setr {α β : Type} {R : α → β → Prop} : ∀ {xs : List α} {ys : List β} {i : Nat} {x : α} {y : β}, Paired R xs ys → xs[i]? = some x → R x y → Paired R xs (ys.set i y)
  | _, _, _, _, _, .nil, e, _ => by simp at e
  | _, _, 0, _, _, .cons h t, e, r => by simp at e; subst e; exact .cons r t
  | _, _, i + 1, _, _, .cons h t, e, r => .cons h (paired_setr t (by simpa using e) r)
theorem dss_asD (i : Nat) (h : DSs X rest t) : DSs X rest (dAsD i t) := PSs.imp h fun D σ H ⟨F, A, ρ, M, D', ab, rs, q, k⟩ => by
  unfold dAsD at q
  split at q
  · rename_i w e
    obtain ⟨x, hx, q⟩ := q
    obtain ⟨v, hv, rv⟩ := paired_get rs e
    cases v with
    | none => exact False.elim rv
    | some v => exact ⟨F, A, _, M, D', ab, paired_setr rs hv (show RepO X.K F A (some v) (some (.d x)) from ab.dat rv hx), q, k⟩
  · exact q.elim
def dRetN : DTS := fun D _ M => D.rt (.d .none) M
theorem ds_retN : DS X (.Return none pos) dRetN := PS.imp ps_retN fun D σ H ⟨F, A, ρ, M, D', ab, rs, h, k⟩ => k.rt .non (.d .none) F A M H .refl ab trivial h
def dIfS (c : DT Bool) (t u : DTS) : DTS := fun D ρ M => c ρ M fun b M1 => if b = true then t D ρ M1 else u D ρ M1
theorem ds_if {s1 s2 : List Stmt} {tc : DT Bool} (hc : DTe X c tc) (h1 : DSs X s1 t) (h2 : DSs X s2 u) : DS X (.If c s1 s2 pos) (dIfS tc t u) := PS.imp (ps_if hc h1 h2) fun D σ H ⟨F, A, ρ, M, D', ab, rs, h, k⟩ =>
  ⟨F, A, ρ, M, _, ab, rs, h, fun x y F1 A1 M1 H1 e1 ab1 rx h1 => by
    subst rx
    cases x with
    | true => exact iteT ⟨F1, A1, ρ, M1, D', ab1, repsO_ext e1 rs, h1, k.ext e1⟩
    | false => exact iteF ⟨F1, A1, ρ, M1, D', ab1, repsO_ext e1 rs, h1, k.ext e1⟩⟩

/-! ### targets -/
abbrev DTG := W → Rho → Mem → (Rho → Mem → Prop) → Prop
abbrev DTGs := List W → Rho → Mem → (Rho → Mem → Prop) → Prop
def liftG (K : PySem.W.Frag) (t : DTG) : TG := fun v σ H Q => ∃ F A ρ M w Q', Abs K F A M H ∧ Paired (RepO K F A) σ ρ ∧ RepW K F A v w ∧ t w ρ M Q' ∧ Fl K F A H Q' Q
def liftGs (K : PySem.W.Frag) (t : DTGs) : TGs := fun vs σ H Q => ∃ F A ρ M ws Q', Abs K F A M H ∧ Paired (RepO K F A) σ ρ ∧ Paired (RepW K F A) vs ws ∧ t ws ρ M Q' ∧ Fl K F A H Q' Q
abbrev DG (X : Cx) (e : Expr) (t : DTG) : Prop := PG X e (liftG X.K t)
abbrev DGs (X : Cx) (es : List Expr) (t : DTGs) : Prop := PGs X es (liftGs X.K t)
theorem PG.imp {e : Expr} {t t' : TG} (h : PG X e t) (k : ∀ v σ H Q, t' v σ H Q → t v σ H Q) : PG X e t' := ⟨fun pins s σ H v u Q I r q => h.run pins s σ H v u Q I r (k v σ H Q q)⟩
theorem PGs.imp {es : List Expr} {t t' : TGs} (h : PGs X es t) (k : ∀ v σ H Q, t' v σ H Q → t v σ H Q) : PGs X es t' := ⟨fun pins s σ H v u Q I r q => h.run pins s σ H v u Q I r (k v σ H Q q)⟩
def gN (i : Nat) : DTG := fun w ρ M Q => Q (ρ.set i (some w)) M
theorem dg_name {i : Nat} {e : Expr} (h : PG X e (gName i)) : DG X e (gN i) := PG.imp h fun v σ H Q ⟨F, A, ρ, M, w, Q', ab, rs, rv, h, k⟩ => k _ _ F A M H .refl ab (paired_set (show RepO X.K F A (some v) (some w) from rv) i rs) h
def gsNil : DTGs := fun ws ρ M Q => ws = [] ∧ Q ρ M
def gsCons (t : DTG) (u : DTGs) : DTGs := fun ws ρ M Q => match ws with
  | w :: r => t w ρ M fun ρ1 M1 => u r ρ1 M1 Q
  | [] => False
theorem dgs_nil : DGs X [] gsNil := PGs.imp pgs_nil fun v σ H Q ⟨F, A, ρ, M, w, Q', ab, rs, rv, ⟨e, h⟩, k⟩ => by
  subst e
  cases rv
  exact ⟨rfl, k _ _ F A M H .refl ab rs h⟩
theorem dgs_cons {e : Expr} {es : List Expr} {t : DTG} {u : DTGs} (h1 : DG X e t) (h2 : DGs X es u) (hs : (assignEach (e :: es) X.env).map (·.2) = assign e X.env :: (assignEach es X.env).map (·.2) := by rfl) : DGs X (e :: es) (gsCons t u) :=
  PGs.imp (pgs_cons h1 h2 hs) fun v σ H Q ⟨F, A, ρ, M, ws, Q', ab, rs, rv, h, k⟩ => by
    cases ws with
    | nil => exact h.elim
    | cons w r =>
      cases rv with
      | cons r1 rr => exact ⟨_, _, rfl, F, A, ρ, M, w, _, ab, rs, r1, h, fun σ1 ρ1 F1 A1 M1 H1 e1 ab1 rs1 h1 => ⟨F1, A1, ρ1, M1, r, Q', ab1, rs1, repsW_ext e1 rr, h1, Fl.ext e1 k⟩⟩
def gT (n : Nat) (t : DTGs) : DTG := fun w ρ M Q => ∃ ws, tupOf M w = some ws ∧ ws.length = n ∧ t ws ρ M Q
theorem dg_tup {es : List Expr} {j : Nat} {t : DTGs} {n : Nat} (hc : X.calm = true) (h : DGs X es t) (hn : (assignEach es X.env).length = n := by rfl) (hst : (assignEach es X.env).findIdx? (·.1) = none := by rfl) : DG X (.Tuple es j pos) (gT n t) :=
  PG.imp (pg_tup hc h hn hst) fun v σ H Q ⟨F, A, ρ, M, w, Q', ab, rs, rv, ⟨ws, hw, hl, q⟩, k⟩ => by
    obtain ⟨a, xs, rfl, s1, r1⟩ := ab.tupW rv hw
    exact ⟨a, xs, rfl, s1, by rw [Paired.length r1]; exact hl, F, A, ρ, M, ws, Q', ab, rs, r1, q, k⟩
/-- o[i] = w, a list that may change -/
def gSubR : W → W → W → Mem → (Mem → Prop) → Prop := fun o i w M Q => match o, i with
  | .own j, .d (.int n) => ∃ ws m, M[j]? = some (.lst ws) ∧ ixN ws.length n = some m ∧ Q (M.set j (.lst (ws.set m w)))
  | _, _ => False
def gSb (to ti : DW) : DTG := fun w ρ M Q => to ρ M fun o M1 => ti ρ M1 fun i M2 => gSubR o i w M2 fun M3 => Q ρ M3
theorem dg_sub {o i : Expr} {to ti : DW} (ho : DE X o to) (hi : DE X i ti)
    (ha : ∀ v, assign (.Subscript o i pos) X.env v = (do let ov ← holding [v] (eval o X.env); let iv ← holding [v, ov] (eval i X.env); standAt pos; holding [v, ov, iv] (setItem ov iv v); release [v, ov, iv] []) := by intro _; rfl) : DG X (.Subscript o i pos) (gSb to ti) :=
  PG.imp (pg_sub ho hi set_list ha) fun v σ H Q ⟨F, A, ρ, M, w, Q', ab, rs, rv, h, k⟩ =>
    ⟨F, A, ρ, M, _, ab, rs, h, fun x wx F1 A1 M1 H1 e1 ab1 rx h1 => ⟨F1, A1, ρ, M1, _, ab1, repsO_ext e1 rs, h1, fun y wy F2 A2 M2 H2 e2 ab2 ry h2 => by
      unfold gSubR at h2
      split at h2
      · rename_i j n
        obtain ⟨ws, m, hm, hix, q⟩ := h2
        obtain rfl := RepF.int ry
        obtain ⟨p, rfl, hp⟩ := (rx.ext e2).own
        obtain ⟨c, hc, hcl⟩ := ab2.cell hp
        rw [hm] at hc
        cases hc
        obtain ⟨hf, o, ho, hr⟩ := hcl
        cases o <;> simp only [CellRep] at hr
        rename_i xs
        obtain ⟨ab3, e3⟩ := ab2.put (c := .lst (ws.set m w)) hp hf (fun _ z => nomatch z) (o := .lst (xs.set m v)) (paired_set ((rv.ext e1).ext e2) m hr)
        exact ⟨p, xs, n, m, rfl, rfl, ho, by rw [Paired.length hr]; exact hix, k _ _ _ _ _ _ (e1.trans (e2.trans e3)) ab3 (repsO_ext e3 (repsO_ext e2 (repsO_ext e1 rs))) q⟩
      · exact h2.elim⟩⟩
def dAsg (ta : DW) (g : DTG) : DTS := fun D ρ M => ta ρ M fun w M1 => g w ρ M1 D.nx
theorem lift_asg {K : PySem.W.Frag} {g : DTG} {g' : TG} (hg : ∀ v σ H Q, liftG K g v σ H Q → g' v σ H Q) (D : Ends) (σ : L2.St) (H : Hp) (q : liftS K (dAsg ta g) D σ H) : tAsg (liftW K ta) g' D σ H := by
  obtain ⟨F, A, ρ, M, D', ab, rs, h, k⟩ := q
  exact ⟨F, A, ρ, M, _, ab, rs, h, fun x w F1 A1 M1 H1 e1 ab1 rx h1 => hg _ _ _ _ ⟨F1, A1, ρ, M1, w, _, ab1, repsO_ext e1 rs, rx, h1, Fl.ext e1 k.nx⟩⟩
theorem ds_asg {tg : Expr} {g : DTG} (ha : DE X a ta) (hg : DG X tg g) (hs : swapsWithSole [tg] a pos.line X.env = pure false := by rfl) (hw : swappedStores [tg] a X.env = pure none := by rfl)
    (h1 : (assignEach [tg] X.env).map (·.2) = [assign tg X.env] := by rfl) : DS X (.Assign [tg] a pos) (dAsg ta g) := PS.imp (ps_asg ha hg hs hw h1) (lift_asg fun _ _ _ _ q => q)
theorem ds_set {i : Nat} {x : Str} {pos' : Pos} (hN : X.N.Nodup) (hi : X.N[i]? = some x) (hx : Loc X.env.scope x) (ha : DE X a ta) (hs : swapsWith a (some (.Name x pos')) pos.line X.env = pure false := by rfl) (hf : X.fn x = true ∨ X.env.scope.names.lookup x = some .local := by first | exact .inl rfl | exact .inr rfl | assumption) :
    DS X (.Assign [.Name x pos'] a pos) (dAsg ta (gN i)) := PS.imp (ps_set hN hi hx ha hs hf) (lift_asg fun v σ H Q ⟨F, A, ρ, M, w, Q', ab, rs, rv, h, k⟩ => k _ _ F A M H .refl ab (paired_set (show RepO X.K F A (some v) (some w) from rv) i rs) h)
def dPar (i j : Nat) (t : DT (List W)) : DTS := fun D ρ M => t ρ M fun ws M1 => match ws with
  | [v, w] => D.nx ((ρ.set i (some v)).set j (some w)) M1
  | _ => False
theorem ds_par {i j : Nat} {x y : Str} {tA : DT (List W)} {px py pt : Pos} {kt k2 pt2} (hc : X.calm = true) (hN : X.N.Nodup) (hi : X.N[i]? = some x) (hj : X.N[j]? = some y) (hij : i ≠ j) (hx : X.env.scope.names.lookup x = some .local) (hy : X.env.scope.names.lookup y = some .local) (ha : DA X [a, b] tA)
    (hw : swappedStores [.Tuple [.Name x px, .Name y py] kt pt] (.Tuple [a, b] k2 pt2) X.env = pure (some [x, y]) := by rfl) (hs : swapsWithSole [.Tuple [.Name x px, .Name y py] kt pt] (.Tuple [a, b] k2 pt2) pos.line X.env = pure false := by rfl) :
    DS X (.Assign [.Tuple [.Name x px, .Name y py] kt pt] (.Tuple [a, b] k2 pt2) pos) (dPar i j tA) := PS.imp (ps_par hc hN hi hj hij hx hy ha hw hs) fun D σ H ⟨F, A, ρ, M, D', ab, rs, h, k⟩ =>
  ⟨F, A, ρ, M, _, ab, rs, h, fun xs ws F1 A1 M1 H1 e1 ab1 r1 h1 => by
    split at h1
    · cases r1 with
      | cons r1 q1 =>
        cases q1 with
        | cons r2 q2 =>
          cases q2
          exact ⟨_, _, rfl, k.nx _ _ _ _ _ _ e1 ab1 (paired_set (show RepO X.K F1 A1 (some _) (some _) from r2) j (paired_set (show RepO X.K F1 A1 (some _) (some _) from r1) i (repsO_ext e1 rs))) h1⟩
    · exact h1.elim⟩
def dPar3 (i j l : Nat) (t : DT (List W)) : DTS := fun D ρ M => t ρ M fun ws M1 => match ws with
  | [u, v, w] => D.nx (((ρ.set i (some u)).set j (some v)).set l (some w)) M1
  | _ => False
theorem ds_par3 {i j l : Nat} {x y z : Str} {tA : DT (List W)} {px py pz pt : Pos} {kt k2 pt2} (hc : X.calm = true) (hN : X.N.Nodup) (hi : X.N[i]? = some x) (hj : X.N[j]? = some y) (hl : X.N[l]? = some z) (hij : i ≠ j) (hil : i ≠ l) (hjl : j ≠ l)
    (hx : X.env.scope.names.lookup x = some .local) (hy : X.env.scope.names.lookup y = some .local) (hz : X.env.scope.names.lookup z = some .local) (ha : DA X [a, b, c] tA)
    (hw : swappedStores [.Tuple [.Name x px, .Name y py, .Name z pz] kt pt] (.Tuple [a, b, c] k2 pt2) X.env = pure (some [x, y, z]) := by rfl) (hs : swapsWithSole [.Tuple [.Name x px, .Name y py, .Name z pz] kt pt] (.Tuple [a, b, c] k2 pt2) pos.line X.env = pure false := by rfl) :
    DS X (.Assign [.Tuple [.Name x px, .Name y py, .Name z pz] kt pt] (.Tuple [a, b, c] k2 pt2) pos) (dPar3 i j l tA) := PS.imp (ps_par3 hc hN hi hj hl hij hil hjl hx hy hz ha hw hs) fun D σ H ⟨F, A, ρ, M, D', ab, rs, h, k⟩ =>
  ⟨F, A, ρ, M, _, ab, rs, h, fun xs ws F1 A1 M1 H1 e1 ab1 r1 h1 => by
    split at h1
    · cases r1 with
      | cons r1 q1 =>
        cases q1 with
        | cons r2 q2 =>
          cases q2 with
          | cons r3 q3 =>
            cases q3
            exact ⟨_, _, _, rfl, k.nx _ _ _ _ _ _ e1 ab1 (paired_set (show RepO X.K F1 A1 (some _) (some _) from r3) l (paired_set (show RepO X.K F1 A1 (some _) (some _) from r2) j (paired_set (show RepO X.K F1 A1 (some _) (some _) from r1) i (repsO_ext e1 rs)))) h1⟩
    · exact h1.elim⟩
def dAug (i : Nat) (dr : DR2) (ta : DW) : DTS := fun D ρ M => match ρ[i]? with
  | some (some x) => ta ρ M fun y M1 => dr x y M1 fun z M2 => D.nx (ρ.set i (some z)) M2
  | _ => False
theorem ds_aug {i : Nat} {x : Str} {op : Operator} {ti : TIp} {dr : DR2} {pos' : Pos} (hN : X.N.Nodup) (hi : X.N[i]? = some x) (hx : Loc X.env.scope x) (ha : DE X a ta) (ho : PIp X op ti) (s : Snd2 X.K ti dr)
    (hf : X.fn x = true ∨ X.env.scope.names.lookup x = some .local := by first | exact .inl rfl | exact .inr rfl | assumption) : DS X (.AugAssign (.Name x pos') op a pos) (dAug i dr ta) := PS.imp (ps_aug hN hi hx ha ho hf) fun D σ H ⟨F, A, ρ, M, D', ab, rs, h, k⟩ => by
  unfold dAug at h
  split at h
  · rename_i w e
    obtain ⟨v, hv, rv⟩ := paired_get rs e
    cases v with
    | none => exact False.elim rv
    | some v => exact ⟨v, hv, F, A, ρ, M, _, ab, rs, h, fun y wy F1 A1 M1 H1 e1 ab1 ry h1 => s F1 A1 M1 H1 v y w wy _ _ ab1 (RepW.ext e1 rv) ry h1 fun z wz F2 A2 M2 H2 e2 ab2 rz q => k.nx _ _ _ _ _ _ (e1.trans e2) ab2 (paired_set (show RepO X.K F2 A2 (some z) (some wz) from rz) i (repsO_ext e2 (repsO_ext e1 rs))) q⟩
  · exact h.elim

/-! ### while -/
def dWhile (c : DT Bool) (tb : DTS) : DTS := fun D ρ M => ∃ I : Nat → Rho → Mem → Prop, (∃ m, I m ρ M) ∧ ∀ m ρ M, I m ρ M →
  c ρ M fun b M1 => if b = true then ∃ N : Rho → Mem → Prop, (∀ ρ' M', N ρ' M' → ∃ m', m' < m ∧ I m' ρ' M') ∧ tb { D with nx := N, ct := N, bk := D.nx } ρ M1 else D.nx ρ M1
theorem ds_while {body : List Stmt} {tc : DT Bool} (hp : PassesOwn (model X.prog X.w) X.A X.env X.xe) (hc : DTe X c tc) (hb : DSs X body t) : DS X (.While c body [] pos) (dWhile tc t) := PS.imp (ps_while hp hc hb) fun D σ H ⟨F, A, ρ, M, D', ab, rs, ⟨I, ⟨m, i0⟩, turn⟩, k⟩ =>
  ⟨fun m σ' H' => ∃ F' A' ρ' M', Ext F A H F' A' H' ∧ Abs X.K F' A' M' H' ∧ Paired (RepO X.K F' A') σ' ρ' ∧ I m ρ' M', ⟨m, F, A, ρ, M, .refl, ab, rs, i0⟩, fun m σ1 H1 ⟨F1, A1, ρ1, M1, e1, ab1, rs1, i1⟩ =>
    ⟨F1, A1, ρ1, M1, _, ab1, rs1, turn m ρ1 M1 i1, fun x y F2 A2 M2 H2 e2 ab2 rx h2 => by
      subst rx
      cases x with
      | true =>
        obtain ⟨N, hN, q⟩ := h2
        have step : Fl X.K F2 A2 H2 N (fun σ' H' => ∃ F' A' ρ' M', Ext F A H F' A' H' ∧ Abs X.K F' A' M' H' ∧ Paired (RepO X.K F' A') σ' ρ' ∧ N ρ' M') := fun σ3 ρ3 F3 A3 M3 H3 e3 ab3 rs3 n3 => ⟨F3, A3, ρ3, M3, e1.trans (e2.trans e3), ab3, rs3, n3⟩
        refine iteT ⟨fun σ' H' => ∃ F' A' ρ' M', Ext F A H F' A' H' ∧ Abs X.K F' A' M' H' ∧ Paired (RepO X.K F' A') σ' ρ' ∧ N ρ' M', fun σ3 H3 ⟨F3, A3, ρ3, M3, e3, ab3, rs3, n3⟩ => ?_, F2, A2, ρ1, M2, _, ab2, repsO_ext e2 rs1, q, ⟨step, Post.ext (e1.trans e2) k.rt, Fl.ext (e1.trans e2) k.nx, step⟩⟩
        obtain ⟨m', hm, i'⟩ := hN ρ3 M3 n3
        exact ⟨m', hm, F3, A3, ρ3, M3, e3, ab3, rs3, i'⟩
      | false => exact iteF (k.nx _ _ _ _ _ _ (e1.trans e2) ab2 (repsO_ext e2 rs1) h2)⟩⟩
end
end DL

/-! DL5: defs and their calls; for, comprehensions. -/
namespace DL
open PySem PySem.Spec L2

/-! ### defs: a promise over data -/
abbrev DSp := List W → Mem → (W → Mem → Prop) → Prop
def liftSp (K : PySem.W.Frag) (n : Nat) (sp : DSp) (vs : List V) (H : Hp) (Q : VK) : Prop :=
  vs.length = n ∧ ∃ F A M ws Q', Abs K F A M H ∧ Paired (RepW K F A) vs ws ∧ sp ws M Q' ∧ Post K F A H Q' Q
structure FnG (P : Program) (w : World) (K : PySem.W.Frag) (mg : Str → Option Value) (base : Heap) (k : Nat) (f : Addr) (fd : FuncData) (ps : List Str) (sp : DSp) : Prop where
  run : ∀ (A : Around) (outer : List Env) (s : Shared) (H : Hp) (args : Args) (us : List Value) (vs : List V) (Q : VK), A.guards = some [] → Room k A → Env0 P w K mg base A outer s H → BindsTo s fd args (ps.zip us) → Vals vs us →
    liftSp K ps.length sp vs H Q → codeAny (model P w) A (.call (.ref f) args) (CR CX0 outer P w H s Q E0) s
theorem FnG.mono {P : Program} {w : World} {K : PySem.W.Frag} {mg : Str → Option Value} {base : Heap} {j k : Nat} {f : Addr} {fd : FuncData} {ps : List Str} {sp : DSp} (F : FnG P w K mg base j f fd ps sp) (h : j ≤ k) : FnG P w K mg base k f fd ps sp :=
  ⟨fun A outer s H args us vs Q hg hr => F.run A outer s H args us vs Q hg (hr.mono h)⟩

/-- no handle beyond n -/
def ClosW (n : Nat) : W → Prop
  | .own i => i < n
  | _ => True
def ClosC (n : Nat) : Cell → Prop
  | .frz _ => True
  | .lst ws => ∀ w ∈ ws, ClosW n w
  | .tup ws => ∀ w ∈ ws, ClosW n w
def Clos (n : Nat) (M : Mem) : Prop := ∀ c ∈ M, ClosC n c
/-- what a def leaves: new cells that nothing tells are forgotten -/
def gcQ (n : Nat) (Q : W → Mem → Prop) (w : W) (M' : Mem) : Prop := Q w M' ∨ ∃ M2 g, M' = M2 ++ g ∧ n ≤ M2.length ∧ Clos M2.length M2 ∧ ClosW M2.length w ∧ Q w M2
section
variable {K : PySem.W.Frag} {F : FM} {A : List Addr} {M : Mem} {H : Hp}
theorem RepW.clos {x : V} {w : W} (r : RepW K F A x w) : ClosW A.length w := by
  cases w with
  | d y => trivial
  | raw v => trivial
  | own i =>
    obtain ⟨a, rfl, h⟩ := r.own
    rcases Nat.lt_or_ge i A.length with q | q
    · exact q
    · rw [List.getElem?_eq_none q] at h; cases h
theorem paired_memr {α β : Type} {R : α → β → Prop} : ∀ {xs : List α} {ys : List β}, Paired R xs ys → ∀ y ∈ ys, ∃ x, R x y
  | _, _, .nil, y, h => by cases h
  | _, _, .cons r t, y, h => by
    rcases List.mem_cons.mp h with rfl | h
    · exact ⟨_, r⟩
    · exact paired_memr t y h
theorem Abs.clos (ab : Abs K F A M H) : Clos M.length M := fun c hc => by
  obtain ⟨i, hi, e⟩ := List.mem_iff_getElem.mp hc
  have h2 : M[i]? = some c := by rw [List.getElem?_eq_getElem hi, e]
  have h1 : A[i]? = some (A[i]'(by rw [ab.len]; exact hi)) := List.getElem?_eq_getElem _
  have h := ab.cl i _ c h1 h2
  cases c with
  | frz x => trivial
  | lst ws =>
    obtain ⟨_, o, _, hr⟩ := h
    cases o <;> simp only [CellRep] at hr
    exact fun w hw => by
      obtain ⟨x, r⟩ := paired_memr hr w hw
      rw [← ab.len]; exact r.clos
  | tup ws =>
    obtain ⟨_, o, _, hr⟩ := h
    cases o <;> simp only [CellRep] at hr
    exact fun w hw => by
      obtain ⟨x, r⟩ := paired_memr hr w hw
      rw [← ab.len]; exact r.clos
theorem RepW.cut {n : Nat} {x : V} {w : W} (r : RepW K F A x w) (c : ClosW n w) : RepW K F (A.take n) x w := by
  cases w with
  | d y => exact r
  | raw v => exact r
  | own i =>
    obtain ⟨a, rfl, h⟩ := r.own
    show (A.take n)[i]? = _
    rw [List.getElem?_take_of_lt c]
    exact h
theorem paired_impm {α β : Type} {R S : α → β → Prop} : ∀ {xs : List α} {ys : List β}, Paired R xs ys → (∀ a b, b ∈ ys → R a b → S a b) → Paired S xs ys
  | _, _, .nil, _ => .nil
  | _, _, .cons h t, k => .cons (k _ _ List.mem_cons_self h) (paired_impm t fun a b hb => k a b (List.mem_cons_of_mem _ hb))
theorem Abs.cut {M2 g : Mem} (ab : Abs K F A (M2 ++ g) H) (c : Clos M2.length M2) : Abs K F (A.take M2.length) M2 H := by
  refine ⟨ab.fz, by rw [List.length_take, ab.len, List.length_append]; omega, ab.nd.sublist (List.take_sublist _ _), fun i a d h1 h2 => ?_⟩
  have hi : i < M2.length := by
    rcases Nat.lt_or_ge i M2.length with q | q
    · exact q
    · rw [List.getElem?_eq_none q] at h2; cases h2
  rw [List.getElem?_take_of_lt hi] at h1
  have h := ab.cl i a d h1 (by rw [List.getElem?_append_left hi]; exact h2)
  have cd := c d (List.mem_of_getElem? h2)
  cases d with
  | frz x => exact h
  | lst ws =>
    obtain ⟨hf, o, ho, hr⟩ := h
    cases o <;> simp only [CellRep] at hr
    exact ⟨hf, _, ho, paired_impm hr fun x w hw r => r.cut (cd w hw)⟩
  | tup ws =>
    obtain ⟨hf, o, ho, hr⟩ := h
    cases o <;> simp only [CellRep] at hr
    exact ⟨hf, _, ho, paired_impm hr fun x w hw r => r.cut (cd w hw)⟩
theorem Ext.cut {F' : FM} {A' : List Addr} {H' : Hp} {n : Nat} (e : Ext F A H F' A' H') (h : A.length ≤ n) : Ext F A H F' (A'.take n) H' := by
  obtain ⟨B, rfl, hB⟩ := e.a
  refine ⟨e.f, ⟨B.take (n - A.length), ?_, fun b hb => hB b (List.mem_of_mem_take hb)⟩, e.keep, e.dom, e.fn⟩
  rw [List.take_append, List.take_of_length_le h]
/-- behind a def -/
theorem gc_ok {Q' : W → Mem → Prop} {Q : V → Hp → Prop} (k : Post K F A H Q' Q) : Post K F A H (gcQ A.length Q') Q := fun z w F' A' M' H' e ab r q => by
  rcases q with q | ⟨M2, g, rfl, hn, hc, hw, q⟩
  · exact k z w F' A' M' H' e ab r q
  · exact k z w F' _ M2 H' (e.cut hn) (ab.cut hc) (r.cut hw) q
end
section
variable {P : Program} {w : World} {K : PySem.W.Frag} {mg : Str → Option Value} {base : Heap}
abbrev startW (N : List Str) (ws : List W) : Rho := ws.map some ++ List.replicate (N.length - ws.length) none
theorem start_rep {F : FM} {A : List Addr} {N : List Str} {vs : List V} {ws : List W} (r : Paired (RepW K F A) vs ws) : Paired (RepO K F A) (L2.start N vs) (startW N ws) := by
  unfold L2.start startW
  rw [Paired.length r]
  refine paired_append (paired_map r fun a b h => h) ?_
  generalize N.length - ws.length = n
  induction n with
  | zero => exact .nil
  | succ n ih => exact .cons trivial ih
/-- THE RULE for a def: its body read over data -/
theorem fnG {x qual : Str} {st : Stmt} {f : Addr} {fd : FuncData} {N ps : List Str} {k : Nat} {sp : DSp} {t : DTS} (F : Fun K x qual st f fd) (S : FnScope N ps (defScope st))
    (hbody : ∀ (cdv : Value) (A : Around) (outer : List Env) (s : Shared) (H : Hp), A.guards = some [] → Room k (A.deeper (PyProof.Rows.envOfC qual (defScope st) s.heap.objs.size f cdv)) → DSs (cxOf CX0 P w K mg base N qual (defScope st) f cdv A outer s H E0).nox (defBody st) t)
    (hsp : ∀ ws M Q, ws.length = ps.length → Clos M.length M → sp ws M Q → t { nx := fun _ M' => gcQ M.length Q (.d .none) M', rt := gcQ M.length Q } (startW N ws) M) : FnG P w K mg base (k + 1) f fd ps sp := by
  obtain ⟨oc, od, kV, doc, pm, an, cdv, ct, osl, rfl, lk, hcd⟩ := F.ex
  refine ⟨fun A outer s H args us vs Q hg hr e0 hb rv ⟨hl, Fm, Am, M, ws, Q', ab, rw', hs, post⟩ => ?_⟩
  -- the call, into the body
  have here : ∀ b o, base.get? b = some o → s.heap.get? b = some o := fun b o e => (e0.bs b o e).1
  have names : ∀ y ∈ ps.zip us, (defScope st).names.lookup y.1 = some .local ∨ ((defScope st).names.lookup y.1 = some .cell ∧ ((cellsFrom (s.heap.objs.size + 1) (defScope st).names []).lookup y.1).isSome = true) := by
    rintro ⟨n, v⟩ hy
    cases S.par n (List.of_mem_zip hy).1 with
    | inl q => exact .inl q
    | inr q => exact .inr ⟨q, PySem.W.cellsFrom_some _ _ _ (.inl q)⟩
  refine codeAny_call_function hr.depth (e0.mod.kin.keeps here _ _ lk) rfl S.co S.gen rfl (PySem.W.codeRec_of (e0.mod.kin.keeps here) hcd) (hb _ _ _ _ (wpAny_newFunctionEnv_cells S.kind names fun env he s1 ic => ?_))
  subst he
  refine ⟨e0.mod.nolimit.keeps (fun b o e => ic.toInCall.keep b o (here b o e)), codeAny_func ?_⟩
  have body := (hbody cdv A outer s H hg (hr.deeper _)).nox
  have I := inv_start (E := E0) (CX := CX0) S hr.hd e0 hl rv ic
  have q0 := hsp ws M Q' (by rw [← Paired.length rw', hl]) ab.clos hs
  have post' := gc_ok post
  rw [ab.len] at post'
  have lifted : liftS K t { nx := fun _ H' => Q .non H', rt := Q } (L2.start N vs) H :=
    ⟨Fm, Am, _, M, _, ab, start_rep rw', q0, ⟨fun _ _ F' A' M' H' e ab' _ q => post' .non (.d .none) F' A' M' H' e ab' trivial q, post', fun _ _ _ _ _ _ _ _ _ q => q, fun _ _ _ _ _ _ _ _ _ q => q⟩⟩
  refine wpAny_mono (body.run [] s1 (L2.start N vs) H _ I lifted) (fun fl s' hs' => ?_) fun e s' hs' => hs'
  cases fl with
  | ret u =>
    obtain ⟨v, σ', H', J, r, q⟩ := hs'
    exact ⟨v, H', J.os, J.bare, J.base, J.hok, r, q⟩
  | next =>
    obtain ⟨σ', H', J, q⟩ := hs'
    exact ⟨.non, H', J.os, J.bare, J.base, J.hok, rfl, q⟩
  | brk =>
    obtain ⟨_, _, _, z⟩ := hs'
    exact False.elim z
  | cont =>
    obtain ⟨_, _, _, z⟩ := hs'
    exact False.elim z
end

/-! ### calls -/
section
variable {X : Cx} {k : Nat} {f : Addr} {fd : FuncData} {ps ks : List Str} {sp : DSp} {x : Str} {p pos : Pos} {e : Expr} {es : List Expr} {kws : List Keyword} {t : DT (List W)} {ta : DW}
theorem runG {pins : List (Addr × Obj)} {σ : L2.St} {H : Hp} {s : Shared} {Q : VK} {args : Args} {us : List Value} {vs : List V} (F : FnG X.prog X.w X.K X.mg X.base k f fd ps sp) (hg : X.A.guards = some []) (hr : Room k X.A) (I : Inv X pins σ H s) (hb : BindsTo s fd args (ps.zip us)) (r : Vals vs us)
    (h : liftSp X.K ps.length sp vs H Q) : wpAny (model X.prog X.w) X.A (call (.ref f) args.pos args.kw) (EP X pins σ Q) X.xe s :=
  wpAny_call (codeAny_mono (F.run X.A X.stack s H args us vs Q hg hr I.env0 hb r h) fun res s' hq => by
    cases res with
    | error e => exact hq.elim
    | ok fl => cases fl <;> first | exact I.after hq | exact hq.elim)
def dCall (n : Nat) (sp : DSp) (t : DT (List W)) : DW := fun ρ M Q => t ρ M fun ws M1 => ws.length = n ∧ sp ws M1 Q
theorem de_call (F : FnG X.prog X.w X.K X.mg X.base k f fd ps sp) (hgd : X.A.guards = some []) (hr : Room k X.A) (hm : X.mg x = some (.ref f)) (hk : PySem.W.keepIn X.K (.ref f) = true) (hb : Binds X.K fd ps []) (ha : DA X (e :: es) t) (hg : Gl X x := by rfl) (hdb : (x == ("__debug__" : Str)) = false := by decide)
    (he : starEach (e :: es) X.env = (false, eval e X.env) :: starEach es X.env := by rfl) (hpl : (backTo pos (starEach es X.env)).any (·.1) = false := by rfl) : DE X (.Call (.Name x p) (e :: es) [] pos) (dCall ps.length sp t) := by
  refine ⟨fun pins s σ H Q I ⟨F0, A0, ρ, M, Q', ab, rs, h, k⟩ => wpAny_Call_Name_kw (ld_glob I hg hm (PySem.W.callWith_K (h₀ := X.base) I.ok.mod.kin hk ?_ he hpl) hdb)⟩
  refine thn (ha.run pos pins s σ H (fun vs H1 => liftSp X.K ps.length sp vs H1 Q) I ⟨F0, A0, ρ, M, _, ab, rs, h, fun vs ws F1 A1 M1 H1 e1 ab1 r1 h1 => ⟨by rw [Paired.length r1]; exact h1.1, F1, A1, M1, ws, Q', ab1, r1, h1.2, Post.ext e1 k⟩⟩) fun us s1 ⟨vs, H1, I1, r, q⟩ => ⟨I1.kIn, ?_⟩
  have hl : (us ++ []).length = ps.length := by rw [List.append_nil, ← r.length]; exact q.1
  have hb' := hb s1 us I1.kIn hl
  rw [List.append_nil] at hb'
  exact runG F hgd hr I1 hb' r q
theorem de_call0 (F : FnG X.prog X.w X.K X.mg X.base k f fd ps sp) (hgd : X.A.guards = some []) (hr : Room k X.A) (hm : X.mg x = some (.ref f)) (hk : PySem.W.keepIn X.K (.ref f) = true) (hb : Binds X.K fd ps []) (hg : Gl X x := by rfl) (hdb : (x == ("__debug__" : Str)) = false := by decide) :
    DE X (.Call (.Name x p) [] [] pos) (dCall ps.length sp dNil) := by
  refine ⟨fun pins s σ H Q I ⟨F0, A0, ρ, M, Q', ab, rs, h, k⟩ => wpAny_Call_Name_kw (ld_glob I hg hm (PySem.W.callWith_K0 I.kIn hk ?_) hdb)⟩
  have q : liftSp X.K ps.length sp [] H Q := ⟨h.1, F0, A0, M, [], Q', ab, .nil, h.2, k⟩
  have hb' := hb s [] I.kIn (by rw [List.append_nil]; exact h.1)
  rw [List.append_nil] at hb'
  exact runG F hgd hr I hb' .nil q
/-- the keywords' values -/
abbrev DK (X : Cx) (kws : List Keyword) (t : DT (List W)) : Prop := PK X kws (liftA X.K t)
theorem PK.imp {kws : List Keyword} {t t' : TA} (h : PK X kws t) (k : ∀ σ H Q, t' σ H Q → t σ H Q) : PK X kws t' := ⟨fun pos pins s σ H Q I q => h.run pos pins s σ H Q I (k σ H Q q)⟩
theorem dk_nil : DK X [] dNil := PK.imp pk_nil fun σ H Q ⟨F, A, ρ, M, Q', ab, rs, h, k⟩ => k _ _ F A M H .refl ab .nil h
theorem dk_cons {nm : Option Str} {kpos : Pos} (ha : DE X e ta) (hr : DK X kws t) : DK X (⟨nm, e, kpos⟩ :: kws) (dCons ta t) := PK.imp (pk_cons ha hr) fun σ H Q ⟨F, A, ρ, M, Q', ab, rs, h, k⟩ =>
  ⟨F, A, ρ, M, _, ab, rs, h, fun x w F1 A1 M1 H1 e1 ab1 rx h1 => ⟨F1, A1, ρ, M1, _, ab1, repsO_ext e1 rs, h1, fun xs ws F2 A2 M2 H2 e2 ab2 r2 h2 => k _ _ F2 A2 M2 H2 (e1.trans e2) ab2 (.cons (rx.ext e2) r2) h2⟩⟩
/-- how keywords alone bind: the i-th parameter is the (g i)-th keyword -/
def KwOk (fd : FuncData) (ps ks : List Str) (g : List Nat) : Prop := ∀ (s : Shared) (us : List Value), us.length = ks.length → BindsTo s fd ⟨[], ks.zip us⟩ (ps.zip (g.filterMap (us[·]?)))
def pick {α : Type} (g : List Nat) (l : List α) : List α := g.filterMap (l[·]?)
theorem paired_pick {α β : Type} {R : α → β → Prop} {xs : List α} {ys : List β} (r : Paired R xs ys) : ∀ g : List Nat, Paired R (pick g xs) (pick g ys)
  | [] => .nil
  | i :: g => by
    unfold pick
    cases e : ys[i]? with
    | none =>
      have e' : xs[i]? = none := by
        rw [List.getElem?_eq_none_iff] at e ⊢
        rw [Paired.length r]; exact e
      rw [List.filterMap_cons_none e, List.filterMap_cons_none e']
      exact paired_pick r g
    | some y =>
      obtain ⟨x, hx, rx⟩ := paired_get r e
      rw [List.filterMap_cons_some e, List.filterMap_cons_some hx]
      exact .cons rx (paired_pick r g)
def dCallK (n m : Nat) (g : List Nat) (sp : DSp) (t : DT (List W)) : DW := fun ρ M Q => t ρ M fun ws M1 => ws.length = m ∧ (pick g ws).length = n ∧ sp (pick g ws) M1 Q
theorem de_callK {g : List Nat} (F : FnG X.prog X.w X.K X.mg X.base k f fd ps sp) (hgd : X.A.guards = some []) (hr : Room k X.A) (hm : X.mg x = some (.ref f)) (hk : PySem.W.keepIn X.K (.ref f) = true) (hb : KwOk fd ps ks g) (ha : DK X kws t)
    (hall : (backToKw pos (keywordEach kws X.env)).all (·.1.isSome) = true := by rfl) (hks : (backToKw pos (keywordEach kws X.env)).filterMap (·.1) = ks := by rfl) (hg : Gl X x := by rfl) (hdb : (x == ("__debug__" : Str)) = false := by decide)
    (hpl : ((backTo pos (starEach [] X.env)).any (·.1) || (backToKw pos (keywordEach kws X.env)).any (·.1.isNone)) = false := by rfl) : DE X (.Call (.Name x p) [] kws pos) (dCallK ps.length ks.length g sp t) := by
  refine ⟨fun pins s σ H Q I ⟨F0, A0, ρ, M, Q', ab, rs, h, k⟩ => wpAny_Call_Name_kw (ld_glob I hg hm (PySem.W.callWith_KW0 (h₀ := X.base) I.ok.mod.kin hk hall ?_ hpl) hdb)⟩
  refine thn (ha.run pos pins s σ H (fun vs H1 => vs.length = ks.length ∧ liftSp X.K ps.length sp (pick g vs) H1 Q) I ⟨F0, A0, ρ, M, _, ab, rs, h, fun vs ws F1 A1 M1 H1 e1 ab1 r1 h1 => ?_⟩) fun us s1 ⟨vs, H1, I1, r, hl, q⟩ => ⟨I1.kIn, ?_⟩
  · have rp := paired_pick r1 g
    exact ⟨by rw [Paired.length r1]; exact h1.1, by rw [Paired.length rp]; exact h1.2.1, F1, A1, M1, _, Q', ab1, rp, h1.2.2, Post.ext e1 k⟩
  · rw [hks]
    exact runG F hgd hr I1 (hb s1 us (by rw [← r.length]; exact hl)) (paired_pick r g) q
/-- repr of data -/
def dReprR : DRN := fun ws M Q => match ws with
  | [w] => ∃ d, toD M w = some d ∧ (∃ a, w = .d (.list a) ∨ w = .d (.tuple a) ∨ ∃ i, w = .own i) ∧ d.showable = true ∧ d.depth ≤ 60 ∧ d.shown.length ≤ sizeLine ∧ Q (.d (.str d.shown)) M
  | _ => False
end
mutual
theorem dp_nodict {K : PySem.W.Frag} {H : Hp} : ∀ (d : PyData) (x : V), Dp K H x d → d.hasDict = false
  | .none, _, _ => by simp only [PyData.hasDict]
  | .bool _, _, _ => by simp only [PyData.hasDict]
  | .int _, _, _ => by simp only [PyData.hasDict]
  | .str _, _, _ => by simp only [PyData.hasDict]
  | .list ds, _, .lst _ h => by simp only [PyData.hasDict]; exact dp_nodicts ds _ h
  | .tuple ds, _, .tup _ h => by simp only [PyData.hasDict]; exact dp_nodicts ds _ h
  | .dict _, _, h => by cases h
theorem dp_nodicts {K : PySem.W.Frag} {H : Hp} : ∀ (ds : List PyData) (xs : List V), DpAll K H xs ds → PyData.hasDictAll ds = false
  | [], _, _ => by simp only [PyData.hasDictAll]
  | d :: ds, _, .cons h t => by simp only [PyData.hasDictAll, dp_nodict d _ h, dp_nodicts ds _ t, Bool.or_self]
end
section
variable {X : Cx}
theorem call_reprD (hg : X.A.guards = some []) (hu : X.A.units + 64 < cLine) : CallR X (.builtin "repr") (fun xs H Q => ∃ a d, xs = [.ref a] ∧ Dp X.K H (.ref a) d ∧ d.showable = true ∧ d.depth ≤ 60 ∧ d.shown.length ≤ sizeLine ∧ Q (.str d.shown) H) := by
  intro pins s σ H xs us Q I r ⟨a, d, e, hd, h1, h2, h3, q⟩
  subst e
  cases r with
  | cons rx rt =>
    cases rt
    obtain rfl : _ = Value.ref a := rx
    obtain ⟨as, rd⟩ := Dp.reads I d (.ref a) (.ref a) hd rfl
    exact repr_of_reads' rd h1 (PyData.noDict_hsm (dp_nodict d _ hd)) hg (by omega) (fun _ _ z => z) (fun h' u tk hk => ⟨.str d.shown, H, I.kept (h' := h') (t' := tk) hk, ⟨u, rfl⟩, q⟩) h3
theorem sRepr {K : PySem.W.Frag} : SndN K (fun xs H Q => ∃ a d, xs = [.ref a] ∧ Dp K H (.ref a) d ∧ d.showable = true ∧ d.depth ≤ 60 ∧ d.shown.length ≤ sizeLine ∧ Q (.str d.shown) H) dReprR := by
  intro F A M H xs ws Q Q' ab r h k
  unfold dReprR at h
  split at h
  · obtain ⟨d, hd, ⟨as, hw⟩, h1, h2, h3, q⟩ := h
    cases r with
    | cons rx rt =>
      cases rt
      have isr : ∃ a, ‹V› = V.ref a := by
        rcases hw with rfl | rfl | ⟨i, rfl⟩
        · obtain ⟨a, e, _⟩ := RepF.list rx; exact ⟨a, e⟩
        · obtain ⟨a, e, _⟩ := RepF.tuple rx; exact ⟨a, e⟩
        · obtain ⟨a, e, _⟩ := RepW.own rx; exact ⟨a, e⟩
      obtain ⟨a, rfl⟩ := isr
      exact ⟨a, d, rfl, ab.toD _ _ _ _ rx hd, h1, h2, h3, post_d ab k (x := .str _) rfl q⟩
  · exact h.elim
theorem de_repr {e : Expr} {t : DT (List W)} {p pos : Pos} (hgd : X.A.guards = some []) (hu : X.A.units + 64 < cLine) (hm : X.mg "repr" = none) (ha : DA X [e] t) (hg : Gl X "repr" := by rfl) (he : starEach [e] X.env = (false, eval e X.env) :: starEach [] X.env := by rfl) :
    DE X (.Call (.Name "repr" p) [e] [] pos) (dCB dReprR t) := de_callB (call_reprD hgd hu) sRepr hm PyProof.Rows.boot_repr ha hg (by decide) (by decide) he rfl
end
end DL

/-! DL6: what is walked; for; list comprehensions. -/
namespace DL
open PySem PySem.Spec L2

/-- an iterator that yields ws, one after another, as long as F0 and A0 stand -/
structure ItOk (K : PySem.W.Frag) (J : It) (ws : List W) (F0 : FM) (A0 : List Addr) : Prop where
  go : ∀ (i : Nat) F A M H (w : W), (∀ a x, F0 a = some x → F a = some x) → (∃ B, A = A0 ++ B) → Abs K F A M H → ws[i]? = some w → J.go i H ∧ ∀ x H', J.yld i H x H' → ∃ F', Ext F A H F' A H' ∧ Abs K F' A M H' ∧ RepW K F' A x w
  stop : ∀ (i : Nat) F A M H, (∀ a x, F0 a = some x → F a = some x) → (∃ B, A = A0 ++ B) → Abs K F A M H → ws.length ≤ i → J.stop i H
def liftI (K : PySem.W.Frag) (t : DT (List W)) : TI := fun σ H R => ∃ F A ρ M Q', Abs K F A M H ∧ Paired (RepO K F A) σ ρ ∧ t ρ M Q' ∧
  ∀ J ws F' A' M' H', Ext F A H F' A' H' → Abs K F' A' M' H' → ItOk K J ws F' A' → Q' ws M' → R J H'
abbrev DI (X : Cx) (tg iter : Expr) (t : DT (List W)) : Prop := PI X tg iter (liftI X.K t)
theorem PI.imp {X : Cx} {tg iter : Expr} {t t' : TI} (h : PI X tg iter t) (k : ∀ σ H R, t' σ H R → t σ H R) : PI X tg iter t' := ⟨fun pins s σ H R I q => h.run pins s σ H R I (k σ H R q)⟩
def listD (M : Mem) (w : W) : Option (List PyData) := match dat M w with
  | some (.list ds) => some ds
  | _ => none
def tupD (M : Mem) (w : W) : Option (List PyData) := match dat M w with
  | some (.tuple ds) => some ds
  | _ => none
section
variable {K : PySem.W.Frag} {F : FM} {A : List Addr} {M : Mem} {H : Hp}
theorem Abs.listD (ab : Abs K F A M H) {x : V} {w : W} {ds : List PyData} (r : RepW K F A x w) (h : DL.listD M w = some ds) : RepF K F x (.list ds) := by
  unfold DL.listD at h
  split at h
  · rename_i e
    cases h
    exact ab.dat r e
  · cases h
theorem Abs.tupD (ab : Abs K F A M H) {x : V} {w : W} {ds : List PyData} (r : RepW K F A x w) (h : DL.tupD M w = some ds) : RepF K F x (.tuple ds) := by
  unfold DL.tupD at h
  split at h
  · rename_i e
    cases h
    exact ab.dat r e
  · cases h
theorem itl_ok {a : Addr} {ds : List PyData} (r : RepF K F (.ref a) (.list ds)) : ItOk K (Itl K a) (ds.map .d) F A where
  go := fun i F1 A1 M1 H1 w hF _ ab hw => by
    obtain ⟨b, xs, e, sq, rs⟩ := ab.isList (r.mono hF)
    cases e
    rw [List.getElem?_map] at hw
    cases hd : ds[i]? with
    | none => rw [hd] at hw; cases hw
    | some d =>
      rw [hd] at hw
      cases hw
      obtain ⟨x, hx, rx⟩ := paired_get rs hd
      refine ⟨⟨xs, x, sq.sql, hx⟩, fun y H' ⟨e, hy⟩ => ?_⟩
      subst e
      have := hy xs sq.sql
      rw [hx] at this
      cases this
      exact ⟨F1, .refl, ab, rx⟩
  stop := fun i F1 A1 M1 H1 hF _ ab hl => by
    obtain ⟨b, xs, e, sq, rs⟩ := ab.isList (r.mono hF)
    cases e
    exact ⟨xs, sq.sql, by rw [Paired.length rs]; simpa using hl⟩
theorem itt_ok {a : Addr} {ds : List PyData} (r : RepF K F (.ref a) (.tuple ds)) : ItOk K (Itt K a) (ds.map .d) F A where
  go := fun i F1 A1 M1 H1 w hF _ ab hw => by
    obtain ⟨b, xs, e, sq, rs⟩ := ab.isTup (r.mono hF)
    cases e
    rw [List.getElem?_map] at hw
    cases hd : ds[i]? with
    | none => rw [hd] at hw; cases hw
    | some d =>
      rw [hd] at hw
      cases hw
      obtain ⟨x, hx, rx⟩ := paired_get rs hd
      refine ⟨⟨xs, x, sq, hx⟩, fun y H' ⟨e, hy⟩ => ?_⟩
      subst e
      have := hy xs sq
      rw [hx] at this
      cases this
      exact ⟨F1, .refl, ab, rx⟩
  stop := fun i F1 A1 M1 H1 hF _ ab hl => by
    obtain ⟨b, xs, e, sq, rs⟩ := ab.isTup (r.mono hF)
    cases e
    exact ⟨xs, sq, by rw [Paired.length rs]; simpa using hl⟩
/-- lo, lo + 1, .. n of them -/
def upTo (lo : Int) (n : Nat) : List Int := (List.range n).map fun i => lo + (i : Nat)
theorem upTo_get {lo : Int} {n i : Nat} {z : Int} (h : (upTo lo n)[i]? = some z) : i < n ∧ z = lo + (i : Nat) := by
  unfold upTo at h
  rw [List.getElem?_map] at h
  rcases Nat.lt_or_ge i n with q | q
  · rw [List.getElem?_range q] at h
    cases h
    exact ⟨q, rfl⟩
  · rw [List.getElem?_eq_none (by simpa using q)] at h; cases h
theorem upTo_len (lo : Int) (n : Nat) : (upTo lo n).length = n := by simp [upTo]
abbrev dint (z : Int) : W := .d (.int z)
theorem itr_ok {lo : Int} {n : Nat} : ItOk K (Itr lo n) ((upTo lo n).map dint) F A where
  go := fun i F1 A1 M1 H1 w hF _ ab hw => by
    rw [List.getElem?_map] at hw
    cases hz : (upTo lo n)[i]? with
    | none => rw [hz] at hw; cases hw
    | some z =>
      rw [hz] at hw
      cases hw
      obtain ⟨hi, rfl⟩ := upTo_get hz
      refine ⟨hi, fun x H' ⟨e, ex⟩ => ?_⟩
      subst e ex
      exact ⟨F1, .refl, ab, rfl⟩
  stop := fun i F1 A1 M1 H1 hF _ ab hl => by
    rw [List.length_map, upTo_len] at hl
    exact hl
def enumD : Nat → List PyData → List PyData
  | _, [] => []
  | i, d :: ds => .tuple [.int i, d] :: enumD (i + 1) ds
theorem enumD_get : ∀ (ds : List PyData) (j i : Nat), (enumD j ds)[i]? = ds[i]?.map fun d => .tuple [.int ((j + i : Nat) : Int), d]
  | [], _, _ => by simp [enumD]
  | d :: ds, j, 0 => by simp [enumD]
  | d :: ds, j, i + 1 => by
    simp only [enumD, List.getElem?_cons_succ, enumD_get ds (j + 1) i]
    congr 2
    funext d
    congr 4
    omega
theorem enumD_len : ∀ (ds : List PyData) (j : Nat), (enumD j ds).length = ds.length
  | [], _ => rfl
  | d :: ds, j => by simp only [enumD, List.length_cons, enumD_len ds]
theorem ite_ok {a : Addr} {ds : List PyData} (r : RepF K F (.ref a) (.list ds)) : ItOk K (Ite K a) ((enumD 0 ds).map .d) F A where
  go := fun i F1 A1 M1 H1 w hF _ ab hw => by
    obtain ⟨b, xs, e, sq, rs⟩ := ab.isList (r.mono hF)
    cases e
    rw [List.getElem?_map, enumD_get] at hw
    cases hd : ds[i]? with
    | none => rw [hd] at hw; cases hw
    | some d =>
      rw [hd] at hw
      cases hw
      obtain ⟨x, hx, rx⟩ := paired_get rs hd
      refine ⟨⟨xs, x, sq.sql, hx⟩, fun y H' ⟨T, z, ey, nT, eH, hz⟩ => ?_⟩
      have := hz xs sq.sql
      rw [hx] at this
      cases this
      subst ey eH
      obtain ⟨ab', ex⟩ := ab.newTupD (ds := [.int (i : Nat), d]) nT (xs := [.int (i : Nat), x]) (.cons (show RepF K F1 (.int _) (.int _) from rfl) (.cons rx .nil))
      refine ⟨_, ex, ab', ?_⟩
      show RepF K _ (.ref T) (.tuple [.int ((0 + i : Nat) : Int), d])
      rw [Nat.zero_add]
      exact setF_same
  stop := fun i F1 A1 M1 H1 hF _ ab hl => by
    obtain ⟨b, xs, e, sq, rs⟩ := ab.isList (r.mono hF)
    cases e
    exact ⟨xs, sq.sql, by rw [Paired.length rs]; simpa [enumD_len] using hl⟩
def zipD (as bs : List PyData) : List PyData := List.zipWith (fun a b => .tuple [a, b]) as bs
theorem itz_ok {a b : Addr} {ds es : List PyData} (r : RepF K F (.ref a) (.list ds)) (r' : RepF K F (.ref b) (.list es)) : ItOk K (Itz K a b) ((zipD ds es).map .d) F A where
  go := fun i F1 A1 M1 H1 w hF _ ab hw => by
    obtain ⟨_, xs, e, sq, rs⟩ := ab.isList (r.mono hF)
    cases e
    obtain ⟨_, ys, e, sq', rs'⟩ := ab.isList (r'.mono hF)
    cases e
    unfold zipD at hw
    rw [List.getElem?_map, List.getElem?_zipWith] at hw
    cases hd : ds[i]? with
    | none => rw [hd] at hw; cases hw
    | some d =>
      cases he : es[i]? with
      | none => rw [hd, he] at hw; cases hw
      | some e =>
        rw [hd, he] at hw
        cases hw
        obtain ⟨x, hx, rx⟩ := paired_get rs hd
        obtain ⟨y, hy, ry⟩ := paired_get rs' he
        refine ⟨⟨xs, ys, x, y, sq.sql, sq'.sql, hx, hy⟩, fun v H' ⟨T, x', y', ev, nT, eH, hx', hy'⟩ => ?_⟩
        have h1 := hx' xs sq.sql
        have h2 := hy' ys sq'.sql
        rw [hx] at h1; cases h1
        rw [hy] at h2; cases h2
        subst ev eH
        obtain ⟨ab', ex⟩ := ab.newTupD (ds := [d, e]) nT (xs := [x, y]) (.cons rx (.cons ry .nil))
        exact ⟨_, ex, ab', setF_same⟩
  stop := fun i F1 A1 M1 H1 hF _ ab hl => by
    obtain ⟨_, xs, e, sq, rs⟩ := ab.isList (r.mono hF)
    cases e
    obtain ⟨_, ys, e, sq', rs'⟩ := ab.isList (r'.mono hF)
    cases e
    refine ⟨xs, ys, sq.sql, sq'.sql, ?_⟩
    rw [Paired.length rs, Paired.length rs']
    simp only [zipD, List.length_map, List.length_zipWith] at hl
    omega
end
section
variable {X : Cx} {tg l e e2 : Expr} {ta : DW} {tA : DT (List W)} {p pos tpos : Pos} {elts : List Expr} {kk : Nat}
def dItL (ta : DW) : DT (List W) := fun ρ M Q => ta ρ M fun w M1 => ∃ ds, listD M1 w = some ds ∧ Q (ds.map .d) M1
def dItT (ta : DW) : DT (List W) := fun ρ M Q => ta ρ M fun w M1 => ∃ ds, tupD M1 w = some ds ∧ Q (ds.map .d) M1
theorem di_list (ha : DE X l ta) : DI X tg l (dItL ta) := PI.imp (pi_list ha) fun σ H R ⟨F, A, ρ, M, Q', ab, rs, h, k⟩ =>
  ⟨F, A, ρ, M, _, ab, rs, h, fun x w F1 A1 M1 H1 e1 ab1 rx ⟨ds, hd, q⟩ => by
    have r := ab1.listD rx hd
    obtain ⟨a, xs, rfl, sq, _⟩ := ab1.isList r
    exact ⟨a, rfl, ⟨xs, sq.sql⟩, k _ _ F1 A1 M1 H1 e1 ab1 (itl_ok r) q⟩⟩
theorem di_tup (ha : DE X l ta) : DI X tg l (dItT ta) := PI.imp (pi_tup ha) fun σ H R ⟨F, A, ρ, M, Q', ab, rs, h, k⟩ =>
  ⟨F, A, ρ, M, _, ab, rs, h, fun x w F1 A1 M1 H1 e1 ab1 rx ⟨ds, hd, q⟩ => by
    have r := ab1.tupD rx hd
    obtain ⟨a, xs, rfl, sq, _⟩ := ab1.isTup r
    exact ⟨a, rfl, ⟨xs, sq⟩, k _ _ F1 A1 M1 H1 e1 ab1 (itt_ok r) q⟩⟩
def rgOk (i : Int) : Prop := -(2 ^ 62) ≤ i ∧ i < 2 ^ 62
def dRg1 (tA : DT (List W)) : DT (List W) := fun ρ M Q => tA ρ M fun ws M1 => match ws with
  | [.d (.int n)] => rgOk n ∧ Q ((upTo 0 n.toNat).map dint) M1
  | _ => False
def dRg2 (tA : DT (List W)) : DT (List W) := fun ρ M Q => tA ρ M fun ws M1 => match ws with
  | [.d (.int m), .d (.int n)] => rgOk m ∧ rgOk n ∧ Q ((upTo m (n - m).toNat).map dint) M1
  | _ => False
theorem one_int {K : PySem.W.Frag} {F : FM} {A : List Addr} {xs : List V} {n : Int} (r : Paired (RepW K F A) xs [.d (.int n)]) : xs = [.int n] := by
  cases r with
  | cons r t => cases t; rw [RepF.int r]
theorem two_ints {K : PySem.W.Frag} {F : FM} {A : List Addr} {xs : List V} {m n : Int} (r : Paired (RepW K F A) xs [.d (.int m), .d (.int n)]) : xs = [.int m, .int n] := by
  cases r with
  | cons r t => rw [RepF.int r, one_int t]
theorem di_range1 {a : Expr} (hm : X.mg "range" = none) (ha : DA X [a] tA) (hg : Gl X "range" := by rfl) (hs : starEach [a] X.env = [(false, eval a X.env)] := by rfl) : DI X tg (.Call (.Name "range" p) [a] [] pos) (dRg1 tA) := PI.imp (pi_range1 hg hm ha hs) fun σ H R ⟨F, A, ρ, M, Q', ab, rs, h, k⟩ =>
  ⟨F, A, ρ, M, _, ab, rs, h, fun x w F1 A1 M1 H1 e1 ab1 rx h1 => by
    split at h1
    · exact ⟨_, one_int rx, h1.1.1, h1.1.2, k _ _ F1 A1 M1 H1 e1 ab1 itr_ok h1.2⟩
    · exact h1.elim⟩
theorem di_range2 {a b : Expr} (hm : X.mg "range" = none) (ha : DA X [a, b] tA) (hg : Gl X "range" := by rfl) (hs : starEach [a, b] X.env = [(false, eval a X.env), (false, eval b X.env)] := by rfl) (hs2 : starEach [b] X.env = [(false, eval b X.env)] := by rfl) : DI X tg (.Call (.Name "range" p) [a, b] [] pos) (dRg2 tA) :=
  PI.imp (pi_range2 hg hm ha hs hs2) fun σ H R ⟨F, A, ρ, M, Q', ab, rs, h, k⟩ =>
  ⟨F, A, ρ, M, _, ab, rs, h, fun x w F1 A1 M1 H1 e1 ab1 rx h1 => by
    split at h1
    · exact ⟨_, _, two_ints rx, ⟨h1.1.1, h1.1.2, h1.2.1.1, h1.2.1.2⟩, k _ _ F1 A1 M1 H1 e1 ab1 itr_ok h1.2.2⟩
    · exact h1.elim⟩
def dEnum (tA : DT (List W)) : DT (List W) := fun ρ M Q => tA ρ M fun ws M1 => match ws with
  | [w] => ∃ ds, listD M1 w = some ds ∧ Q ((enumD 0 ds).map .d) M1
  | _ => False
theorem di_enum (hm : X.mg "enumerate" = none) (ha : DA X [e] tA) (hg : Gl X "enumerate" := by rfl) (hs : starEach [e] X.env = [(false, eval e X.env)] := by rfl) : DI X (.Tuple elts kk tpos) (.Call (.Name "enumerate" p) [e] [] pos) (dEnum tA) := PI.imp (pi_enum hg hm ha hs) fun σ H R ⟨F, A, ρ, M, Q', ab, rs, h, k⟩ =>
  ⟨F, A, ρ, M, _, ab, rs, h, fun x w F1 A1 M1 H1 e1 ab1 rx h1 => by
    split at h1
    · obtain ⟨ds, hd, q⟩ := h1
      cases rx with
      | cons r t =>
        cases t
        have r := ab1.listD r hd
        obtain ⟨a, xs, rfl, sq, _⟩ := ab1.isList r
        exact ⟨a, xs, rfl, sq.sql, k _ _ F1 A1 M1 H1 e1 ab1 (ite_ok r) q⟩
    · exact h1.elim⟩
def dZip (tA : DT (List W)) : DT (List W) := fun ρ M Q => tA ρ M fun ws M1 => match ws with
  | [v, w] => ∃ ds es, listD M1 v = some ds ∧ listD M1 w = some es ∧ Q ((zipD ds es).map .d) M1
  | _ => False
theorem di_zip (hm : X.mg "zip" = none) (ha : DA X [e, e2] tA) (hg : Gl X "zip" := by rfl) (hs : starEach [e, e2] X.env = (false, eval e X.env) :: starEach [e2] X.env := by rfl) (hpl : (backTo pos (starEach [e2] X.env)).any (·.1) = false := by rfl) : DI X (.Tuple elts kk tpos) (.Call (.Name "zip" p) [e, e2] [] pos) (dZip tA) :=
  PI.imp (pi_zip hg hm ha hs hpl) fun σ H R ⟨F, A, ρ, M, Q', ab, rs, h, k⟩ =>
  ⟨F, A, ρ, M, _, ab, rs, h, fun x w F1 A1 M1 H1 e1 ab1 rx h1 => by
    split at h1
    · obtain ⟨ds, es, hd, he, q⟩ := h1
      cases rx with
      | cons r t =>
        cases t with
        | cons r' t =>
          cases t
          have r := ab1.listD r hd
          have r' := ab1.listD r' he
          obtain ⟨a, xs, rfl, sq, _⟩ := ab1.isList r
          obtain ⟨b, ys, rfl, sq', _⟩ := ab1.isList r'
          exact ⟨a, b, xs, ys, rfl, sq.sql, sq'.sql, k _ _ F1 A1 M1 H1 e1 ab1 (itz_ok r r') q⟩
    · exact h1.elim⟩

/-! ### targets of loops and comprehensions: names, tuples of them -/
def SndG (K : PySem.W.Frag) (g : TG) (dg : DTG) (vs : List Nat) : Prop := ∀ F A M H x w σ ρ Q' Q, Abs K F A M H → Paired (RepO K F A) σ ρ → RepW K F A x w → dg w ρ M Q' →
  (∀ σ' ρ' F' A' M' H', Ext F A H F' A' H' → Abs K F' A' M' H' → Paired (RepO K F' A') σ' ρ' → wipe σ' vs = wipe σ vs → Q' ρ' M' → Q σ' H') → g x σ H Q
def SndGs (K : PySem.W.Frag) (g : TGs) (dg : DTGs) (vs : List Nat) : Prop := ∀ F A M H xs ws σ ρ Q' Q, Abs K F A M H → Paired (RepO K F A) σ ρ → Paired (RepW K F A) xs ws → dg ws ρ M Q' →
  (∀ σ' ρ' F' A' M' H', Ext F A H F' A' H' → Abs K F' A' M' H' → Paired (RepO K F' A') σ' ρ' → wipe σ' vs = wipe σ vs → Q' ρ' M' → Q σ' H') → g xs σ H Q
theorem wipe_get (σ : L2.St) (j : Nat) : ∀ vs : List Nat, (wipe σ vs)[j]? = if j ∈ vs then σ[j]?.map (fun _ => none) else σ[j]?
  | [] => by simp [wipe]
  | v :: vs => by
    show ((wipe σ vs).set v none)[j]? = _
    rw [List.getElem?_set, wipe_get σ j vs]
    have hl := wipe_length σ vs
    by_cases e : v = j
    · subst e
      rw [if_pos rfl, if_pos List.mem_cons_self]
      rcases Nat.lt_or_ge v σ.length with q | q
      · rw [if_pos (by rw [hl]; exact q), List.getElem?_eq_getElem q]; rfl
      · rw [if_neg (by rw [hl]; omega), List.getElem?_eq_none q]; rfl
    · rw [if_neg e]
      by_cases hj : j ∈ vs
      · rw [if_pos hj, if_pos (List.mem_cons_of_mem _ hj)]
      · rw [if_neg hj, if_neg]
        exact fun z => (List.mem_cons.mp z).elim (fun z => e z.symm) hj
theorem wipe_set {σ : L2.St} {i : Nat} {x : Option V} {vs : List Nat} (h : i ∈ vs) : wipe (σ.set i x) vs = wipe σ vs := by
  apply List.ext_getElem?
  intro j
  rw [wipe_get, wipe_get]
  by_cases hj : j ∈ vs
  · rw [if_pos hj, if_pos hj, List.getElem?_set]
    by_cases e : i = j
    · subst e
      rw [if_pos rfl]
      rcases Nat.lt_or_ge i σ.length with q | q
      · rw [if_pos q, List.getElem?_eq_getElem q]; rfl
      · rw [if_neg (by omega), List.getElem?_eq_none q]
    · rw [if_neg e]
  · rw [if_neg hj, if_neg hj, List.getElem?_set_ne]
    rintro rfl
    exact hj h
theorem sg_name {K : PySem.W.Frag} {i : Nat} {vs : List Nat} (h : i ∈ vs) : SndG K (gName i) (gN i) vs := fun F A M H x w σ ρ Q' Q ab rs rx q k => k _ _ F A M H .refl ab (paired_set (show RepO K F A (some x) (some w) from rx) i rs) (wipe_set h) q
theorem sgs_nil {K : PySem.W.Frag} {vs : List Nat} : SndGs K gNil gsNil vs := fun F A M H xs ws σ ρ Q' Q ab rs rx ⟨e, q⟩ k => by
  subst e
  cases rx
  exact ⟨rfl, k _ _ F A M H .refl ab rs rfl q⟩
theorem sgs_cons {K : PySem.W.Frag} {g : TG} {dg : DTG} {u : TGs} {du : DTGs} {vs : List Nat} (h1 : SndG K g dg vs) (h2 : SndGs K u du vs) : SndGs K (gCons g u) (gsCons dg du) vs := fun F A M H xs ws σ ρ Q' Q ab rs rx q k => by
  cases ws with
  | nil => exact q.elim
  | cons w r =>
    cases rx with
    | cons r1 rr => exact ⟨_, _, rfl, h1 F A M H _ w σ ρ _ _ ab rs r1 q fun σ1 ρ1 F1 A1 M1 H1 e1 ab1 rs1 w1 q1 => h2 F1 A1 M1 H1 _ r σ1 ρ1 _ _ ab1 rs1 (repsW_ext e1 rr) q1 fun σ2 ρ2 F2 A2 M2 H2 e2 ab2 rs2 w2 q2 => k σ2 ρ2 F2 A2 M2 H2 (e1.trans e2) ab2 rs2 (w2.trans w1) q2⟩
theorem sg_tup {K : PySem.W.Frag} {n : Nat} {u : TGs} {du : DTGs} {vs : List Nat} (h : SndGs K u du vs) : SndG K (gTup K n u) (gT n du) vs := fun F A M H x w σ ρ Q' Q ab rs rx ⟨ws, hw, hl, q⟩ k => by
  obtain ⟨a, xs, rfl, s1, r1⟩ := ab.tupW rx hw
  exact ⟨a, xs, rfl, s1, by rw [Paired.length r1]; exact hl, h F A M H xs ws σ ρ Q' Q ab rs r1 q k⟩
theorem lift_g {K : PySem.W.Frag} {g : TG} {dg : DTG} {vs : List Nat} (s : SndG K g dg vs) (v : V) (σ : L2.St) (H : Hp) (Q : L2.St → Hp → Prop) (q : liftG K dg v σ H Q) : g v σ H Q := by
  obtain ⟨F, A, ρ, M, w, Q', ab, rs, rv, h, k⟩ := q
  exact s F A M H v w σ ρ Q' Q ab rs rv h fun σ' ρ' F' A' M' H' e ab' rs' _ q => k σ' ρ' F' A' M' H' e ab' rs' q

/-! ### for -/
def dLoop (g : DTG) (tb : DTS) (D : DEnds) : List W → Rho → Mem → Prop
  | [], ρ, M => D.nx ρ M
  | w :: ws, ρ, M => ∃ N : Rho → Mem → Prop, (g w ρ M fun ρ1 M1 => tb { D with nx := N, ct := N, bk := D.nx } ρ1 M1) ∧ ∀ ρ' M', N ρ' M' → dLoop g tb D ws ρ' M'
def dFor (ti : DT (List W)) (g : DTG) (tb : DTS) : DTS := fun D ρ M => ti ρ M fun ws M1 => dLoop g tb D ws ρ M1
theorem ds_for {iter : Expr} {body : List Stmt} {ti : DT (List W)} {g : TG} {dg : DTG} {tb : DTS} {vs : List Nat} (hp : PassesOwn (model X.prog X.w) X.A X.env X.xe) (hc : X.calm = true) (hi : DI X tg iter ti) (hg : PG X tg g) (sg : SndG X.K g dg vs) (hb : DSs X body tb)
    (hs : ∀ x, foldedSetIterable iter X.env x = pure x := by intro _; rfl) : DS X (.For tg iter body [] pos) (dFor ti dg tb) := PS.imp (ps_for hp hc hi hg hb hs) fun D σ H ⟨F, A, ρ, M, D', ab, rs, h, k⟩ =>
  ⟨F, A, ρ, M, _, ab, rs, h, fun J ws F1 A1 M1 H1 e1 ab1 it h1 =>
    ⟨fun i m σ' H' => ∃ F' A' ρ' M', Ext F1 A1 H1 F' A' H' ∧ Abs X.K F' A' M' H' ∧ Paired (RepO X.K F' A') σ' ρ' ∧ i ≤ ws.length ∧ m = ws.length - i ∧ dLoop dg tb D' (ws.drop i) ρ' M',
      ⟨ws.length, F1, A1, ρ, M1, .refl, ab1, repsO_ext e1 rs, Nat.zero_le _, rfl, h1⟩, fun i m σ2 H2 ⟨F2, A2, ρ2, M2, e2, ab2, rs2, hi2, em, l2⟩ => by
      by_cases hlt : i < ws.length
      · rw [List.drop_eq_getElem_cons hlt] at l2
        obtain ⟨N, q, hN⟩ := l2
        obtain ⟨B, eB, _⟩ := e2.a
        obtain ⟨go, yl⟩ := it.go i F2 A2 M2 H2 _ e2.f ⟨B, eB⟩ ab2 (List.getElem?_eq_getElem hlt)
        refine .inr ⟨go, fun σ' H' => ∃ F' A' ρ' M', Ext F1 A1 H1 F' A' H' ∧ Abs X.K F' A' M' H' ∧ Paired (RepO X.K F' A') σ' ρ' ∧ N ρ' M', fun σ3 H3 ⟨F3, A3, ρ3, M3, e3, ab3, rs3, n3⟩ => ⟨ws.length - (i + 1), by omega, F3, A3, ρ3, M3, e3, ab3, rs3, hlt, rfl, hN _ _ n3⟩, fun x H3 hy => ?_⟩
        obtain ⟨F3, e3, ab3, r3⟩ := yl x H3 hy
        refine sg F3 A2 M2 H3 x _ σ2 ρ2 _ _ ab3 (repsO_ext e3 rs2) r3 q fun σ4 ρ4 F4 A4 M4 H4 e4 ab4 rs4 _ q4 => ?_
        have e14 := e2.trans (e3.trans e4)
        have step : Fl X.K F4 A4 H4 N (fun σ' H' => ∃ F' A' ρ' M', Ext F1 A1 H1 F' A' H' ∧ Abs X.K F' A' M' H' ∧ Paired (RepO X.K F' A') σ' ρ' ∧ N ρ' M') := fun σ5 ρ5 F5 A5 M5 H5 e5 ab5 rs5 n5 => ⟨F5, A5, ρ5, M5, e14.trans e5, ab5, rs5, n5⟩
        have kk := k.ext (e1.trans e14)
        exact ⟨F4, A4, ρ4, M4, _, ab4, rs4, q4, ⟨step, kk.rt, kk.nx, step⟩⟩
      · have e : i = ws.length := by omega
        subst e
        rw [List.drop_length] at l2
        obtain ⟨B, eB, _⟩ := e2.a
        exact .inl ⟨it.stop _ F2 A2 M2 H2 e2.f ⟨B, eB⟩ ab2 (Nat.le_refl _), k.nx σ2 ρ2 F2 A2 M2 H2 (e1.trans e2) ab2 rs2 l2⟩⟩⟩

/-! ### comprehensions -/
def wipeW (ρ : Rho) : List Nat → Rho
  | [] => ρ
  | v :: vs => (wipeW ρ vs).set v none
theorem wipe_rep {K : PySem.W.Frag} {F : FM} {A : List Addr} {σ : L2.St} {ρ : Rho} (r : Paired (RepO K F A) σ ρ) : ∀ vs : List Nat, Paired (RepO K F A) (wipe σ vs) (wipeW ρ vs)
  | [] => r
  | v :: vs => paired_set (show RepO K F A none none from trivial) v (wipe_rep r vs)
def dCL (g : DTG) (tt : DT Bool) (te : DW) (ρ0 : Rho) (Q : List W → Mem → Prop) : List W → List W → Mem → Prop
  | [], acc, M => Q acc M
  | w :: ws, acc, M => ∃ N : List W → Mem → Prop, (g w ρ0 M fun ρ1 M1 => tt ρ1 M1 fun b M2 => if b = true then te ρ1 M2 fun y M3 => acc.length < sizeLine ∧ N (acc ++ [y]) M3 else N acc M2) ∧ ∀ acc' M', N acc' M' → dCL g tt te ρ0 Q ws acc' M'
def dComp (o : Bool) (ti : DT (List W)) (g : DTG) (tt : DT Bool) (te : DW) (vs : List Nat) : DW := fun ρ M Q => ti ρ M fun ws M1 => dCL g tt te (wipeW ρ vs) (fun acc M' => mkL o acc M' Q) ws [] M1
def dYes : DT Bool := fun _ M Q => Q true M
abbrev DTs (X : Cx) (ifs : List Expr) (t : DT Bool) : Prop := PTs X ifs (liftB X.K t)
theorem PTs.imp {ifs : List Expr} {t t' : TT} (h : PTs X ifs t) (k : ∀ σ H Q, t' σ H Q → t σ H Q) : PTs X ifs t' := ⟨fun pins s σ H Q I q => h.run pins s σ H Q I (k σ H Q q)⟩
theorem dts_nil : DTs X [] dYes := PTs.imp pts_nil fun σ H Q ⟨F, A, ρ, M, Q', ab, rs, h, k⟩ => k _ _ F A M H .refl ab rfl h
theorem dts_one {c : Expr} {t : DT Bool} (h : DTe X c t) : DTs X [c] t := pts_one h
theorem mkL_or {o : Bool} {ws : List W} {M : Mem} {Q : W → Mem → Prop} (h : mkL o ws M Q) : (∃ ds, allD ws = some ds ∧ Q (.d (.list ds)) M) ∨ Q (.own M.length) (M ++ [.lst ws]) := by
  unfold mkL at h
  split at h
  · rename_i ds hd
    exact .inl ⟨ds, hd, h⟩
  · exact .inr h
theorem lift_comp {K : PySem.W.Frag} {o : Bool} {ti : DT (List W)} {g : TG} {dg : DTG} {tt : DT Bool} {te : DW} {vs : List Nat} (sg : SndG K g dg vs) (σ : L2.St) (H : Hp) (Q : VK) (q : liftW K (dComp o ti dg tt te vs) σ H Q) : tLc (liftI K ti) g (liftB K tt) (liftW K te) vs σ H Q := by
  obtain ⟨F, A, ρ, M, Q', ab, rs, h, k⟩ := q
  refine ⟨F, A, ρ, M, _, ab, rs, h, fun J ws F1 A1 M1 H1 e1 ab1 it h1 => fun D hD => ?_⟩
  have rs1 := repsO_ext e1 rs
  refine ⟨fun i m H' => ∃ F' A' M' acc xs, Ext F1 A1 H1 F' A' H' ∧ Abs K F' A' M' H' ∧ H' D = some (.lst xs) ∧ Paired (RepW K F' A') xs acc ∧ D ∉ A' ∧ F' D = none ∧ i ≤ ws.length ∧ m = ws.length - i ∧
      dCL dg tt te (wipeW ρ vs) (fun acc M' => mkL o acc M' Q') (ws.drop i) acc M', ⟨ws.length, F1, A1, M1, [], [], ?_, ab1.aside (ab1.fnone hD) (ab1.anone hD), upd_same, .nil, ab1.anone hD, ab1.fnone hD, Nat.zero_le _, rfl, h1⟩, ?_⟩
  · refine ⟨fun _ _ z => z, ⟨[], by simp, by simp⟩, fun b o z _ => by rw [upd_ne (ne_of_none z hD)]; exact z, fun b z => ?_, fun _ z => .inl z⟩
    by_cases eb : b = D
    · subst eb; exact hD
    · rw [upd_ne eb] at z; exact z
  · rintro i m H2 ⟨F2, A2, M2, acc, xs, e2, ab2, hd2, ra2, nA2, nF2, hi2, em, l2⟩
    obtain ⟨B, eB, hB⟩ := e2.a
    by_cases hlt : i < ws.length
    · rw [List.drop_eq_getElem_cons hlt] at l2
      obtain ⟨N, q, hN⟩ := l2
      obtain ⟨go, yl⟩ := it.go i F2 A2 M2 H2 _ e2.f ⟨B, eB⟩ ab2 (List.getElem?_eq_getElem hlt)
      refine .inr ⟨go, fun H' => ∃ F' A' M' acc xs, Ext F1 A1 H1 F' A' H' ∧ Abs K F' A' M' H' ∧ H' D = some (.lst xs) ∧ Paired (RepW K F' A') xs acc ∧ D ∉ A' ∧ F' D = none ∧ N acc M',
        fun H3 ⟨F3, A3, M3, acc3, xs3, e3, ab3, d3, r3, nA3, nF3, n3⟩ => ⟨ws.length - (i + 1), by omega, F3, A3, M3, acc3, xs3, e3, ab3, d3, r3, nA3, nF3, hlt, rfl, hN _ _ n3⟩, fun x H3 hy => ?_⟩
      obtain ⟨F3, e3, ab3, r3⟩ := yl x H3 hy
      refine sg F3 A2 M2 H3 x _ _ _ _ _ ab3 (repsO_ext e3 (wipe_rep (repsO_ext e2 rs1) vs)) r3 q fun σ4 ρ4 F4 A4 M4 H4 e4 ab4 rs4 w4 q4 => ?_
      have ww : wipe (wipe σ vs) vs = wipe σ vs := by
        apply List.ext_getElem?
        intro j
        rw [wipe_get, wipe_get]
        by_cases hj : j ∈ vs
        · rw [if_pos hj, if_pos hj]
          cases σ[j]? <;> rfl
        · rw [if_neg hj, if_neg hj]
      refine ⟨w4.trans ww, F4, A4, ρ4, M4, _, ab4, rs4, q4, fun b b' F5 A5 M5 H5 e5 ab5 rb q5 => ?_⟩
      subst rb
      -- the new list stands all the time
      have stand : ∀ {F' : FM} {A' : List Addr} {M' : Mem} {H' : Hp}, Ext F2 A2 H2 F' A' H' → Abs K F' A' M' H' → H' D = some (.lst xs) ∧ Paired (RepW K F' A') xs acc ∧ D ∉ A' ∧ F' D = none := fun {F' A' M' H'} e ab' => by
        refine ⟨e.keep D _ hd2 nA2, repsW_ext e ra2, fun hm => ?_, ?_⟩
        · obtain ⟨C, rfl, hC⟩ := e.a
          rcases List.mem_append.mp hm with z | z
          · exact nA2 z
          · have z' := hC D z
            rw [hd2] at z'
            cases z'
        · cases hq : F' D with
          | none => rfl
          | some y =>
            rcases e.fn D (by rw [hq]; exact fun z => nomatch z) with z | z | z
            · exact absurd nF2 z
            · rw [hd2] at z; cases z
            · exact absurd z nA2
      have e35 := e3.trans (e4.trans e5)
      cases b with
      | false =>
        rw [if_neg Bool.false_ne_true] at q5
        obtain ⟨s1, s2, s3, s4⟩ := stand e35 ab5
        exact iteF ⟨F5, A5, M5, acc, xs, e2.trans e35, ab5, s1, s2, s3, s4, q5⟩
      | true =>
        rw [if_pos rfl] at q5
        refine iteT ⟨F5, A5, ρ4, M5, _, ab5, repsO_ext e5 rs4, q5, fun y wy F6 A6 M6 H6 e6 ab6 ry q6 => ?_⟩
        obtain ⟨s1, s2, s3, s4⟩ := stand (e35.trans e6) ab6
        have e16 := e2.trans (e35.trans e6)
        refine ⟨xs, s1, by rw [Paired.length s2]; exact q6.1, F6, A6, M6, acc ++ [wy], xs ++ [y], ?_, ab6.aside s4 s3, upd_same, paired_append s2 (.cons ry .nil), s3, s4, q6.2⟩
        refine ⟨e16.f, e16.a, fun b o z hb => by rw [upd_ne (ne_of_none z hD)]; exact e16.keep b o z hb, fun b z => ?_, e16.fn⟩
        by_cases eb : b = D
        · subst eb; exact hD
        · rw [upd_ne eb] at z; exact e16.dom b z
    · have ei : i = ws.length := by omega
      subst ei
      rw [List.drop_length] at l2
      refine .inl ⟨it.stop _ F2 A2 M2 H2 e2.f ⟨B, eB⟩ ab2 (Nat.le_refl _), ?_⟩
      have l2 : mkL o acc M2 Q' := l2
      rcases mkL_or l2 with ⟨ds, hds, l2⟩ | l2
      · have e3 : Ext F1 A1 H1 (setF F2 D (.list ds)) A2 H2 := by
          refine ⟨fun a y z => ?_, e2.a, e2.keep, e2.dom, fun b z => ?_⟩
          · have z' := e2.f a y z
            rw [setF_ne]
            · exact z'
            · rintro rfl; rw [nF2] at z'; cases z'
          · by_cases eb : b = D
            · subst eb; exact .inr (.inl hD)
            · rw [setF_ne eb] at z; exact e2.fn b z
        exact k (.ref D) (.d (.list ds)) _ A2 M2 H2 (e1.trans e3) (ab2.adoptD hd2 nF2 nA2 (repsF hds ra2)) (show _ ∨ _ from .inl setF_same) l2
      · obtain ⟨ab3, hi3⟩ := ab2.adoptC hd2 nF2 nA2 ra2
        have e3 : Ext F1 A1 H1 F2 (A2 ++ [D]) H2 := by
          refine ⟨e2.f, ⟨B ++ [D], by rw [eB, List.append_assoc], fun b hb => ?_⟩, e2.keep, e2.dom, e2.fn⟩
          rcases List.mem_append.mp hb with hb | hb
          · exact hB b hb
          · rw [List.mem_singleton.mp hb]; exact hD
        exact k (.ref D) (.own M2.length) F2 _ _ H2 (e1.trans e3) ab3 hi3 l2
theorem de_lc (o : Bool) {elt iter : Expr} {ifs : List Expr} {scope : Scope} {own : List (Str × Nat)} {vs : List Nat} {ti : DT (List W)} {g : TG} {dg : DTG} {tt : DT Bool} {te : DW} (hc : X.calm = true) (hN : X.N.Nodup) (hi : DI X tg iter ti) (ok : BlkOk X.N X.env.scope scope own)
    (hg : ∀ (s : Shared) (H : Hp) (C : Addr) (cl : List (Str × Addr)) (fp : List Addr), PG (X.blk s H scope (compEnvC scope cl C X.env) fp) tg g) (sg : SndG X.K g dg vs)
    (ht : ∀ (s : Shared) (H : Hp) (C : Addr) (cl : List (Str × Addr)) (fp : List Addr), DTs (X.blk s H scope (compEnvC scope cl C X.env) fp) ifs tt)
    (he : ∀ (s : Shared) (H : Hp) (C : Addr) (cl : List (Str × Addr)) (fp : List Addr), DE (X.blk s H scope (compEnvC scope cl C X.env) fp) elt te) (hs : ∀ x, foldedSetIterable iter X.env x = pure x := by intro _; rfl) (hv : own.map (·.2) = vs := by rfl) :
    DE X (.ListComp elt [⟨tg, iter, ifs, 0⟩] scope pos) (dComp o ti dg tt te vs) := by
  subst hv
  exact PE.imp (pe_lc hc hN hi ok hg ht he hs) (lift_comp sg)
/-- name = [..] on one line -/
theorem ds_setLc (o : Bool) {i : Nat} {y : Str} {py spos : Pos} {elt iter : Expr} {ifs : List Expr} {scope : Scope} {own : List (Str × Nat)} {vs : List Nat} {ti : DT (List W)} {g : TG} {dg : DTG} {tt : DT Bool} {te : DW} (hc : X.calm = true) (hN : X.N.Nodup) (hy : X.N[i]? = some y) (hyl : X.env.scope.names.lookup y = some .local)
    (hsw : swapsWith (.ListComp elt [⟨tg, iter, ifs, 0⟩] scope pos) (some (.Name y py)) spos.line X.env = pure true) (hi : DI X tg iter ti) (ok : BlkOk X.N X.env.scope scope own)
    (hg : ∀ (s : Shared) (H : Hp) (C : Addr) (cl : List (Str × Addr)) (fp : List Addr), PG (X.blk s H scope (compEnvC scope cl C X.env) fp) tg g) (sg : SndG X.K g dg vs)
    (ht : ∀ (s : Shared) (H : Hp) (C : Addr) (cl : List (Str × Addr)) (fp : List Addr), DTs (X.blk s H scope (compEnvC scope cl C X.env) fp) ifs tt)
    (he : ∀ (s : Shared) (H : Hp) (C : Addr) (cl : List (Str × Addr)) (fp : List Addr), DE (X.blk s H scope (compEnvC scope cl C X.env) fp) elt te) (hs : ∀ x, foldedSetIterable iter X.env x = pure x := by intro _; rfl) (hv : own.map (·.2) = vs := by rfl) :
    DS X (.Assign [.Name y py] (.ListComp elt [⟨tg, iter, ifs, 0⟩] scope pos) spos) (dAsg (dComp o ti dg tt te vs) (gN i)) := by
  subst hv
  exact PS.imp (ps_setLc hc hN hy hyl hsw hi ok hg ht he hs) fun D σ H ⟨F, A, ρ, M, D', ab, rs, h, k⟩ => lift_comp sg σ H _ ⟨F, A, ρ, M, _, ab, rs, h, fun x w F1 A1 M1 H1 e1 ab1 rx h1 => k.nx _ _ _ _ _ _ e1 ab1 (paired_set (show RepO X.K F1 A1 (some x) (some w) from rx) i (repsO_ext e1 rs)) h1⟩
end
end DL

/-! DL7: built-ins and methods over data. -/
namespace DL
open PySem PySem.Spec L2

/-- the ints of a list of them -/
def asInts : List W → Option (List Int) := optAll fun w => match w with
  | .d (.int i) => some i
  | _ => none
def asBools : List W → Option (List Bool) := optAll fun w => match w with
  | .d (.bool i) => some i
  | _ => none
section
variable {K : PySem.W.Frag} {F : FM} {A : List Addr} {M : Mem} {H : Hp}
theorem asInts_rep : ∀ {ws : List W} {xs : List V} {ns : List Int}, asInts ws = some ns → Paired (RepW K F A) xs ws → xs = ns.map .int
  | [], _, ns, h, .nil => by
    simp only [asInts, optAll, Option.some.injEq] at h
    subst h
    rfl
  | w :: ws, _, ns, h, .cons r t => by
    simp only [asInts, optAll] at h
    split at h
    · rename_i y ys h1 h2
      simp only [Option.some.injEq] at h
      subst h
      rw [asInts_rep (ws := ws) (ns := ys) h2 t]
      split at h1
      · simp only [Option.some.injEq] at h1
        subst h1
        rw [RepF.int r]; rfl
      · cases h1
    · cases h
theorem asBools_rep : ∀ {ws : List W} {xs : List V} {ns : List Bool}, asBools ws = some ns → Paired (RepW K F A) xs ws → xs = ns.map .bl
  | [], _, ns, h, .nil => by
    simp only [asBools, optAll, Option.some.injEq] at h
    subst h
    rfl
  | w :: ws, _, ns, h, .cons r t => by
    simp only [asBools, optAll] at h
    split at h
    · rename_i y ys h1 h2
      simp only [Option.some.injEq] at h
      subst h
      rw [asBools_rep (ws := ws) (ns := ys) h2 t]
      split at h1
      · simp only [Option.some.injEq] at h1
        subst h1
        rw [RepF.bool r]; rfl
      · cases h1
    · cases h
theorem asInts_map (ns : List Int) : asInts (ns.map dint) = some ns := by
  induction ns with
  | nil => rfl
  | cons n ns ih => simp only [asInts, List.map_cons, optAll] at ih ⊢; rw [ih]
theorem asBools_map (bs : List Bool) : asBools (bs.map fun b => .d (.bool b)) = some bs := by
  induction bs with
  | nil => rfl
  | cons n ns ih => simp only [asBools, List.map_cons, optAll] at ih ⊢; rw [ih]
theorem one_rep {xs : List V} {w : W} (r : Paired (RepW K F A) xs [w]) : ∃ x, xs = [x] ∧ RepW K F A x w := by
  cases r with
  | cons r t => cases t; exact ⟨_, rfl, r⟩
theorem two_rep {xs : List V} {v w : W} (r : Paired (RepW K F A) xs [v, w]) : ∃ x y, xs = [x, y] ∧ RepW K F A x v ∧ RepW K F A y w := by
  cases r with
  | cons r t => obtain ⟨y, rfl, r'⟩ := one_rep t; exact ⟨_, _, rfl, r, r'⟩
def lenOf (M : Mem) (w : W) : Option Nat := match listOf M w with
  | some ws => some ws.length
  | none => match tupOf M w with
    | some ws => some ws.length
    | none => match w with
      | .d (.str z) => if z.length ≤ sizeLine then some z.length else none
      | _ => none
theorem lenV_ok (ab : Abs K F A M H) {x : V} {w : W} {n : Nat} (r : RepW K F A x w) (h : lenOf M w = some n) : LenV K x H n := by
  unfold lenOf at h
  split at h
  · rename_i ws hw
    cases h
    obtain ⟨a, xs, rfl, s1, r1⟩ := ab.listW r hw
    exact .inl ⟨xs, s1.sql, (Paired.length r1).symm⟩
  · split at h
    · rename_i ws hw
      cases h
      obtain ⟨a, xs, rfl, s1, r1⟩ := ab.tupW r hw
      exact .inr ⟨xs, s1, (Paired.length r1).symm⟩
    · split at h
      · rename_i z
        split at h
        · rename_i hz
          cases h
          obtain rfl := RepF.str r
          exact ⟨hz, rfl⟩
        · cases h
      · cases h
end
section
variable {X : Cx}
def dLenR : DRN
  | [w], M, Q => ∃ n : Nat, lenOf M w = some n ∧ Q (.d (.int n)) M
  | _, _, _ => False
theorem sLen {K : PySem.W.Frag} : SndN K (fun xs H Q => ∃ x n, xs = [x] ∧ LenV K x H n ∧ Q (.int n) H) dLenR := by
  intro F A M H xs ws Q Q' ab r h k
  unfold dLenR at h
  split at h
  · obtain ⟨n, hn, q⟩ := h
    obtain ⟨x, rfl, rr⟩ := one_rep r
    replace r := rr
    exact ⟨x, n, rfl, lenV_ok ab r hn, post_d ab k (x := .int _) rfl q⟩
  · exact h.elim
def dAbsR : DRN
  | [.d (.int i)], M, Q => Q (.d (.int (if i < 0 then -i else i))) M
  | _, _, _ => False
theorem sAbs {K : PySem.W.Frag} : SndN K (fun xs H Q => ∃ i, xs = [.int i] ∧ Q (.int (if i < 0 then -i else i)) H) dAbsR := by
  intro F A M H xs ws Q Q' ab r h k
  unfold dAbsR at h
  split at h
  · exact ⟨_, one_int r, post_d ab k (x := .int _) rfl h⟩
  · exact h.elim
def dIntOfR : DRN
  | [.d (.int i)], M, Q => Q (.d (.int i)) M
  | [.d (.bool b)], M, Q => Q (.d (.int (if b then 1 else 0))) M
  | _, _, _ => False
theorem sIntOf {K : PySem.W.Frag} : SndN K (fun xs H Q => (∃ i, xs = [.int i] ∧ Q (.int i) H) ∨ ∃ k, xs = [.bl k] ∧ Q (.int (if k then 1 else 0)) H) dIntOfR := by
  intro F A M H xs ws Q Q' ab r h k
  unfold dIntOfR at h
  split at h
  · exact .inl ⟨_, one_int r, post_d ab k (x := .int _) rfl h⟩
  · obtain ⟨x, rfl, rr⟩ := one_rep r
    replace r := rr
    exact .inr ⟨_, by rw [RepF.bool r], post_d ab k (x := .int _) rfl h⟩
  · exact h.elim
/-- max, min: of two ints, or of a list of them -/
def dMaxR : DRN
  | [.d (.int i), .d (.int j)], M, Q => Q (.d (.int (if j > i then j else i))) M
  | [w], M, Q => ∃ ws ns, listOf M w = some ws ∧ asInts ws = some ns ∧ 0 < ns.length ∧ ∀ m, m ∈ ns → (∀ y ∈ ns, y ≤ m) → Q (.d (.int m)) M
  | _, _, _ => False
theorem sMax {K : PySem.W.Frag} : SndN K (fun xs H Q => (∃ i j, xs = [.int i, .int j] ∧ Q (.int (if j > i then j else i)) H) ∨ rMax K xs H Q) dMaxR := by
  intro F A M H xs ws Q Q' ab r h k
  unfold dMaxR at h
  split at h
  · exact .inl ⟨_, _, two_ints r, post_d ab k (x := .int _) rfl h⟩
  · obtain ⟨x, rfl, rr⟩ := one_rep r
    replace r := rr
    obtain ⟨ws, ns, h1, h2, h3, q⟩ := h
    obtain ⟨a, ys, rfl, s1, r1⟩ := ab.listW r h1
    obtain rfl := asInts_rep h2 r1
    exact .inr ⟨a, ns, rfl, s1.sql, h3, fun m h4 h5 => post_d ab k (x := .int _) rfl (q m h4 h5)⟩
  · exact h.elim
def dMinR : DRN
  | [.d (.int i), .d (.int j)], M, Q => Q (.d (.int (if j < i then j else i))) M
  | [w], M, Q => ∃ ws ns, listOf M w = some ws ∧ asInts ws = some ns ∧ 0 < ns.length ∧ ∀ m, m ∈ ns → (∀ y ∈ ns, m ≤ y) → Q (.d (.int m)) M
  | _, _, _ => False
theorem sMin {K : PySem.W.Frag} : SndN K (fun xs H Q => (∃ i j, xs = [.int i, .int j] ∧ Q (.int (if j < i then j else i)) H) ∨ rMin K xs H Q) dMinR := by
  intro F A M H xs ws Q Q' ab r h k
  unfold dMinR at h
  split at h
  · exact .inl ⟨_, _, two_ints r, post_d ab k (x := .int _) rfl h⟩
  · obtain ⟨x, rfl, rr⟩ := one_rep r
    replace r := rr
    obtain ⟨ws, ns, h1, h2, h3, q⟩ := h
    obtain ⟨a, ys, rfl, s1, r1⟩ := ab.listW r h1
    obtain rfl := asInts_rep h2 r1
    exact .inr ⟨a, ns, rfl, s1.sql, h3, fun m h4 h5 => post_d ab k (x := .int _) rfl (q m h4 h5)⟩
  · exact h.elim
def dSumR : DRN
  | [w], M, Q => ∃ ws ns, listOf M w = some ws ∧ asInts ws = some ns ∧ Q (.d (.int ns.sum)) M
  | _, _, _ => False
theorem sSum {K : PySem.W.Frag} : SndN K (rSum K) dSumR := by
  intro F A M H xs ws Q Q' ab r h k
  unfold dSumR at h
  split at h
  · obtain ⟨x, rfl, rr⟩ := one_rep r
    replace r := rr
    obtain ⟨ws, ns, h1, h2, q⟩ := h
    obtain ⟨a, ys, rfl, s1, r1⟩ := ab.listW r h1
    obtain rfl := asInts_rep h2 r1
    exact ⟨a, ns, rfl, s1.sql, post_d ab k (x := .int _) rfl q⟩
  · exact h.elim
def dAllR (f : List Bool → Bool) : DRN
  | [w], M, Q => ∃ ws bs, listOf M w = some ws ∧ asBools ws = some bs ∧ Q (.d (.bool (f bs))) M
  | _, _, _ => False
theorem sAll {K : PySem.W.Frag} : SndN K (rAll K) (dAllR fun bs => bs.all id) := by
  intro F A M H xs ws Q Q' ab r h k
  unfold dAllR at h
  split at h
  · obtain ⟨x, rfl, rr⟩ := one_rep r
    replace r := rr
    obtain ⟨ws, ns, h1, h2, q⟩ := h
    obtain ⟨a, ys, rfl, s1, r1⟩ := ab.listW r h1
    obtain rfl := asBools_rep h2 r1
    exact ⟨a, ns, rfl, s1.sql, post_d ab k (x := .bool _) rfl q⟩
  · exact h.elim
theorem sAny {K : PySem.W.Frag} : SndN K (rAny K) (dAllR fun bs => bs.any id) := by
  intro F A M H xs ws Q Q' ab r h k
  unfold dAllR at h
  split at h
  · obtain ⟨x, rfl, rr⟩ := one_rep r
    replace r := rr
    obtain ⟨ws, ns, h1, h2, q⟩ := h
    obtain ⟨a, ys, rfl, s1, r1⟩ := ab.listW r h1
    obtain rfl := asBools_rep h2 r1
    exact ⟨a, ns, rfl, s1.sql, post_d ab k (x := .bool _) rfl q⟩
  · exact h.elim
theorem reps_ints {K : PySem.W.Frag} {F : FM} {A : List Addr} : ∀ ns : List Int, Paired (RepW K F A) (ns.map .int) (ns.map dint)
  | [] => .nil
  | _ :: t => .cons rfl (reps_ints t)
/-- sorted of ints -/
def dSortI (o : Bool) : DRN
  | [w], M, Q => ∃ ws ns, listOf M w = some ws ∧ asInts ws = some ns ∧ ∀ ns' : List Int, ns'.Perm ns → ns'.Pairwise (· ≤ ·) → mkL o (ns'.map dint) M Q
  | _, _, _ => False
theorem sSortI {K : PySem.W.Frag} (o : Bool) : SndN K (rSortedI K) (dSortI o) := by
  intro F A M H xs ws Q Q' ab r h k
  unfold dSortI at h
  split at h
  · obtain ⟨x, rfl, rr⟩ := one_rep r
    replace r := rr
    obtain ⟨ws, ns, h1, h2, q⟩ := h
    obtain ⟨a, ys, rfl, s1, r1⟩ := ab.listW r h1
    obtain rfl := asInts_rep h2 r1
    exact ⟨a, ns, rfl, s1.sql, fun ns' p h3 h4 hp => mkL_ok ab k (reps_ints ns') (q ns' h3 h4) hp⟩
  · exact h.elim
/-- list(x) -/
def dListOf (o : Bool) : DRN
  | [w], M, Q => ∃ ws, (listOf M w = some ws ∨ tupOf M w = some ws) ∧ mkL o ws M Q
  | _, _, _ => False
theorem sListOf {K : PySem.W.Frag} (o : Bool) : SndN K (fun xs H Q => ∃ p ys, xs = [.ref p] ∧ (SqL K H p ys ∨ SqT K H p ys) ∧ ∀ l, H l = none → Q (.ref l) (upd H l (.lst ys))) (dListOf o) := by
  intro F A M H xs ws Q Q' ab r h k
  unfold dListOf at h
  split at h
  · obtain ⟨x, rfl, rr⟩ := one_rep r
    replace r := rr
    obtain ⟨ws, h1, q⟩ := h
    rcases h1 with h1 | h1
    · obtain ⟨a, ys, rfl, s1, r1⟩ := ab.listW r h1
      exact ⟨a, ys, rfl, .inl s1.sql, fun l hl => mkL_ok ab k r1 q hl⟩
    · obtain ⟨a, ys, rfl, s1, r1⟩ := ab.tupW r h1
      exact ⟨a, ys, rfl, .inr s1, fun l hl => mkL_ok ab k r1 q hl⟩
  · exact h.elim
/-- tuple(x) -/
def dTupOf : DRN
  | [w], M, Q => (∃ ws, listOf M w = some ws ∧ mkT ws M Q) ∨ (∃ ws, tupOf M w = some ws ∧ Q w M)
  | _, _, _ => False
theorem sTupOf {K : PySem.W.Frag} : SndN K (fun xs H Q => ∃ p ys, xs = [.ref p] ∧ ((SqL K H p ys ∧ ∀ l, H l = none → Q (.ref l) (upd H l (.tup ys))) ∨ (SqT K H p ys ∧ Q (.ref p) H))) dTupOf := by
  intro F A M H xs ws Q Q' ab r h k
  unfold dTupOf at h
  split at h
  · obtain ⟨x, rfl, rr⟩ := one_rep r
    replace r := rr
    rcases h with ⟨ws, h1, q⟩ | ⟨ws, h1, q⟩
    · obtain ⟨a, ys, rfl, s1, r1⟩ := ab.listW r h1
      exact ⟨a, ys, rfl, .inl ⟨s1.sql, fun l hl => mkT_ok ab k r1 q hl⟩⟩
    · obtain ⟨a, ys, rfl, s1, r1⟩ := ab.tupW r h1
      exact ⟨a, ys, rfl, .inr ⟨s1, k _ _ F A M H .refl ab r q⟩⟩
  · exact h.elim

/-- isinstance -/
inductive Kd | non | bl | int | str | lst | tup
def kdOf (M : Mem) : W → Option Kd
  | .d .none => some .non
  | .d (.bool _) => some .bl
  | .d (.int _) => some .int
  | .d (.str _) => some .str
  | .d (.list _) => some .lst
  | .d (.tuple _) => some .tup
  | .own i => match M[i]? with
    | some (.lst _) => some .lst
    | some (.tup _) => some .tup
    | some (.frz (.list _)) => some .lst
    | some (.frz (.tuple _)) => some .tup
    | _ => none
  | _ => none
def Kd.name : Kd → String
  | .non => "NoneType" | .bl => "bool" | .int => "int" | .str => "str" | .lst => "list" | .tup => "tuple"
theorem fz_ty {K : PySem.W.Frag} {F : FM} {A : List Addr} {M : Mem} {H : Hp} (ab : Abs K F A M H) {x : V} {ds : List PyData} : (RepF K F x (.list ds) → TyX K H x (.type "list")) ∧ (RepF K F x (.tuple ds) → TyX K H x (.type "tuple")) := by
  refine ⟨fun r => ?_, fun r => ?_⟩
  · obtain ⟨a, xs, rfl, s1, _⟩ := ab.isList r
    rcases s1 with (h | ⟨o, h⟩) | ⟨its, h, _, _⟩
    · exact .base (.lst h)
    · exact .base (.frz h)
    · exact .kList h rfl
  · obtain ⟨a, xs, rfl, s1, _⟩ := ab.isTup r
    rcases s1 with (h | ⟨o, h⟩) | ⟨o, its, n, h, hc, _⟩
    · exact .base (.tup h)
    · exact .fTuple h
    · exact .kTuple h hc
theorem kd_ty {K : PySem.W.Frag} {F : FM} {A : List Addr} {M : Mem} {H : Hp} (ab : Abs K F A M H) {x : V} {w : W} {d : Kd} (r : RepW K F A x w) (h : kdOf M w = some d) : TyX K H x (.type d.name) := by
  cases w with
  | raw v => cases h
  | own i =>
    obtain ⟨a, rfl, ha⟩ := r.own
    obtain ⟨c, hc, hcl⟩ := ab.cell ha
    simp only [kdOf, hc] at h
    cases c with
    | lst ws =>
      simp only [Option.some.injEq] at h
      subst h
      obtain ⟨_, o, ho, hr⟩ := hcl
      cases o <;> simp only [CellRep] at hr
      exact .base (.lst ho)
    | tup ws =>
      simp only [Option.some.injEq] at h
      subst h
      obtain ⟨_, o, ho, hr⟩ := hcl
      cases o <;> simp only [CellRep] at hr
      exact .base (.tup ho)
    | frz y =>
      have hf : F a = some y := hcl
      have z := ab.fz a y hf
      cases y <;> simp only [FzOk] at z
      · simp only [Option.some.injEq] at h
        subst h
        exact (fz_ty ab).1 (show _ ∨ _ from .inl hf)
      · simp only [Option.some.injEq] at h
        subst h
        exact (fz_ty ab).2 hf
  | d y =>
    cases y <;> simp only [kdOf, Option.some.injEq, reduceCtorEq] at h <;> subst h
    · obtain rfl := RepF.none r; exact .base .non
    · obtain rfl := RepF.bool r; exact .base (.bl _)
    · obtain rfl := RepF.int r; exact .base (.int _)
    · obtain rfl := RepF.str r; exact .base (.str _)
    · exact (fz_ty ab).1 r
    · exact (fz_ty ab).2 r
/-- which kinds are of the class T -/
def dIsi (T : String) (f : Kd → Bool) : DRN
  | [w, .raw (.ty T')], M, Q => T' = T ∧ ∃ d, kdOf M w = some d ∧ Q (.d (.bool (f d))) M
  | _, _, _ => False
theorem sIsi {K : PySem.W.Frag} {T : String} {f : Kd → Bool} (hf : ∀ d : Kd, kitB d.name T = some (f d)) : SndN K (rIsi K) (dIsi T f) := by
  intro F A M H xs ws Q Q' ab r h k
  unfold dIsi at h
  split at h
  · obtain ⟨x, y, rfl, rr, r'⟩ := two_rep r
    replace r := rr
    obtain ⟨rfl, d, hd, q⟩ := h
    simp only [RepW] at r'
    subst r'
    exact ⟨x, _, _, _, f d, rfl, .ty _, kd_ty ab r hd, kit_ty (hf d), post_d ab k (x := .bool _) rfl q⟩
  · exact h.elim
def Kd.isInt : Kd → Bool | .bl => true | .int => true | _ => false
def Kd.isBool : Kd → Bool | .bl => true | _ => false
def Kd.isList : Kd → Bool | .lst => true | _ => false
def Kd.isTup : Kd → Bool | .tup => true | _ => false
def Kd.isStr : Kd → Bool | .str => true | _ => false
theorem kit_int (d : Kd) : kitB d.name "int" = some d.isInt := by cases d <;> decide +kernel
theorem kit_bool (d : Kd) : kitB d.name "bool" = some d.isBool := by cases d <;> decide +kernel
theorem kit_list (d : Kd) : kitB d.name "list" = some d.isList := by cases d <;> decide +kernel
theorem kit_tup (d : Kd) : kitB d.name "tuple" = some d.isTup := by cases d <;> decide +kernel
theorem kit_str (d : Kd) : kitB d.name "str" = some d.isStr := by cases d <;> decide +kernel

variable {a b : Expr} {es : List Expr} {ta tb : DW} {tA : DT (List W)} {p pos : Pos}
theorem boot_sum : bootBuiltins "sum" = some (.builtin "sum") := by decide +kernel
theorem boot_max : bootBuiltins "max" = some (.builtin "max") := by decide +kernel
theorem boot_min : bootBuiltins "min" = some (.builtin "min") := by decide +kernel
theorem boot_all : bootBuiltins "all" = some (.builtin "all") := by decide +kernel
theorem boot_any : bootBuiltins "any" = some (.builtin "any") := by decide +kernel
theorem boot_abs : bootBuiltins "abs" = some (.builtin "abs") := by decide +kernel
theorem boot_int : bootBuiltins "int" = some (.type "int") := by decide +kernel
theorem boot_bool : bootBuiltins "bool" = some (.type "bool") := by decide +kernel
theorem boot_str : bootBuiltins "str" = some (.type "str") := by decide +kernel
theorem boot_lst : bootBuiltins "list" = some (.type "list") := by decide +kernel
theorem boot_tup : bootBuiltins "tuple" = some (.type "tuple") := by decide +kernel
theorem boot_srt : bootBuiltins "sorted" = some (.builtin "sorted") := by decide +kernel
theorem boot_isi : bootBuiltins "isinstance" = some (.builtin "isinstance") := by decide +kernel
theorem de_len (hm : X.mg "len" = none) (ha : DA X (a :: es) tA) (hg : Gl X "len" := by rfl) (he : starEach (a :: es) X.env = (false, eval a X.env) :: starEach es X.env := by rfl) (hpl : (backTo pos (starEach es X.env)).any (·.1) = false := by rfl) : DE X (.Call (.Name "len" p) (a :: es) [] pos) (dCB dLenR tA) := de_callB call_len sLen hm PySem.boot_len ha hg (by decide) (by decide) he hpl
theorem de_abs (hm : X.mg "abs" = none) (ha : DA X (a :: es) tA) (hg : Gl X "abs" := by rfl) (he : starEach (a :: es) X.env = (false, eval a X.env) :: starEach es X.env := by rfl) (hpl : (backTo pos (starEach es X.env)).any (·.1) = false := by rfl) : DE X (.Call (.Name "abs" p) (a :: es) [] pos) (dCB dAbsR tA) := de_callB call_abs sAbs hm boot_abs ha hg (by decide) (by decide) he hpl
theorem de_intOf (hm : X.mg "int" = none) (ha : DA X (a :: es) tA) (hg : Gl X "int" := by rfl) (he : starEach (a :: es) X.env = (false, eval a X.env) :: starEach es X.env := by rfl) (hpl : (backTo pos (starEach es X.env)).any (·.1) = false := by rfl) : DE X (.Call (.Name "int" p) (a :: es) [] pos) (dCB dIntOfR tA) := de_callTy call_int1 sIntOf hm boot_int ha hg (by decide) (by decide) he hpl
theorem de_max (hc : X.calm = true) (hm : X.mg "max" = none) (ha : DA X (a :: es) tA) (hg : Gl X "max" := by rfl) (he : starEach (a :: es) X.env = (false, eval a X.env) :: starEach es X.env := by rfl) (hpl : (backTo pos (starEach es X.env)).any (·.1) = false := by rfl) : DE X (.Call (.Name "max" p) (a :: es) [] pos) (dCB dMaxR tA) := de_callB (CallR.or (call_max2 hc) (cr_max hc)) sMax hm boot_max ha hg (by decide) (by decide) he hpl
theorem de_min (hc : X.calm = true) (hm : X.mg "min" = none) (ha : DA X (a :: es) tA) (hg : Gl X "min" := by rfl) (he : starEach (a :: es) X.env = (false, eval a X.env) :: starEach es X.env := by rfl) (hpl : (backTo pos (starEach es X.env)).any (·.1) = false := by rfl) : DE X (.Call (.Name "min" p) (a :: es) [] pos) (dCB dMinR tA) := de_callB (CallR.or (call_min2 hc) (cr_min hc)) sMin hm boot_min ha hg (by decide) (by decide) he hpl
theorem de_sum (hc : X.calm = true) (hm : X.mg "sum" = none) (ha : DA X (a :: es) tA) (hg : Gl X "sum" := by rfl) (he : starEach (a :: es) X.env = (false, eval a X.env) :: starEach es X.env := by rfl) (hpl : (backTo pos (starEach es X.env)).any (·.1) = false := by rfl) : DE X (.Call (.Name "sum" p) (a :: es) [] pos) (dCB dSumR tA) := de_callB (cr_sum hc) sSum hm boot_sum ha hg (by decide) (by decide) he hpl
theorem de_all (hc : X.calm = true) (hm : X.mg "all" = none) (ha : DA X (a :: es) tA) (hg : Gl X "all" := by rfl) (he : starEach (a :: es) X.env = (false, eval a X.env) :: starEach es X.env := by rfl) (hpl : (backTo pos (starEach es X.env)).any (·.1) = false := by rfl) : DE X (.Call (.Name "all" p) (a :: es) [] pos) (dCB (dAllR fun bs => bs.all id) tA) := de_callB (cr_all hc) sAll hm boot_all ha hg (by decide) (by decide) he hpl
theorem de_any (hc : X.calm = true) (hm : X.mg "any" = none) (ha : DA X (a :: es) tA) (hg : Gl X "any" := by rfl) (he : starEach (a :: es) X.env = (false, eval a X.env) :: starEach es X.env := by rfl) (hpl : (backTo pos (starEach es X.env)).any (·.1) = false := by rfl) : DE X (.Call (.Name "any" p) (a :: es) [] pos) (dCB (dAllR fun bs => bs.any id) tA) := de_callB (cr_any hc) sAny hm boot_any ha hg (by decide) (by decide) he hpl
theorem de_sorted (o : Bool) (hm : X.mg "sorted" = none) (ha : DA X (a :: es) tA) (hg : Gl X "sorted" := by rfl) (he : starEach (a :: es) X.env = (false, eval a X.env) :: starEach es X.env := by rfl) (hpl : (backTo pos (starEach es X.env)).any (·.1) = false := by rfl) : DE X (.Call (.Name "sorted" p) (a :: es) [] pos) (dCB (dSortI o) tA) := de_callB cr_sortedI (sSortI o) hm boot_srt ha hg (by decide) (by decide) he hpl
theorem de_listOf (o : Bool) (hm : X.mg "list" = none) (ha : DA X (a :: es) tA) (hg : Gl X "list" := by rfl) (he : starEach (a :: es) X.env = (false, eval a X.env) :: starEach es X.env := by rfl) (hpl : (backTo pos (starEach es X.env)).any (·.1) = false := by rfl) : DE X (.Call (.Name "list" p) (a :: es) [] pos) (dCB (dListOf o) tA) := de_callTy call_list_of (sListOf o) hm boot_lst ha hg (by decide) (by decide) he hpl
theorem de_tupOf (hm : X.mg "tuple" = none) (ha : DA X (a :: es) tA) (hg : Gl X "tuple" := by rfl) (he : starEach (a :: es) X.env = (false, eval a X.env) :: starEach es X.env := by rfl) (hpl : (backTo pos (starEach es X.env)).any (·.1) = false := by rfl) : DE X (.Call (.Name "tuple" p) (a :: es) [] pos) (dCB dTupOf tA) := de_callTy call_tuple_of sTupOf hm boot_tup ha hg (by decide) (by decide) he hpl
theorem de_isi {T : String} {f : Kd → Bool} (hf : ∀ d : Kd, kitB d.name T = some (f d)) (hm : X.mg "isinstance" = none) (ha : DA X (a :: es) tA) (hg : Gl X "isinstance" := by rfl) (he : starEach (a :: es) X.env = (false, eval a X.env) :: starEach es X.env := by rfl) (hpl : (backTo pos (starEach es X.env)).any (·.1) = false := by rfl) : DE X (.Call (.Name "isinstance" p) (a :: es) [] pos) (dCB (dIsi T f) tA) :=
  de_callB call_isi (sIsi hf) hm boot_isi ha hg (by decide) (by decide) he hpl
/-- list(range(n)) -/
def dListRg (o : Bool) (ta : DW) : DW := fun ρ M Q => ta ρ M fun w M1 => match w with
  | .d (.int n) => 0 ≤ n ∧ n ≤ 16777216 ∧ mkL o ((upTo 0 n.toNat).map dint) M1 Q
  | _ => False
theorem rgV_up (n : Int) : rgV 0 n = (upTo 0 n.toNat).map .int := by
  unfold rgV upTo
  rw [List.map_map, Int.sub_zero]
  rfl
theorem de_listRg (o : Bool) {p2 q2 : Pos} (hc : X.calm = true) (hm : X.mg "list" = none) (hm2 : X.mg "range" = none) (ha : DE X a ta) (hg : Gl X "list" := by rfl) (hg2 : Gl X "range" := by rfl) (na : starEach [a] X.env = (false, eval a X.env) :: starEach [] X.env := by rfl)
    (nb : starEach [.Call (.Name "range" p2) [a] [] q2] X.env = (false, eval (.Call (.Name "range" p2) [a] [] q2) X.env) :: starEach [] X.env := by rfl) : DE X (.Call (.Name "list" p) [.Call (.Name "range" p2) [a] [] q2] [] pos) (dListRg o ta) := PE.imp (pe_listRg hc hg hm (prg_1 hg2 hm2 ha na) nb) fun σ H Q ⟨F, A, ρ, M, Q', ab, rs, h, k⟩ =>
  ⟨F, A, ρ, M, _, ab, rs, h, fun x w F1 A1 M1 H1 e1 ab1 rx h1 => by
    split at h1
    · obtain rfl := RepF.int rx
      refine ⟨_, rfl, RgOk.of_le (Int.le_refl 0) h1.2.1 (by decide) h1.1, fun q hq => ?_⟩
      rw [rgV_up]
      exact mkL_ok ab1 (Post.ext e1 k) (reps_ints _) h1.2.2 hq
    · exact h1.elim⟩
/-- len(set(x)), the ints all different -/
def dLenSet (ta : DW) : DW := fun ρ M Q => ta ρ M fun w M1 => ∃ ws ns, listOf M1 w = some ws ∧ asInts ws = some ns ∧ ns.Nodup ∧ ns.length ≤ 4000 ∧ Q (.d (.int (ns.length : Nat))) M1
theorem de_lenSet {p2 q : Pos} (hc : X.calm = true) (hm : X.mg "len" = none) (hm2 : X.mg "set" = none) (ha : DE X a ta) (hg : Gl X "len" := by rfl) (hg2 : Gl X "set" := by rfl) (na : starEach [a] X.env = (false, eval a X.env) :: starEach [] X.env := by rfl) :
    DE X (.Call (.Name "len" p) [.Call (.Name "set" p2) [a] [] q] [] pos) (dLenSet ta) := PE.imp (RZ.pe_lenSetI hg hm hg2 hm2 ha hc na) fun σ H Q ⟨F, A, ρ, M, Q', ab, rs, h, k⟩ =>
  ⟨F, A, ρ, M, _, ab, rs, h, fun x w F1 A1 M1 H1 e1 ab1 rx ⟨ws, ns, h1, h2, h3, h4, q⟩ => by
    obtain ⟨a, ys, rfl, s1, r1⟩ := ab1.listW rx h1
    obtain rfl := asInts_rep h2 r1
    exact ⟨a, ns, rfl, s1.sql, h3, h4, post_d ab1 (Post.ext e1 k) (x := .int _) rfl q⟩⟩

/-! ### methods of lists -/
def SndM (K : PySem.W.Frag) (r : V → List V → Hp → VK → Prop) (dr : W → DRN) : Prop := ∀ F A M H x wx xs ws Q Q', Abs K F A M H → RepW K F A x wx → Paired (RepW K F A) xs ws → dr wx ws M Q' → Post K F A H Q' Q → r x xs H Q
def dBM (dr : W → DRN) (to : DW) (t : DT (List W)) : DW := fun ρ M Q => to ρ M fun x M1 => (listOf M1 x).isSome = true ∧ t ρ M1 fun ws M2 => dr x ws M2 Q
theorem lift_bm {K : PySem.W.Frag} {r : V → List V → Hp → VK → Prop} {dr : W → DRN} {to : DW} (s : SndM K r dr) (σ : L2.St) (H : Hp) (Q : VK) (q : liftW K (dBM dr to tA) σ H Q) : tBM K "list" r (liftW K to) (liftA K tA) σ H Q := by
  obtain ⟨F, A, ρ, M, Q', ab, rs, h, k⟩ := q
  refine ⟨F, A, ρ, M, _, ab, rs, h, fun x w F1 A1 M1 H1 e1 ab1 rx ⟨hl, h1⟩ => ⟨?_, F1, A1, ρ, M1, _, ab1, repsO_ext e1 rs, h1, fun xs ws F2 A2 M2 H2 e2 ab2 r2 h2 => s F2 A2 M2 H2 x w xs ws Q Q' ab2 (rx.ext e2) r2 h2 (Post.ext (e1.trans e2) k)⟩⟩
  obtain ⟨ws, hw⟩ := Option.isSome_iff_exists.mp hl
  obtain ⟨a, ys, rfl, s1, r1⟩ := ab1.listW rx hw
  exact .inl ⟨rfl, ys, s1.sql⟩
theorem dBM0_eq {K : PySem.W.Frag} {r : V → List V → Hp → VK → Prop} {dr : W → DRN} {to : DW} (s : SndM K r dr) (σ : L2.St) (H : Hp) (Q : VK) (q : liftW K (dBM dr to dNil) σ H Q) : tBM0 K "list" r (liftW K to) σ H Q := by
  obtain ⟨F, A, ρ, M, Q', ab, rs, h, k⟩ := q
  refine ⟨F, A, ρ, M, _, ab, rs, h, fun x w F1 A1 M1 H1 e1 ab1 rx ⟨hl, h1⟩ => ⟨?_, s F1 A1 M1 H1 x w [] [] Q Q' ab1 rx .nil h1 (Post.ext e1 k)⟩⟩
  obtain ⟨ws, hw⟩ := Option.isSome_iff_exists.mp hl
  obtain ⟨a, ys, rfl, s1, r1⟩ := ab1.listW rx hw
  exact .inl ⟨rfl, ys, s1.sql⟩
theorem ownL {K : PySem.W.Frag} {F : FM} {A : List Addr} {M : Mem} {H : Hp} (ab : Abs K F A M H) {x : V} {j : Nat} {ws : List W} (r : RepW K F A x (.own j)) (hm : M[j]? = some (.lst ws)) : ∃ a xs, x = .ref a ∧ A[j]? = some a ∧ F a = none ∧ H a = some (.lst xs) ∧ Paired (RepW K F A) xs ws := by
  obtain ⟨a, rfl, ha⟩ := r.own
  obtain ⟨c, hc, hcl⟩ := ab.cell ha
  rw [hm] at hc
  cases hc
  obtain ⟨hf, o, ho, hr⟩ := hcl
  cases o <;> simp only [CellRep] at hr
  exact ⟨a, _, rfl, ha, hf, ho, hr⟩
def dAppR : W → DRN
  | .own j, [w], M, Q => ∃ ws, M[j]? = some (.lst ws) ∧ ws.length < sizeLine ∧ Q (.d .none) (M.set j (.lst (ws ++ [w])))
  | _, _, _, _ => False
theorem sApp {K : PySem.W.Frag} : SndM K rAppend dAppR := by
  intro F A M H x wx xs ws Q Q' ab rx rs h k
  unfold dAppR at h
  split at h
  · obtain ⟨vs, hm, hz, q⟩ := h
    obtain ⟨y, rfl, ry⟩ := one_rep rs
    obtain ⟨a, xs, rfl, ha, hf, ho, hr⟩ := ownL ab rx hm
    obtain ⟨ab', e'⟩ := ab.put (c := .lst (vs ++ [_])) ha hf (fun _ z => nomatch z) (o := .lst (xs ++ [y])) (paired_append hr (.cons ry .nil))
    exact ⟨a, xs, y, rfl, rfl, ho, by rw [Paired.length hr]; exact hz, k .non (.d .none) F A _ _ e' ab' trivial q⟩
  · exact h.elim
def dPopR : W → DRN
  | .own j, [], M, Q => ∃ ws w, M[j]? = some (.lst ws) ∧ ws[ws.length - 1]? = some w ∧ Q w (M.set j (.lst ws.dropLast))
  | _, _, _, _ => False
theorem paired_dropLast {α β : Type} {R : α → β → Prop} {xs : List α} {ys : List β} (r : Paired R xs ys) : Paired R xs.dropLast ys.dropLast := by
  rw [List.dropLast_eq_take, List.dropLast_eq_take, Paired.length r]
  exact paired_take _ r
theorem sPop {K : PySem.W.Frag} : SndM K rPop dPopR := by
  intro F A M H x wx xs ws Q Q' ab rx rs h k
  unfold dPopR at h
  split at h
  · obtain ⟨vs, w, hm, hw, q⟩ := h
    cases rs
    obtain ⟨a, xs, rfl, ha, hf, ho, hr⟩ := ownL ab rx hm
    obtain ⟨y, hy, ry⟩ := paired_get hr hw
    obtain ⟨ab', e'⟩ := ab.put (c := .lst vs.dropLast) ha hf (fun _ z => nomatch z) (o := .lst xs.dropLast) (paired_dropLast hr)
    exact ⟨a, xs, y, rfl, rfl, ho, by rw [Paired.length hr]; exact hy, k y w F A _ _ e' ab' ry q⟩
  · exact h.elim
def dPopAtR : W → DRN
  | .own j, [.d (.int i)], M, Q => ∃ ws w, M[j]? = some (.lst ws) ∧ 0 ≤ i ∧ i < 2 ^ 63 ∧ ws[i.toNat]? = some w ∧ Q w (M.set j (.lst (ws.eraseIdx i.toNat)))
  | _, _, _, _ => False
theorem seqIx {i : Int} {n : Nat} (h0 : 0 ≤ i) (h1 : i.toNat < n) : seqIndex? i n = some i.toNat := (ixN_seq (by unfold ixN; rw [if_pos h0, if_pos (by omega)])).1
theorem sPopAt {K : PySem.W.Frag} : SndM K rPopAt dPopAtR := by
  intro F A M H x wx xs ws Q Q' ab rx rs h k
  unfold dPopAtR at h
  split at h
  · obtain ⟨vs, w, hm, h0, h1, hw, q⟩ := h
    obtain rfl := one_int rs
    obtain ⟨a, xs, rfl, ha, hf, ho, hr⟩ := ownL ab rx hm
    obtain ⟨y, hy, ry⟩ := paired_get hr hw
    obtain ⟨ab', e'⟩ := ab.put (c := .lst (vs.eraseIdx _)) ha hf (fun _ z => nomatch z) (o := .lst (xs.eraseIdx _)) (paired_erase _ hr)
    exact ⟨a, xs, _, _, y, rfl, rfl, ho, by omega, h1, seqIx h0 (List.getElem?_eq_some_iff.mp hy).1, hy, k y w F A _ _ e' ab' ry q⟩
  · exact h.elim
theorem de_append {o : Expr} {to : DW} {apos : Pos} (ho : DE X o to) (ha : DA X (a :: es) tA) (hbase : attributeBase o "append" X.env (eval o X.env) = eval o X.env := by rfl)
    (hfew : ((backTo pos (starEach (a :: es) X.env)).all (fun x => !x.1) && (backToKw pos (keywordEach [] X.env)).all (fun x => x.1.isSome) && decide ((a :: es).length + ([] : List Keyword).length + (if ([] : List Keyword).isEmpty then 0 else 1) < 30)) = true := by rfl)
    (hline : (apos.endLine == pos.line) = true := by rfl) (hs : starEach (a :: es) X.env = (false, eval a X.env) :: starEach es X.env := by rfl) (hpl : (backTo pos (starEach es X.env)).any (·.1) = false := by rfl) : DE X (.Call (.Attribute o "append" apos) (a :: es) [] pos) (dBM dAppR to tA) :=
  PE.imp (pe_bm F.plainAttrs_list F.slot_list_append F.type_list_append mt_append ho ha hbase hfew hline hs hpl) (lift_bm sApp)
theorem de_popAt {o : Expr} {to : DW} {apos : Pos} (ho : DE X o to) (ha : DA X (a :: es) tA) (hbase : attributeBase o "pop" X.env (eval o X.env) = eval o X.env := by rfl)
    (hfew : ((backTo pos (starEach (a :: es) X.env)).all (fun x => !x.1) && (backToKw pos (keywordEach [] X.env)).all (fun x => x.1.isSome) && decide ((a :: es).length + ([] : List Keyword).length + (if ([] : List Keyword).isEmpty then 0 else 1) < 30)) = true := by rfl)
    (hline : (apos.endLine == pos.line) = true := by rfl) (hs : starEach (a :: es) X.env = (false, eval a X.env) :: starEach es X.env := by rfl) (hpl : (backTo pos (starEach es X.env)).any (·.1) = false := by rfl) : DE X (.Call (.Attribute o "pop" apos) (a :: es) [] pos) (dBM dPopAtR to tA) :=
  PE.imp (pe_bm F.plainAttrs_list F.slot_list_pop F.type_list_pop mt_popAt ho ha hbase hfew hline hs hpl) (lift_bm sPopAt)
theorem de_pop {o : Expr} {to : DW} {apos : Pos} (ho : DE X o to) (hbase : attributeBase o "pop" X.env (eval o X.env) = eval o X.env := by rfl) (hline : (apos.endLine == pos.line) = true := by rfl) : DE X (.Call (.Attribute o "pop" apos) [] [] pos) (dBM dPopR to dNil) :=
  PE.imp (pe_bm0 F.plainAttrs_list F.slot_list_pop F.type_list_pop mt_pop ho hbase hline) (dBM0_eq sPop)
end
end DL

/-! DL8: a law's end. -/
namespace DL
open PySem PySem.Spec L2 PySem.Calls
/-- what a law promises: of a list of at most 63 ints, True -/
def spLaw : DSp := fun ws _ Q => (∃ ns : List Int, ws = [.d (.list (ns.map .int))] ∧ ns.length ≤ 63 ∧ ∀ z ∈ ns, Builtin.Int.intBits z ≤ 1048576) ∧ ∀ M', Q (.d (.bool true)) M'
section
variable {P : Program} {w : World} {K : PySem.W.Frag} {mg mb : Str → Option Value} {k : Nat} {fa a : Addr} {fd : FuncData} {s1 : Shared} {vs : List Value} {ns : List Int}
theorem law_run (KX : K.In s1.heap) (hns : s1.heap.Ns mainGlobals mg) (hb : s1.heap.Ns builtinsNs mb) (hbb : ∀ x : Str, x ≠ "__name__" → mb x = bootBuiltins x) (lim : s1.heap.NoLimit) (hg : s1.gens = #[])
    (ha : s1.heap.get? a = some { cls := .type "list", data := .seq vs.toArray }) (hi : PyProof.Rows.IntsAre vs ns) (hl : ns.length ≤ 63) (hbits : ∀ z ∈ ns, Builtin.Int.intBits z ≤ 1048576) (hr : Room k callerA)
    (F : ∀ base : Heap, K.In base → base.Ns mainGlobals mg → FnG P w K mg base k fa fd ["script"] spLaw) (hbind : ∀ (s : Shared) (u : Value), BindsTo s fd ⟨[u], []⟩ [("script", u)]) :
    codeAny (model P w) callerA (.call (.ref fa) ⟨[.ref a], []⟩) (fun r s' => r = .ok (.ret (.bool true)) ∧ OldK s1.heap s'.heap ∧ s'.os = s1.os ∧ PyProof.Rows.AllBare s'.gens) s1 := by
  have rv := vals_ints hi
  have len := hi.length
  have core : ∀ (H : Hp) (Fm : FM), (∀ b, H b ≠ none → b = a ∧ K.lookup a = none ∧ ∃ o xs, H b = some (.frz o (.lst xs))) → HOk P w H s1.heap → Abs K Fm [] [] H → RepF K Fm (.ref a) (.list (ns.map .int)) →
      codeAny (model P w) callerA (.call (.ref fa) ⟨[.ref a], []⟩) (fun r s' => r = .ok (.ret (.bool true)) ∧ OldK s1.heap s'.heap ∧ s'.os = s1.os ∧ PyProof.Rows.AllBare s'.gens) s1 := by
    intro H Fm only hok ab rep
    -- what H tells stands only at the script; all else is the base
    have keep : ∀ {b : Addr} {o : Obj}, s1.heap.get? b = some o → b ≠ a → (hidT s1.heap H).get? b = some o := fun {b o} e hb => hidT_get e (by
      cases q : H b with
      | none => rfl
      | some u => exact absurd (only b (by rw [q]; exact fun z => nomatch z)).1 hb)
    have dictNe : ∀ {b : Addr} {m : Str → Option Value}, s1.heap.Ns b m → b ≠ a := fun {b m} ⟨o, es, ep, e, d, _⟩ z => by
      subst z
      rw [ha] at e
      cases e
      have d' : Data.seq vs.toArray _ = Data.dict es ep := d
      cases d'
    have nsB : ∀ {b : Addr} {m : Str → Option Value}, s1.heap.Ns b m → (hidT s1.heap H).Ns b m := fun {b m} n => by
      have hne := dictNe n
      obtain ⟨o, es, ep, e, r⟩ := n
      exact ⟨o, es, ep, keep e hne, r⟩
    have kB : K.In (hidT s1.heap H) := fun b o e => by
      cases q : H b with
      | none => exact hidT_get (KX b o e) q
      | some u =>
        obtain ⟨rfl, kn, _⟩ := only b (by rw [q]; exact fun z => nomatch z)
        rw [kn] at e
        cases e
    have limB : (hidT s1.heap H).NoLimit := by
      obtain ⟨m, h1, h2⟩ := lim
      exact ⟨m, nsB h1, h2⟩
    have e0 : Env0 P w K mg (hidT s1.heap H) callerA [] s1 H := ⟨rfl, ⟨kB, nsB hns, ⟨mb, nsB hb, hbb⟩, limB⟩, fun b o e => of_hidT e, by rw [hidT_size]; exact Nat.le_refl _, trivial, (fun b z => absurd (show b ∈ ([] : List Addr) from z) (by simp)), hok, .of_eq hg⟩
    have sp : liftSp K 1 spLaw [.ref a] H (fun v _ => v = .bl true) := ⟨rfl, Fm, [], [], [.d (.list (ns.map .int))], fun w _ => w = .d (.bool true), ab, .cons rep .nil, ⟨⟨ns, rfl, hl, hbits⟩, fun _ => rfl⟩, fun z w F' A' M' H' _ _ r e => by
      subst e
      exact RepF.bool r⟩
    refine codeAny_mono ((F _ kB (nsB hns)).run callerA [] s1 H ⟨[.ref a], []⟩ [.ref a] [.ref a] _ rfl hr e0 (hbind s1 (.ref a)) (.cons rfl .nil) sp) fun r s' h => ?_
    cases r with
    | error e => exact h.elim
    | ok fl =>
      cases fl with
      | ret u =>
        obtain ⟨v, H', os, bare, un, hok', rv', q⟩ := h
        subst q
        obtain rfl : u = Value.bool true := rv'
        refine ⟨rfl, OldK.of_keep fun b o e => ?_, os, bare⟩
        cases q : H b with
        | none => exact un.keep b o e q (fun z => absurd (show b ∈ ([] : List Addr) from z) (by simp)) (by simp)
        | some y =>
          obtain ⟨_, _, ob, xs, z⟩ := only b (by rw [q]; exact fun z => nomatch z)
          have old := (hok b _ z).1
          have new := (hok' b _ (un.frzs b ob _ z)).1
          rw [old] at e
          rw [← e]
          exact new
      | next => exact h.elim
      | brk => exact h.elim
      | cont => exact h.elim
  have small : vs.length ≤ sizeLine := by
    have := sizeLine_eq
    omega
  cases hk : K.lookup a with
  | some o =>
    have e := KX a o hk
    rw [ha] at e
    cases e
    refine core (fun _ => none) (fun _ => none) (fun b z => absurd rfl z) (fun b u z => by have z' : (none : Option HO) = some u := z; cases z') ⟨(fun _ _ z => nomatch z), rfl, List.nodup_nil, fun i x c z _ => absurd z (by simp)⟩ ?_
    exact .inr ⟨ns, rfl, vs, hk, small, rv⟩
  | none =>
    refine core (fun b => if b = a then some (.frz { cls := .type "list", data := .seq vs.toArray } (.lst (ns.map .int))) else none) (fun b => if b = a then some (.list (ns.map .int)) else none) (fun b z => ?_) (fun b u z => ?_) ⟨fun b x z => ?_, rfl, List.nodup_nil, fun i x c z _ => absurd z (by simp)⟩ (.inl (if_pos rfl))
    · by_cases hb : b = a
      · exact ⟨hb, hk, _, _, if_pos hb⟩
      · exact absurd (if_neg hb) z
    · have z' : (if b = a then some (HO.frz { cls := .type "list", data := .seq vs.toArray } (.lst (ns.map .int))) else none) = some u := z
      by_cases hb : b = a
      · subst hb
        rw [if_pos rfl] at z'
        cases z'
        exact ⟨ha, by rw [List.length_map]; have := sizeLine_eq; omega, vs, _, rv, ha⟩
      · rw [if_neg hb] at z'; cases z'
    · by_cases hb : b = a
      · subst hb
        rw [if_pos rfl] at z
        cases z
        exact ⟨ns.map .int, .inr ⟨_, if_pos rfl⟩, paired_toInts ns⟩
      · rw [if_neg hb] at z; cases z
end
theorem walkG {l : PySem.W.OpenLaw} {k : Nat} {q : Program} {loose : List Str} {XP : (Str → Option Value) → Heap → Prop} {YP : World → Heap → Prop} {d : DefRec} {K : Params → PySem.W.Frag}
    (hn : l.most = some 63) (hdf : d.params.defaults = []) (hr : Room k callerA) (hY : ∀ (w : World) (h : Heap), YP w h → (K w.params).In h)
    (F : ∀ (w : World) (mg : Str → Option Value) (fa : Addr) (h : Heap), (K w.params).In h → h.Ns mainGlobals mg → mg d.name = some (.ref fa) →
      ∃ fd : FuncData, (∀ (s : Shared) (u : Value), BindsTo s fd ⟨[u], []⟩ [("script", u)]) ∧ ∀ base : Heap, (K w.params).In base → base.Ns mainGlobals mg → FnG l.prog w (K w.params) mg base k fa fd ["script"] spLaw) :
    PySem.W.WalkO q loose XP YP l.row.toRowW d [] (fun f vs => PySem.call f vs) :=
  Att.attach_callB hn hdf fun w s0 s1 mg mb fa o pm cd doc a vs ns G Y ho hd hcd hmg hobj hints hlen hbits hg => by
    obtain ⟨fd, hb, hF⟩ := F w mg fa _ (hY w _ Y) G.T.g hmg
    exact law_run (hY w _ Y) G.T.g G.T.b G.T.builtins G.T.nolimit hg hobj hints hlen hbits hr hF hb
end DL

/-! DL9: defs of the text by name. -/
namespace DL
open PySem PySem.Spec L2
theorem hu65 {k : Nat} {A : Around} (r : Room k A) : A.units + 65 < cLine := by have := r.un; omega
section
variable {P : Program} {w : World} {K : PySem.W.Frag} {mg : Str → Option Value} {base : Heap}
/-- the def stands where its name says -/
structure DefAt (K : PySem.W.Frag) (mg : Str → Option Value) (x : Str) (st : Stmt) (ps : List Str) : Prop where
  ex : ∃ f fd, Fun K x x st f fd ∧ Binds K fd ps [] ∧ mg x = some (.ref f)
structure Callee (P : Program) (w : World) (K : PySem.W.Frag) (mg : Str → Option Value) (base : Heap) (k : Nat) (x : Str) (st : Stmt) (ps : List Str) (sp : DSp) : Prop where
  ex : ∃ f fd, FnG P w K mg base k f fd ps sp ∧ Fun K x x st f fd ∧ Binds K fd ps [] ∧ mg x = some (.ref f)
theorem DefAt.callee {x : Str} {st : Stmt} {ps : List Str} {k : Nat} {sp : DSp} (D : DefAt K mg x st ps) (h : ∀ f fd, Fun K x x st f fd → FnG P w K mg base k f fd ps sp) : Callee P w K mg base k x st ps sp := by
  obtain ⟨f, fd, F, B, m⟩ := D.ex
  exact ⟨f, fd, h f fd F, F, B, m⟩
theorem defAt {l : PySem.W.OpenLaw} {h : Heap} (X : K.In h) (G : h.Ns mainGlobals mg) {x : Str} {st : Stmt} {ps : List Str} {f : Addr} {oc kV doc pm cd ct : Value} {od an : Option Addr} {sl : Array (Option Value)}
    (a : PySem.W.nsIn K mainGlobals x = some (some (.ref f))) (lk : K.lookup f = some ⟨oc, od, .func (PySem.W.fnOf x x (defArgs st) (defBody st) (defScope st) .none kV doc pm an cd ct), sl⟩) (c : PySem.W.codeIn K cd x = true) (k : PySem.W.keepIn K (.ref f) = true)
    (b : ∀ (kV doc pm : Value) (an : Option Addr) (cdv ct : Value) (us : List Value), us.length = ps.length → bindArgs (PySem.W.fnOf x x (defArgs st) (defBody st) (defScope st) .none kV doc pm an cdv ct) ⟨us, []⟩ = pure (ps.zip us)) : DefAt K mg x st ps := by
  have F := fun_mk (st := st) lk c k
  exact ⟨f, _, F, F.binds b, PySem.W.mg_of X G a⟩
end
section
variable {X : Cx} {k : Nat} {x : Str} {st : Stmt} {ps ks : List Str} {sp : DSp} {p pos : Pos} {e : Expr} {es : List Expr} {kws : List Keyword} {t : DT (List W)} {ta : DW}
theorem de_callC {n : Nat} (C : Callee X.prog X.w X.K X.mg X.base k x st ps sp) (hgd : X.A.guards = some []) (hr : Room k X.A) (ha : DA X (e :: es) t) (hg : Gl X x := by rfl) (hdb : (x == ("__debug__" : Str)) = false := by decide)
    (he : starEach (e :: es) X.env = (false, eval e X.env) :: starEach es X.env := by rfl) (hpl : (backTo pos (starEach es X.env)).any (·.1) = false := by rfl) (hn : ps.length = n := by rfl) : DE X (.Call (.Name x p) (e :: es) [] pos) (dCall n sp t) := by
  subst hn
  obtain ⟨f, fd, F, D, B, m⟩ := C.ex
  exact de_call F hgd hr m D.kp B ha hg hdb he hpl
theorem de_callC0 {n : Nat} (C : Callee X.prog X.w X.K X.mg X.base k x st ps sp) (hgd : X.A.guards = some []) (hr : Room k X.A) (hg : Gl X x := by rfl) (hdb : (x == ("__debug__" : Str)) = false := by decide) (hn : ps.length = n := by rfl) : DE X (.Call (.Name x p) [] [] pos) (dCall n sp dNil) := by
  subst hn
  obtain ⟨f, fd, F, D, B, m⟩ := C.ex
  exact de_call0 F hgd hr m D.kp B hg hdb
theorem de_callCK {g : List Nat} {n m : Nat} (C : Callee X.prog X.w X.K X.mg X.base k x st ps sp) (hgd : X.A.guards = some []) (hr : Room k X.A)
    (hb : ∀ (kV doc pm : Value) (an : Option Addr) (cdv ct : Value) (us : List Value), us.length = ks.length → bindArgs (PySem.W.fnOf x x (defArgs st) (defBody st) (defScope st) .none kV doc pm an cdv ct) ⟨[], ks.zip us⟩ = pure (ps.zip (g.filterMap (us[·]?)))) (ha : DK X kws t)
    (hall : (backToKw pos (keywordEach kws X.env)).all (·.1.isSome) = true := by rfl) (hks : (backToKw pos (keywordEach kws X.env)).filterMap (·.1) = ks := by rfl) (hg : Gl X x := by rfl) (hdb : (x == ("__debug__" : Str)) = false := by decide)
    (hpl : ((backTo pos (starEach [] X.env)).any (·.1) || (backToKw pos (keywordEach kws X.env)).any (·.1.isNone)) = false := by rfl) (hn : ps.length = n := by rfl) (hm : ks.length = m := by rfl) : DE X (.Call (.Name x p) [] kws pos) (dCallK n m g sp t) := by
  subst hn hm
  obtain ⟨f, fd, F, D, B, m⟩ := C.ex
  refine de_callK F hgd hr m D.kp ?_ ha hall hks hg hdb hpl
  obtain ⟨oc, od, kV, doc, pm, an, cdv, ct, osl, rfl, lk, hcd⟩ := D.ex
  exact fun s us hl => .of_eq (hb kV doc pm an cdv ct us hl)
theorem de_gintE {i : Int} (h : ∃ t, X.mg x = some (.int i t)) (hg : Gl X x := by rfl) (hd : (x == ("__debug__" : Str)) = false := by decide) : DE X (.Name x p) (dC (.int i)) := by
  obtain ⟨t, h⟩ := h
  exact de_gint h hg hd
theorem ds_doc {x j pos pos'} : DS X (.Expr (.Constant (.str x) j pos) pos') dNext := PS.imp ps_doc fun D σ H ⟨F, A, ρ, M, D', ab, rs, h, k⟩ => k.nx σ ρ F A M H .refl ab rs h
theorem ds_asgG {tg a : Expr} {g : TG} {dg : DTG} {vs : List Nat} (ha : DE X a ta) (hg : PG X tg g) (sg : SndG X.K g dg vs) (hs : swapsWithSole [tg] a pos.line X.env = pure false := by rfl) (hw : swappedStores [tg] a X.env = pure none := by rfl)
    (h1 : (assignEach [tg] X.env).map (·.2) = [assign tg X.env] := by rfl) : DS X (.Assign [tg] a pos) (dAsg ta dg) := PS.imp (ps_asg ha hg hs hw h1) (lift_asg (lift_g sg))
def dAddI : DR2
  | .d (.int i), .d (.int j), M, Q => Q (.d (.int (i + j))) M
  | _, _, _, _ => False
theorem sIpAdd {K : PySem.W.Frag} : Snd2 K (ipI fun i j => i + j) dAddI := by
  intro F A M H x y wx wy Q Q' ab rx ry h k
  unfold dAddI at h
  split at h
  · obtain rfl := RepF.int rx
    obtain rfl := RepF.int ry
    exact ⟨_, _, rfl, rfl, post_d ab k (x := .int _) rfl h⟩
  · exact h.elim
end
end DL

/-! DL10: sizes and shapes of data: what repr and == ask. -/
namespace DL
open PySem PySem.Spec L2
/-! ### the text of a list is as long as its parts -/
theorem textFrom_sum : ∀ (ts : List Str) (k : Nat) (acc : Str), (textFrom k acc ts).length ≤ acc.length + (ts.map fun t => t.length + 2).sum
  | [], k, acc => by show acc.length ≤ acc.length + _; omega
  | t :: ts, k, acc => by
    have ih := textFrom_sum ts (k + 1) (acc ++ (if k > 0 then ", " else "" : String) ++ t)
    have e : (acc ++ ((if k > 0 then ", " else "" : String) : Str) ++ t).length ≤ acc.length + 2 + t.length := by
      rw [Str.length_append, Str.length_append]
      have e2 : ((if k > 0 then ", " else "" : String) : Str).length ≤ 2 := by split <;> decide
      omega
    show (textFrom (k + 1) _ ts).length ≤ _
    rw [List.map_cons, List.sum_cons]
    omega
theorem listText_sum (ts : List Str) : (listText ts).length ≤ 3 + (ts.map fun t => t.length + 2).sum := by
  have h := textFrom_sum ts 0 "["
  have e1 : ("[" : Str).length = 1 := by decide
  have e2 : ("]" : Str).length = 1 := by decide
  unfold listText
  rw [Str.length_append]
  omega
theorem join_sum : ∀ ts : List Str, (Str.join ", " ts).length ≤ (ts.map fun t => t.length + 2).sum
  | [] => by decide
  | [x] => by show x.length ≤ _; simp
  | x :: y :: r => by
    have ih := join_sum (y :: r)
    have e : Str.join ", " (x :: y :: r) = x ++ ", " ++ Str.join ", " (y :: r) := rfl
    rw [e, Str.length_append, Str.length_append]
    have e2 : (", " : Str).length = 2 := by decide
    rw [List.map_cons, List.sum_cons]
    omega
theorem tupleText_sum (ts : List Str) : (tupleText ts).length ≤ 3 + (ts.map fun t => t.length + 2).sum := by
  have h := join_sum ts
  have e1 : ("(" : Str).length = 1 := by decide
  have e2 : ((if ts.length == 1 then ",)" else ")" : String) : Str).length ≤ 2 := by split <;> decide
  unfold tupleText
  rw [Str.length_append, Str.length_append]
  omega
mutual
/-- a bound of the length of the text -/
def szD : PyData → Nat
  | .none => 4
  | .bool _ => 5
  | .int i => i.natAbs.log2 + 2
  | .str x => (reprText x).length
  | .list xs => 3 + szAll xs
  | .tuple xs => 3 + szAll xs
  | .dict _ => 0
def szAll : List PyData → Nat
  | [] => 0
  | x :: xs => szD x + 2 + szAll xs
end
mutual
theorem shown_sz : ∀ d : PyData, d.hasDict = false → d.shown.length ≤ szD d
  | .none, _ => by simp only [PyData.shown, szD]; decide
  | .bool b, _ => by simp only [PyData.shown, szD]; cases b <;> decide
  | .int i, _ => by
    simp only [PyData.shown, szD]
    rw [ofString_length]
    exact int_text_length_le (Nat.succ_pos _) (Nat.lt_succ_self _)
  | .str x, _ => by simp only [PyData.shown, szD]; exact Nat.le_refl _
  | .list xs, h => by
    simp only [PyData.hasDict] at h
    simp only [PyData.shown, szD]
    exact Nat.le_trans (listText_sum _) (Nat.add_le_add_left (shown_szs xs h) 3)
  | .tuple xs, h => by
    simp only [PyData.hasDict] at h
    simp only [PyData.shown, szD]
    exact Nat.le_trans (tupleText_sum _) (Nat.add_le_add_left (shown_szs xs h) 3)
  | .dict _, h => by simp only [PyData.hasDict] at h; cases h
theorem shown_szs : ∀ ds : List PyData, PyData.hasDictAll ds = false → ((PyData.shownAll ds).map fun t => t.length + 2).sum ≤ szAll ds
  | [], _ => by simp [PyData.shownAll, szAll]
  | d :: ds, h => by
    simp only [PyData.hasDictAll, Bool.or_eq_false_iff] at h
    simp only [PyData.shownAll, szAll, List.map_cons, List.sum_cons]
    have h1 := shown_sz d h.1
    have h2 := shown_szs ds h.2
    omega
end
/-- data that repr and == take: ints of at most b bits, no texts, no dicts, at most so deep -/
def okD (b : Nat) : Nat → PyData → Bool
  | _, .none => true
  | _, .bool _ => true
  | _, .int i => decide (i.natAbs.log2 ≤ b)
  | n + 1, .list xs => xs.all (okD b n)
  | n + 1, .tuple xs => xs.all (okD b n)
  | _, _ => false
theorem canLayAll_iff : ∀ ds : List PyData, PyData.canLayAll0 ds = ds.all PyData.canLay0
  | [] => by simp [PyData.canLayAll0]
  | d :: ds => by simp [PyData.canLayAll0, canLayAll_iff ds]
theorem showableAll_iff : ∀ ds : List PyData, PyData.showableAll ds = ds.all PyData.showable
  | [] => by simp [PyData.showableAll]
  | d :: ds => by simp [PyData.showableAll, showableAll_iff ds]
theorem hasDictAll_iff : ∀ ds : List PyData, PyData.hasDictAll ds = ds.any PyData.hasDict
  | [] => by simp [PyData.hasDictAll]
  | d :: ds => by simp [PyData.hasDictAll, hasDictAll_iff ds]
theorem depthAll_le {n : Nat} : ∀ ds : List PyData, (∀ d ∈ ds, d.depth ≤ n) → PyData.depthAll ds ≤ n
  | [], _ => by simp [PyData.depthAll]
  | d :: ds, h => by
    simp only [PyData.depthAll]
    exact Nat.max_le.mpr ⟨h d List.mem_cons_self, depthAll_le ds fun x hx => h x (List.mem_cons_of_mem _ hx)⟩
structure OkD (b n : Nat) (d : PyData) : Prop where
  lay : d.canLay0 = true
  dep : d.depth ≤ n
  sho : b < 1920 → d.showable = true
  dic : d.hasDict = false
theorem okD_ok {b : Nat} : ∀ (n : Nat) (d : PyData), okD b n d = true → OkD b n d
  | n, .none, _ => ⟨by simp [PyData.canLay0], by simp [PyData.depth], fun _ => by simp [PyData.showable], by simp [PyData.hasDict]⟩
  | n, .bool _, _ => ⟨by simp [PyData.canLay0], by simp [PyData.depth], fun _ => by simp [PyData.showable], by simp [PyData.hasDict]⟩
  | n, .int i, h => ⟨by simp [PyData.canLay0], by simp [PyData.depth], fun hb => by
      have h' : decide (i.natAbs.log2 ≤ b) = true := by cases n <;> simpa [okD] using h
      have := of_decide_eq_true h'
      simp only [PyData.showable, decide_eq_true_eq]; omega, by simp [PyData.hasDict]⟩
  | n + 1, .list xs, h => by
    have h' : ∀ x ∈ xs, OkD b n x := fun x hx => okD_ok n x (by simp only [okD, List.all_eq_true] at h; exact h x hx)
    refine ⟨?_, ?_, fun hb => ?_, ?_⟩
    · simp only [PyData.canLay0, canLayAll_iff, List.all_eq_true]; exact fun x hx => (h' x hx).lay
    · simp only [PyData.depth]; exact Nat.succ_le_succ (depthAll_le xs fun x hx => (h' x hx).dep)
    · simp only [PyData.showable, showableAll_iff, List.all_eq_true]; exact fun x hx => (h' x hx).sho hb
    · simp only [PyData.hasDict, hasDictAll_iff, List.any_eq_false]; exact fun x hx => by rw [(h' x hx).dic]; exact Bool.false_ne_true
  | n + 1, .tuple xs, h => by
    have h' : ∀ x ∈ xs, OkD b n x := fun x hx => okD_ok n x (by simp only [okD, List.all_eq_true] at h; exact h x hx)
    refine ⟨?_, ?_, fun hb => ?_, ?_⟩
    · simp only [PyData.canLay0, canLayAll_iff, List.all_eq_true]; exact fun x hx => (h' x hx).lay
    · simp only [PyData.depth]; exact Nat.succ_le_succ (depthAll_le xs fun x hx => (h' x hx).dep)
    · simp only [PyData.showable, showableAll_iff, List.all_eq_true]; exact fun x hx => (h' x hx).sho hb
    · simp only [PyData.hasDict, hasDictAll_iff, List.any_eq_false]; exact fun x hx => by rw [(h' x hx).dic]; exact Bool.false_ne_true
  | 0, .list _, h => by simp [okD] at h
  | 0, .tuple _, h => by simp [okD] at h
  | 0, .str _, h => by simp [okD] at h
  | n + 1, .str _, h => by simp [okD] at h
  | 0, .dict _, h => by simp [okD] at h
  | n + 1, .dict _, h => by simp [okD] at h
theorem okD_shaped {b n : Nat} {d : PyData} (h : okD b n d = true) (hn : n ≤ 64) : SeqAt.shaped d = true := by
  have k := okD_ok n d h
  unfold SeqAt.shaped
  rw [k.lay, Bool.true_and]
  exact decide_eq_true (Nat.le_trans k.dep hn)
/-- how many parts -/
def cntD : Nat → PyData → Nat
  | n + 1, .list xs => 1 + (xs.map (cntD n)).sum
  | n + 1, .tuple xs => 1 + (xs.map (cntD n)).sum
  | _, _ => 1
theorem szAll_sum : ∀ ds : List PyData, szAll ds = (ds.map fun d => szD d + 2).sum
  | [] => rfl
  | d :: ds => by simp only [szAll, szAll_sum ds, List.map_cons, List.sum_cons]
theorem sum_le_mul {α : Type} {f g : α → Nat} {k : Nat} : ∀ l : List α, (∀ x ∈ l, f x ≤ k * g x) → (l.map f).sum ≤ k * (l.map g).sum
  | [], _ => by simp
  | x :: l, h => by
    rw [List.map_cons, List.map_cons, List.sum_cons, List.sum_cons, Nat.mul_add]
    exact Nat.add_le_add (h x List.mem_cons_self) (sum_le_mul l fun y hy => h y (List.mem_cons_of_mem _ hy))
theorem sz_cnt {b : Nat} : ∀ (n : Nat) (d : PyData), okD b n d = true → szD d + 2 ≤ (b + 10) * cntD n d
  | n, .none, _ => by cases n <;> simp only [szD, cntD] <;> omega
  | n, .bool _, _ => by cases n <;> simp only [szD, cntD] <;> omega
  | n, .int i, h => by
    have h' : decide (i.natAbs.log2 ≤ b) = true := by cases n <;> simpa [okD] using h
    have := of_decide_eq_true h'
    cases n <;> simp only [szD, cntD] <;> omega
  | n + 1, .list xs, h => by
    have h' : ∀ x ∈ xs, szD x + 2 ≤ (b + 10) * cntD n x := fun x hx => sz_cnt n x (by simp only [okD, List.all_eq_true] at h; exact h x hx)
    simp only [szD, cntD, szAll_sum, Nat.mul_add]
    have := sum_le_mul xs h'
    omega
  | n + 1, .tuple xs, h => by
    have h' : ∀ x ∈ xs, szD x + 2 ≤ (b + 10) * cntD n x := fun x hx => sz_cnt n x (by simp only [okD, List.all_eq_true] at h; exact h x hx)
    simp only [szD, cntD, szAll_sum, Nat.mul_add]
    have := sum_le_mul xs h'
    omega
  | 0, .list _, h => by simp [okD] at h
  | 0, .tuple _, h => by simp [okD] at h
  | 0, .str _, h => by simp [okD] at h
  | n + 1, .str _, h => by simp [okD] at h
  | 0, .dict _, h => by simp [okD] at h
  | n + 1, .dict _, h => by simp [okD] at h
/-- repr of such data -/
theorem repr_ok {b n : Nat} {w : W} {d : PyData} {M : Mem} {Q : W → Mem → Prop} (hw : toD M w = some d) (hk : ∃ a, w = .d (.list a) ∨ w = .d (.tuple a) ∨ ∃ i, w = .own i) (h : okD b n d = true) (hb : b < 1920) (hn : n ≤ 60) (hc : (b + 10) * cntD n d ≤ 16777216) (q : Q (.d (.str d.shown)) M) : dReprR [w] M Q := by
  have k := okD_ok n d h
  refine ⟨d, hw, hk, k.sho hb, Nat.le_trans k.dep hn, ?_, q⟩
  have h1 := shown_sz d k.dic
  have h2 := sz_cnt n d h
  rw [sizeLine_eq]
  omega
theorem eqv_refl {b : Nat} : ∀ (n : Nat) (d : PyData), okD b n d = true → PyData.eqv d d = true := fun n d h => SeqAt.eqv_refl d (okD_ok n d h).lay
theorem eqvAll_ints : ∀ a b : List Int, PyData.eqvAll (a.map .int) (b.map .int) = decide (a = b)
  | [], [] => by simp [PyData.eqvAll]
  | [], _ :: _ => by simp [PyData.eqvAll]
  | _ :: _, [] => by simp [PyData.eqvAll]
  | x :: a, y :: b => by
    simp only [List.map_cons, PyData.eqvAll, PyData.eqv, eqvAll_ints a b]
    by_cases h : x = y <;> by_cases h2 : a = b <;> simp [h, h2]
theorem eqv_ints (a b : List Int) : PyData.eqv (.list (a.map .int)) (.list (b.map .int)) = decide (a = b) := by simp only [PyData.eqv, eqvAll_ints]
theorem eqvAll_grid : ∀ a b : List (List Int), PyData.eqvAll (a.map fun r => .list (r.map .int)) (b.map fun r => .list (r.map .int)) = decide (a = b)
  | [], [] => by simp [PyData.eqvAll]
  | [], _ :: _ => by simp [PyData.eqvAll]
  | _ :: _, [] => by simp [PyData.eqvAll]
  | x :: a, y :: b => by
    simp only [List.map_cons, PyData.eqvAll, eqv_ints, eqvAll_grid a b]
    by_cases h : x = y <;> by_cases h2 : a = b <;> simp [h, h2]
theorem eqv_grid (a b : List (List Int)) : PyData.eqv (.list (a.map fun r => .list (r.map .int))) (.list (b.map fun r => .list (r.map .int))) = decide (a = b) := by simp only [PyData.eqv, eqvAll_grid]
theorem okD_ints {b n : Nat} {ns : List Int} (h : ∀ x ∈ ns, x.natAbs.log2 ≤ b) : okD b (n + 1) (.list (ns.map .int)) = true := by
  simp only [okD, List.all_map, List.all_eq_true]
  intro x hx
  cases n <;> exact decide_eq_true (h x hx)
theorem log2_le {i : Int} {b : Nat} (h : i.natAbs < 2 ^ (b + 1)) : i.natAbs.log2 ≤ b := by
  rcases Nat.eq_zero_or_pos i.natAbs with e | e
  · rw [e]; simp
  · exact Nat.lt_succ_iff.mp ((Nat.log2_lt (by omega)).mpr h)
theorem shaped_ints (ns : List Int) : SeqAt.shaped (.list (ns.map .int)) = true := by
  have h : ∀ l : List Int, PyData.canLayAll0 (l.map .int) = true ∧ PyData.depthAll (l.map .int) = 0 := fun l => by
    induction l with
    | nil => simp [PyData.canLayAll0, PyData.depthAll]
    | cons x l ih => simp [PyData.canLayAll0, PyData.depthAll, PyData.canLay0, PyData.depth, ih.1, ih.2]
  unfold SeqAt.shaped
  simp [PyData.canLay0, PyData.depth, (h ns).1, (h ns).2]
theorem shaped_int (i : Int) : SeqAt.shaped (.int i) = true := by
  unfold SeqAt.shaped
  simp [PyData.canLay0, PyData.depth]
end DL

namespace Sem
open PySem PySem.Spec L2 DL
/-! ### plain data -/
/-! the readings' equations, where all is applied -/
section
variable {i j k l n m : Nat} {o b : Bool} {dr dr' : DR2} {d1 : DR1} {dn : DRN} {dm : W → DRN} {sp : DSp} {ta tb tc : DW} {tA : DT (List W)} {t u : DT Bool} {s s' : DTS} {g : DTG} {gs : DTGs} {tl th : DO} {vs : List Nat} {D : DEnds} {ρ : Rho} {M : Mem} {Q : W → Mem → Prop} {QB : Bool → Mem → Prop} {QA : List W → Mem → Prop} {QO : Option Int → Mem → Prop} {QG : Rho → Mem → Prop} {x : PyData} {v : V} {w : W} {ws : List W} {gl : List Nat}
theorem x_Var : dVar i ρ M Q = (match ρ[i]? with | some (some w) => Q w M | _ => False) := rfl
theorem x_C : dC x ρ M Q = Q (.d x) M := rfl
theorem x_Raw : dRaw v ρ M Q = Q (.raw v) M := rfl
theorem x_Op : dOp dr ta tb ρ M Q = ta ρ M fun x M1 => tb ρ M1 fun y M2 => dr x y M2 Q := rfl
theorem x_Un : dUn d1 ta ρ M Q = ta ρ M fun x M1 => d1 x M1 Q := rfl
theorem x_Test : dTest ta ρ M QB = ta ρ M fun w M1 => (match w with | .d (.bool b) => QB b M1 | _ => False) := rfl
theorem x_Chain : dChain dr dr' ta tb tc ρ M Q = ta ρ M fun x M1 => tb ρ M1 fun y M2 => dr x y M2 fun w M3 => (match w with | .d (.bool true) => tc ρ M3 fun z M4 => dr' y z M4 Q | .d (.bool false) => Q (.d (.bool false)) M3 | _ => False) := rfl
theorem x_And : dAnd t u ρ M QB = t ρ M fun b M1 => if b = true then u ρ M1 QB else QB false M1 := rfl
theorem x_Or : dOr t u ρ M QB = t ρ M fun b M1 => if b = true then QB true M1 else u ρ M1 QB := rfl
theorem x_Not : dNot t ρ M QB = t ρ M fun b M1 => QB (!b) M1 := rfl
theorem x_AndV : dAndV ta tb ρ M Q = ta ρ M fun w M1 => (match w with | .d (.bool true) => tb ρ M1 Q | .d (.bool false) => Q (.d (.bool false)) M1 | _ => False) := rfl
theorem x_OrV : dOrV ta tb ρ M Q = ta ρ M fun w M1 => (match w with | .d (.bool true) => Q (.d (.bool true)) M1 | .d (.bool false) => tb ρ M1 Q | _ => False) := rfl
theorem x_NotV : dNotV t ρ M Q = t ρ M fun b M1 => Q (.d (.bool (!b))) M1 := rfl
theorem x_If : dIf t ta tb ρ M Q = t ρ M fun b M1 => if b = true then ta ρ M1 Q else tb ρ M1 Q := rfl
theorem x_Nil : dNil ρ M QA = QA [] M := rfl
theorem x_Cons : dCons ta tA ρ M QA = ta ρ M fun w M1 => tA ρ M1 fun ws M2 => QA (w :: ws) M2 := rfl
theorem x_CB : dCB dn tA ρ M Q = tA ρ M fun ws M1 => dn ws M1 Q := rfl
theorem x_Lst : dLst o tA ρ M Q = tA ρ M fun ws M1 => ws.length ≤ sizeLine ∧ mkL o ws M1 Q := rfl
theorem x_Tup : dTup tA ρ M Q = tA ρ M fun ws M1 => ws.length ≤ sizeLine ∧ mkT ws M1 Q := rfl
theorem x_Call : dCall n sp tA ρ M Q = tA ρ M fun ws M1 => ws.length = n ∧ sp ws M1 Q := rfl
theorem x_CallK : dCallK n m gl sp tA ρ M Q = tA ρ M fun ws M1 => ws.length = m ∧ (pick gl ws).length = n ∧ sp (pick gl ws) M1 Q := rfl
theorem x_BM : dBM dm ta tA ρ M Q = ta ρ M fun x M1 => (DL.listOf M1 x).isSome = true ∧ tA ρ M1 fun ws M2 => dm x ws M2 Q := rfl
theorem x_NoPart : dNoPart ρ M QO = QO none M := rfl
theorem x_Part : dPart ta ρ M QO = ta ρ M fun w M1 => (match w with | .d (.int i) => QO (some i) M1 | _ => False) := rfl
theorem x_Sl : dSl o ta tl th ρ M Q = ta ρ M fun x M1 => tl ρ M1 fun l M2 => th ρ M2 fun h M3 => ∃ ws, DL.listOf M3 x = some ws ∧ mkL o (cutW ws l h) M3 Q := rfl
theorem x_Rev : dRev o ta ρ M Q = ta ρ M fun x M1 => ∃ ws, DL.listOf M1 x = some ws ∧ mkL o ws.reverse M1 Q := rfl
theorem x_ListRg : dListRg o ta ρ M Q = ta ρ M fun w M1 => (match w with | .d (.int n) => 0 ≤ n ∧ n ≤ 16777216 ∧ mkL o ((upTo 0 n.toNat).map dint) M1 Q | _ => False) := rfl
theorem x_LenSet : dLenSet ta ρ M Q = ta ρ M fun w M1 => ∃ ws ns, DL.listOf M1 w = some ws ∧ asInts ws = some ns ∧ ns.Nodup ∧ ns.length ≤ 4000 ∧ Q (.d (.int (ns.length : Nat))) M1 := rfl
theorem x_ItL : dItL ta ρ M QA = ta ρ M fun w M1 => ∃ ds, listD M1 w = some ds ∧ QA (ds.map .d) M1 := rfl
theorem x_ItT : dItT ta ρ M QA = ta ρ M fun w M1 => ∃ ds, tupD M1 w = some ds ∧ QA (ds.map .d) M1 := rfl
theorem x_Rg1 : dRg1 tA ρ M QA = tA ρ M fun ws M1 => (match ws with | [.d (.int n)] => rgOk n ∧ QA ((upTo 0 n.toNat).map dint) M1 | _ => False) := rfl
theorem x_Rg2 : dRg2 tA ρ M QA = tA ρ M fun ws M1 => (match ws with | [.d (.int m), .d (.int n)] => rgOk m ∧ rgOk n ∧ QA ((upTo m (n - m).toNat).map dint) M1 | _ => False) := rfl
theorem x_Enum : dEnum tA ρ M QA = tA ρ M fun ws M1 => (match ws with | [w] => ∃ ds, listD M1 w = some ds ∧ QA ((enumD 0 ds).map .d) M1 | _ => False) := rfl
theorem x_Zip : dZip tA ρ M QA = tA ρ M fun ws M1 => (match ws with | [v, w] => ∃ ds es, listD M1 v = some ds ∧ listD M1 w = some es ∧ QA ((zipD ds es).map .d) M1 | _ => False) := rfl
theorem x_Comp : dComp o tA g t ta vs ρ M Q = tA ρ M fun ws M1 => dCL g t ta (wipeW ρ vs) (fun acc M' => mkL o acc M' Q) ws [] M1 := rfl
theorem x_Yes : dYes ρ M QB = QB true M := rfl
theorem x_gN : gN i w ρ M QG = QG (ρ.set i (some w)) M := rfl
theorem x_gT : gT n gs w ρ M QG = ∃ ws, tupOf M w = some ws ∧ ws.length = n ∧ gs ws ρ M QG := rfl
theorem x_gSb : gSb ta tb w ρ M QG = ta ρ M fun o M1 => tb ρ M1 fun i M2 => gSubR o i w M2 fun M3 => QG ρ M3 := rfl
theorem x_gsNil : gsNil ws ρ M QG = (ws = [] ∧ QG ρ M) := rfl
theorem x_gsCons : gsCons g gs (w :: ws) ρ M QG = g w ρ M fun ρ1 M1 => gs ws ρ1 M1 QG := rfl
theorem x_Next : dNext D ρ M = D.nx ρ M := rfl
theorem x_Break : dBreak D ρ M = D.bk ρ M := rfl
theorem x_Cont : dCont D ρ M = D.ct ρ M := rfl
theorem x_Never : dNever D ρ M = False := rfl
theorem x_Drop : dDrop ta D ρ M = ta ρ M fun _ M1 => D.nx ρ M1 := rfl
theorem x_Ret : dRet ta D ρ M = ta ρ M D.rt := rfl
theorem x_RetF : dRetF ta D ρ M = ta ρ M fun w M1 => ∃ M2 x, Frz M1 M2 ∧ dat M2 w = some x ∧ D.rt (.d x) M2 := rfl
theorem x_RetN : dRetN D ρ M = D.rt (.d .none) M := rfl
theorem x_IfS : dIfS t s s' D ρ M = t ρ M fun b M1 => if b = true then s D ρ M1 else s' D ρ M1 := rfl
theorem x_Asg : dAsg ta g D ρ M = ta ρ M fun w M1 => g w ρ M1 D.nx := rfl
theorem x_Par : dPar i j tA D ρ M = tA ρ M fun ws M1 => (match ws with | [v, w] => D.nx ((ρ.set i (some v)).set j (some w)) M1 | _ => False) := rfl
theorem x_Par3 : dPar3 i j l tA D ρ M = tA ρ M fun ws M1 => (match ws with | [u, v, w] => D.nx (((ρ.set i (some u)).set j (some v)).set l (some w)) M1 | _ => False) := rfl
theorem x_Aug : dAug i dr ta D ρ M = (match ρ[i]? with | some (some x) => ta ρ M fun y M1 => dr x y M1 fun z M2 => D.nx (ρ.set i (some z)) M2 | _ => False) := rfl
theorem x_For : dFor tA g s D ρ M = tA ρ M fun ws M1 => dLoop g s D ws ρ M1 := rfl
theorem x_sub : dSubR = dIntR (fun _ _ => True) fun i j => .int (i - j) := rfl
theorem x_mod : dModR = dIntR (fun _ j => 0 < j) fun i j => .int (i % j) := rfl
theorem x_div : dDivR = dIntR CDivA fun i j => .int (i / j) := rfl
theorem x_pow : dPowR = dIntR CPowA fun i j => .int (i ^ j.toNat) := rfl
theorem x_lt : dLtR = dIntR (fun _ _ => True) fun i j => .bool (decide (i < j)) := rfl
theorem x_le : dLeR = dIntR (fun _ _ => True) fun i j => .bool (decide (i ≤ j)) := rfl
theorem x_gt : dGtR = dIntR (fun _ _ => True) fun i j => .bool (decide (j < i)) := rfl
theorem x_ge : dGeR = dIntR (fun _ _ => True) fun i j => .bool (decide (j ≤ i)) := rfl
end
local macro_rules | `(tactic| walk_at "dl") => `(tactic| try simp only [startW, List.map_cons, List.map_nil, List.length_cons, List.length_nil, List.replicate_succ, List.replicate_zero, List.cons_append, List.nil_append, Nat.reduceAdd, Nat.reduceSub, Nat.sub_self, Nat.zero_add,
  x_Var, x_C, x_Raw, x_Op, x_Un, x_Test, x_Chain, x_And, x_Or, x_Not, x_AndV, x_OrV, x_NotV, x_If, x_Nil, x_Cons, x_CB, x_Lst, x_Tup, x_Call, x_CallK, x_BM, x_NoPart, x_Part, x_Sl, x_Rev, x_ListRg, x_LenSet, x_ItL, x_ItT, x_Rg1, x_Rg2, x_Enum, x_Zip, x_Comp, x_Yes, x_gN, x_gT, x_gSb, x_gsNil, x_gsCons,
  x_Next, x_Break, x_Cont, x_Never, x_Drop, x_Ret, x_RetF, x_RetN, x_IfS, x_Asg, x_Par, x_Par3, x_Aug, x_For, x_sub, x_mod, x_div, x_pow, x_lt, x_le, x_gt, x_ge, wipeW,
  List.getElem?_cons_zero, List.getElem?_cons_succ, List.set_cons_zero, List.set_cons_succ, dAddR, dIntR, dNegR, dMulR, dIsi, dIsNR, isNone, dAddI, dAbsR, dIntOfR,
  kdOf, Kd.isInt, Kd.isBool, Kd.isList, Kd.isTup, Kd.isStr, Bool.false_xor, Bool.true_xor, Bool.not_false, Bool.not_true, reduceCtorEq, if_true, if_false, Bool.false_eq_true, ite_true, ite_false, true_and, and_true, exists_eq_left', exists_eq_left, Option.some.injEq])
abbrev nums (ns : List Int) : PyData := .list (ns.map .int)
abbrev grid (g : List (List Int)) : PyData := .list (g.map nums)
theorem gc_pure {n : Nat} {Q : W → Mem → Prop} {w : W} {M : Mem} (q : Q w M) : gcQ n Q w M := .inl q
theorem gc_drop {Q : W → Mem → Prop} {w : W} {M g : Mem} (hc : Clos M.length M) (hw : ClosW M.length w) (q : Q w M) : gcQ M.length Q w (M ++ g) := .inr ⟨M, g, rfl, Nat.le_refl _, hc, hw, q⟩
theorem listOf_d (M : Mem) (ds : List PyData) : DL.listOf M (.d (.list ds)) = some (ds.map .d) := rfl
theorem tupOf_d (M : Mem) (ds : List PyData) : tupOf M (.d (.tuple ds)) = some (ds.map .d) := rfl
theorem listD_d (M : Mem) (ds : List PyData) : listD M (.d (.list ds)) = some ds := rfl
theorem lenOf_d (M : Mem) (ds : List PyData) : lenOf M (.d (.list ds)) = some ds.length := by simp [lenOf, DL.listOf]
theorem map_d_int (ns : List Int) : (ns.map PyData.int).map W.d = ns.map dint := by rw [List.map_map]; rfl
theorem mkL_d {ds : List PyData} {M : Mem} {Q : W → Mem → Prop} (q : Q (.d (.list ds)) M) : mkL false (ds.map .d) M Q := by
  unfold mkL
  rw [allD_map]
  exact q
theorem mkL_ints {ns : List Int} {M : Mem} {Q : W → Mem → Prop} (q : Q (.d (nums ns)) M) : mkL false (ns.map dint) M Q := by
  rw [← map_d_int]
  exact mkL_d q
theorem mkL_own {ws : List W} {M : Mem} {Q : W → Mem → Prop} (q : Q (.own M.length) (M ++ [.lst ws])) : mkL true ws M Q := q
theorem small63 {n : Nat} (h : n ≤ 16777216) : n ≤ sizeLine := by rw [sizeLine_eq]; exact h
/-- a comprehension whose step changes nothing: p tells what is kept, h what is made of it -/
theorem comp_filter {α : Type} {g : DTG} {tt : DT Bool} {te : DW} {ρ0 : Rho} {M : Mem} {Q : List W → Mem → Prop} (inj : α → W) (p : α → Bool) (h : α → W) : ∀ (xs : List α) (acc : List W), acc.length + xs.length ≤ sizeLine →
    (∀ x ∈ xs, ∀ (acc : List W) (N : List W → Mem → Prop), acc.length < sizeLine → N (if p x then acc ++ [h x] else acc) M → g (inj x) ρ0 M fun ρ1 M1 => tt ρ1 M1 fun b M2 => if b = true then te ρ1 M2 fun y M3 => acc.length < sizeLine ∧ N (acc ++ [y]) M3 else N acc M2) →
    Q (acc ++ (xs.filter p).map h) M → dCL g tt te ρ0 Q (xs.map inj) acc M
  | [], acc, _, _, q => by simpa [dCL] using q
  | x :: xs, acc, hl, hs, q => by
    rw [List.length_cons] at hl
    refine ⟨fun acc' M' => acc' = (if p x then acc ++ [h x] else acc) ∧ M' = M, hs x List.mem_cons_self acc (fun acc' M' => acc' = (if p x then acc ++ [h x] else acc) ∧ M' = M) (by omega) ⟨rfl, rfl⟩, ?_⟩
    rintro acc' M' ⟨ea, em⟩
    subst ea em
    refine comp_filter inj p h xs _ ?_ (fun y hy => hs y (List.mem_cons_of_mem _ hy)) ?_
    · split
      · rw [List.length_append, List.length_singleton]; omega
      · omega
    · cases hp : p x with
      | true =>
        rw [List.filter_cons_of_pos hp, List.map_cons] at q
        simpa using q
      | false =>
        rw [List.filter_cons_of_neg (by simp [hp])] at q
        simpa using q
theorem comp_map {α : Type} {g : DTG} {tt : DT Bool} {te : DW} {ρ0 : Rho} {M : Mem} {Q : List W → Mem → Prop} (inj : α → W) (h : α → W) (xs : List α) (hl : xs.length ≤ sizeLine)
    (hs : ∀ x ∈ xs, ∀ (acc : List W) (N : List W → Mem → Prop), acc.length < sizeLine → N (acc ++ [h x]) M → g (inj x) ρ0 M fun ρ1 M1 => tt ρ1 M1 fun b M2 => if b = true then te ρ1 M2 fun y M3 => acc.length < sizeLine ∧ N (acc ++ [y]) M3 else N acc M2)
    (q : Q (xs.map h) M) : dCL g tt te ρ0 Q (xs.map inj) [] M :=
  comp_filter inj (fun _ => true) h xs [] (by simpa using hl) (fun x hx acc N ha hN => hs x hx acc N ha (by simpa using hN)) (by rw [List.filter_eq_self.mpr (fun _ _ => rfl)]; simpa using q)
/-- a loop by its invariant: what is walked so far, the slots, the cells -/
theorem loop_inv {α : Type} {g : DTG} {tb : DTS} {D : DEnds} (inj : α → W) (I : List α → Rho → Mem → Prop) (xs : List α) : ∀ (post pre : List α) (ρ : Rho) (M : Mem), xs = pre ++ post → I pre ρ M →
    (∀ (pre : List α) (x : α) (post : List α) (ρ : Rho) (M : Mem), xs = pre ++ x :: post → I pre ρ M → g (inj x) ρ M fun ρ1 M1 => tb { D with nx := I (pre ++ [x]), ct := I (pre ++ [x]), bk := D.nx } ρ1 M1) →
    (∀ (ρ : Rho) (M : Mem), I xs ρ M → D.nx ρ M) → dLoop g tb D (post.map inj) ρ M
  | [], pre, ρ, M, e, i, _, hd => by
    rw [List.append_nil] at e
    subst e
    exact hd ρ M i
  | x :: post, pre, ρ, M, e, i, hs, hd => by
    refine ⟨I (pre ++ [x]), hs pre x post ρ M e i, fun ρ' M' i' => ?_⟩
    exact loop_inv inj I xs post (pre ++ [x]) ρ' M' (by rw [e]; simp) i' hs hd
theorem loop_by {α : Type} {g : DTG} {tb : DTS} {D : DEnds} (inj : α → W) (I : List α → Rho → Mem → Prop) (xs : List α) {ρ : Rho} {M : Mem} (h0 : I [] ρ M)
    (hs : ∀ (pre : List α) (x : α) (post : List α) (ρ : Rho) (M : Mem), xs = pre ++ x :: post → I pre ρ M → g (inj x) ρ M fun ρ1 M1 => tb { D with nx := I (pre ++ [x]), ct := I (pre ++ [x]), bk := D.nx } ρ1 M1)
    (hd : ∀ (ρ : Rho) (M : Mem), I xs ρ M → D.nx ρ M) : dLoop g tb D (xs.map inj) ρ M := loop_inv inj I xs xs [] ρ M rfl h0 hs hd
/-! ### items -/
theorem ixN_of {n : Nat} {i : Int} {j : Nat} (hj : j < n) (h : i = (j : Int) ∨ i = (j : Int) - n) : ixN n i = some j := by
  unfold ixN
  rcases h with rfl | rfl
  · rw [if_pos (by omega), if_pos (by omega)]; simp
  · rw [if_neg (by omega), if_pos (by omega)]
    congr 1
    omega
theorem atI_of {α : Type} {l : List α} {i : Int} {j : Nat} {v : α} (hv : l[j]? = some v) (h : i = (j : Int) ∨ i = (j : Int) - l.length) : atI l i = some v := by
  unfold atI
  rw [ixN_of (List.getElem?_eq_some_iff.mp hv).1 h]
  exact hv
theorem ix_d {ds : List PyData} {i : Int} {j : Nat} {d : PyData} {M : Mem} {Q : W → Mem → Prop} (hv : ds[j]? = some d) (h : i = (j : Int) ∨ i = (j : Int) - ds.length) (q : Q (.d d) M) : dIxR (.d (.list ds)) (.d (.int i)) M Q :=
  .inl ⟨_, _, rfl, atI_of (j := j) (by rw [List.getElem?_map, hv]; rfl) (by rw [List.length_map]; exact h), q⟩
theorem ix_int {ns : List Int} {i : Int} {j : Nat} {v : Int} {M : Mem} {Q : W → Mem → Prop} (hv : ns[j]? = some v) (h : i = (j : Int) ∨ i = (j : Int) - ns.length) (q : Q (.d (.int v)) M) : dIxR (.d (nums ns)) (.d (.int i)) M Q :=
  ix_d (j := j) (by rw [List.getElem?_map, hv]; rfl) (by rw [List.length_map]; exact h) q
theorem ix_row {g : List (List Int)} {i : Int} {j : Nat} {v : List Int} {M : Mem} {Q : W → Mem → Prop} (hv : g[j]? = some v) (h : i = (j : Int) ∨ i = (j : Int) - g.length) (q : Q (.d (nums v)) M) : dIxR (.d (grid g)) (.d (.int i)) M Q :=
  ix_d (j := j) (by rw [List.getElem?_map, hv]; rfl) (by rw [List.length_map]; exact h) q
theorem enumD_at {ds pre post : List PyData} {x : PyData} (e : enumD 0 ds = pre ++ x :: post) : ∃ d, ds[pre.length]? = some d ∧ x = .tuple [.int (pre.length : Nat), d] := by
  have h : (enumD 0 ds)[pre.length]? = some x := by rw [e, List.getElem?_append_right (Nat.le_refl _)]; simp
  rw [enumD_get, Option.map_eq_some_iff] at h
  obtain ⟨d, h1, h2⟩ := h
  exact ⟨d, h1, by rw [← h2, Nat.zero_add]⟩
theorem upTo_at {lo : Int} {n : Nat} {pre post : List Int} {x : Int} (e : upTo lo n = pre ++ x :: post) : pre.length < n ∧ x = lo + (pre.length : Nat) := by
  have h : (upTo lo n)[pre.length]? = some x := by rw [e, List.getElem?_append_right (Nat.le_refl _)]; simp
  exact upTo_get h
theorem upTo_mem {lo x : Int} {n : Nat} (h : x ∈ upTo lo n) : lo ≤ x ∧ x < lo + n := by
  obtain ⟨i, hi⟩ := List.getElem?_of_mem h
  obtain ⟨h1, h2⟩ := upTo_get hi
  omega
/-! ### tables -/
def at2 (g : List (List Int)) (i j : Nat) : Int := (g.getD i []).getD j 0
structure Tbl (g : List (List Int)) : Prop where
  lo : 1 ≤ g.length
  hi : g.length ≤ 30
  sq : ∀ r ∈ g, r.length = g.length
  bd : ∀ r ∈ g, ∀ v ∈ r, 0 ≤ v ∧ v ≤ 1000000000000000000000000000000
  zd : ∀ i, i < g.length → at2 g i i = 0
  sy : ∀ i j, i < g.length → j < g.length → at2 g i j = at2 g j i
theorem Tbl.row {g : List (List Int)} (t : Tbl g) {i : Nat} (hi : i < g.length) : ∃ r, g[i]? = some r ∧ r.length = g.length ∧ r ∈ g ∧ ∀ j, j < g.length → r[j]? = some (at2 g i j) := by
  refine ⟨g[i], List.getElem?_eq_getElem hi, t.sq _ (List.getElem_mem hi), List.getElem_mem hi, fun j hj => ?_⟩
  have hl : j < (g[i]).length := by rw [t.sq _ (List.getElem_mem hi)]; exact hj
  unfold at2
  rw [List.getElem?_eq_getElem hl]
  simp [List.getD_eq_getElem?_getD, List.getElem?_eq_getElem hi, List.getElem?_eq_getElem hl]
theorem Tbl.bnd {g : List (List Int)} (t : Tbl g) {i j : Nat} (hi : i < g.length) (hj : j < g.length) : 0 ≤ at2 g i j ∧ at2 g i j ≤ 1000000000000000000000000000000 := by
  obtain ⟨r, _, _, hr, ha⟩ := t.row hi
  exact t.bd r hr _ (List.mem_of_getElem? (ha j hj))
/-- places: different, below n -/
structure Places (n : Nat) (l : List Int) : Prop where
  nd : l.Nodup
  lt : ∀ p ∈ l, 0 ≤ p ∧ p < n
theorem nodup_bound : ∀ (n : Nat) (l : List Int), l.Nodup → (∀ p ∈ l, 0 ≤ p ∧ p < n) → l.length ≤ n
  | 0, l, _, h => by
    cases l with
    | nil => simp
    | cons x l => have := h x List.mem_cons_self; omega
  | n + 1, l, nd, h => by
    have h1 := nodup_bound n (l.erase (n : Int)) (nd.erase _) (fun p hp => by
      have hm := List.mem_of_mem_erase hp
      have hne : p ≠ (n : Int) := fun e => by
        subst e
        exact (List.Nodup.not_mem_erase nd) hp
      have := h p hm
      omega)
    rw [List.length_erase] at h1
    split at h1 <;> omega
theorem Places.len {n : Nat} {l : List Int} (p : Places n l) : l.length ≤ n := nodup_bound n l p.nd p.lt

/-! ### the law's draws -/
def tapC (a b c : Int) : Cell := .lst [dint a, dint b, dint c]
def TapOk (c : Int) : Prop := 0 ≤ c ∧ c < 1099511627776
theorem lt_of_some {α : Type} {l : List α} {i : Nat} {x : α} (h : l[i]? = some x) : i < l.length := (List.getElem?_eq_some_iff.mp h).1
theorem clos_tap {M : Mem} {t n : Nat} {a b c : Int} (h : Clos n M) : Clos n (M.set t (tapC a b c)) := fun d hd => by
  rcases List.mem_or_eq_of_mem_set hd with h1 | h1
  · exact h d h1
  · subst h1
    intro w hw
    simp only [List.mem_cons, List.not_mem_nil, or_false] at hw
    rcases hw with rfl | rfl | rfl <;> trivial
theorem getL {M : Mem} {x : Cell} {B : Mem} : (M ++ x :: B)[M.length]? = some x := by rw [List.getElem?_append_right (Nat.le_refl _)]; simp
theorem getL1 {M : Mem} {x y : Cell} {B : Mem} : (M ++ x :: y :: B)[M.length + 1]? = some y := by rw [List.getElem?_append_right (by omega)]; simp
theorem setL {M : Mem} {x z : Cell} {B : Mem} : (M ++ x :: B).set M.length z = M ++ z :: B := by rw [List.set_append_right _ _ (by omega)]; simp
theorem setL1 {M : Mem} {x y z : Cell} {B : Mem} : (M ++ x :: y :: B).set (M.length + 1) z = M ++ x :: z :: B := by rw [List.set_append_right _ _ (by omega)]; simp
theorem setA {M B : Mem} {t : Nat} {z : Cell} (h : t < M.length) : (M ++ B).set t z = M.set t z ++ B := List.set_append_left _ _ h
theorem getA {M B : Mem} {t : Nat} (h : t < M.length) : (M ++ B)[t]? = M[t]? := List.getElem?_append_left h
theorem optAll_map {α β γ : Type} {f : β → Option γ} {g : α → β} {h : α → γ} : ∀ l : List α, (∀ x ∈ l, f (g x) = some (h x)) → optAll f (l.map g) = some (l.map h)
  | [], _ => rfl
  | x :: l, k => by
    simp only [List.map_cons, optAll, k x List.mem_cons_self, optAll_map l fun y hy => k y (List.mem_cons_of_mem _ hy)]
theorem toD_own {M : Mem} {j : Nat} {ns : List Int} (h : M[j]? = some (.lst (ns.map dint))) : toD M (.own j) = some (nums ns) := by
  show (match M[j]? with | some (.frz x) => some x | some (.lst ws) => (optAll (toDn 3 M) ws).map PyData.list | some (.tup ws) => (optAll (toDn 3 M) ws).map PyData.tuple | none => none) = _
  rw [h]
  show (optAll (toDn 3 M) (ns.map dint)).map PyData.list = _
  rw [optAll_map (g := dint) (h := PyData.int) ns fun x _ => rfl]
  rfl
theorem cut_to {α : Type} (l : List α) {i : Int} (h : 0 ≤ i) : cutW l none (some i) = l.take i.toNat := by
  obtain ⟨n, rfl⟩ := Int.eq_ofNat_of_zero_le h
  unfold cutW
  rw [HT.sIx_none, HT.sIx_nat]
  simp
theorem cut_from {α : Type} (l : List α) {i : Int} (h : 0 ≤ i) : cutW l (some i) none = l.drop i.toNat := by
  obtain ⟨n, rfl⟩ := Int.eq_ofNat_of_zero_le h
  unfold cutW
  rw [HT.sIx_none, HT.sIx_nat]
  simp only [Int.toNat_natCast]
  rcases Nat.le_total n l.length with q | q
  · rw [Nat.min_eq_left q, ← List.length_drop, List.take_length]
  · rw [Nat.min_eq_right q, List.drop_length, List.drop_of_length_le q]; simp

/-! ### a table that is built: its rows are cells behind A, then the cell of their handles -/
def rowC (r : List Int) : Cell := .lst (r.map dint)
def hands (k n : Nat) : List W := (List.range n).map fun i => .own (k + i)
def gm (A : Mem) (g : List (List Int)) : Mem := A ++ (g.map rowC ++ [.lst (hands A.length g.length)])
theorem gm_row {A : Mem} {g : List (List Int)} {i : Nat} {r : List Int} (h : g[i]? = some r) : (gm A g)[A.length + i]? = some (rowC r) := by
  unfold gm
  have hi := lt_of_some h
  rw [List.getElem?_append_right (by omega), List.getElem?_append_left (by rw [List.length_map]; omega), List.getElem?_map, Nat.add_sub_cancel_left, h]
  rfl
theorem gm_top (A : Mem) (g : List (List Int)) : (gm A g)[A.length + g.length]? = some (.lst (hands A.length g.length)) := by
  unfold gm
  rw [List.getElem?_append_right (by omega), List.getElem?_append_right (by rw [List.length_map]; omega), List.length_map]
  simp
theorem gm_tap {A : Mem} {g : List (List Int)} {t : Nat} {c : Cell} (h : t < A.length) : (gm A g).set t c = gm (A.set t c) g := by
  unfold gm
  rw [setA h, List.length_set]
theorem gm_get {A : Mem} {g : List (List Int)} {t : Nat} (h : t < A.length) : (gm A g)[t]? = A[t]? := getA h
theorem gm_set {A : Mem} {g : List (List Int)} {i : Nat} {r : List Int} (h : i < g.length) : (gm A g).set (A.length + i) (rowC r) = gm A (g.set i r) := by
  unfold gm
  rw [List.set_append_right _ _ (by omega), Nat.add_sub_cancel_left, setA (by rw [List.length_map]; exact h), List.length_set]
  congr 2
  rw [List.map_set]
theorem hands_get {k n i : Nat} (h : i < n) : (hands k n)[i]? = some (.own (k + i)) := by
  unfold hands
  rw [List.getElem?_map, List.getElem?_range h]
  rfl
theorem hands_len (k n : Nat) : (hands k n).length = n := by unfold hands; simp
/-- grid[i], a row's handle -/
theorem gm_ix {A : Mem} {g : List (List Int)} {i : Nat} {Q : W → Mem → Prop} (h : i < g.length) (q : Q (.own (A.length + i)) (gm A g)) : dIxR (.own (A.length + g.length)) (.d (.int (i : Nat))) (gm A g) Q := by
  refine .inl ⟨hands A.length g.length, _, ?_, atI_of (hands_get h) (.inl rfl), q⟩
  simp only [DL.listOf, gm_top]
/-- grid[i][j] = v -/
theorem gm_put {A : Mem} {g : List (List Int)} {i j : Nat} {r : List Int} {v : Int} {Q : Mem → Prop} (h : g[i]? = some r) (hj : j < r.length) (q : Q (gm A (g.set i (r.set j v)))) : gSubR (.own (A.length + i)) (.d (.int (j : Nat))) (dint v) (gm A g) Q := by
  refine ⟨r.map dint, j, gm_row h, ixN_of (by rw [List.length_map]; exact hj) (.inl rfl), ?_⟩
  have e : Cell.lst ((r.map dint).set j (dint v)) = rowC (r.set j v) := by unfold rowC; rw [List.map_set]
  rw [e, gm_set (lt_of_some h)]
  exact q
theorem frz_trans {M M' M'' : Mem} (a : Frz M M') (b : Frz M' M'') : Frz M M'' := by
  induction a with
  | refl M => exact b
  | step s _ ih => exact .step s (ih b)
/-- rows, one after another, are data -/
theorem frz_rows (B : Mem) : ∀ (g : List (List Int)) (A : Mem), Frz (A ++ (g.map rowC ++ B)) (A ++ (g.map (fun r => Cell.frz (nums r)) ++ B))
  | [], A => .refl _
  | r :: g, A => by
    have h1 : FrzStep (A ++ ((r :: g).map rowC ++ B)) (A ++ (Cell.frz (nums r) :: (g.map rowC ++ B))) := by
      refine ⟨A.length, r.map dint, r.map .int, ?_, optAll_map r fun _ _ => rfl, ?_⟩
      · exact getL
      · exact setL.symm
    refine .step h1 ?_
    have ih := frz_rows B g (A ++ [Cell.frz (nums r)])
    simpa using ih
theorem gm_frz (A : Mem) (g : List (List Int)) : ∃ B, Frz (gm A g) (A ++ B) ∧ dat (A ++ B) (.own (A.length + g.length)) = some (grid g) := by
  refine ⟨g.map (fun r => Cell.frz (nums r)) ++ [.frz (grid g)], frz_trans (frz_rows _ g A) (.step ⟨A.length + g.length, hands A.length g.length, g.map nums, ?_, ?_, ?_⟩ (.refl _)), ?_⟩
  · rw [List.getElem?_append_right (by omega), List.getElem?_append_right (by rw [List.length_map]; omega), List.length_map]
    simp
  · have e : g.map nums = (List.range g.length).map fun i => nums (g.getD i []) := by
      apply List.ext_getElem?
      intro i
      rw [List.getElem?_map, List.getElem?_map]
      rcases Nat.lt_or_ge i g.length with h | h
      · rw [List.getElem?_range h, List.getElem?_eq_getElem h]
        simp [List.getD_eq_getElem?_getD, List.getElem?_eq_getElem h]
      · rw [List.getElem?_eq_none h, List.getElem?_eq_none (by simpa using h)]
        rfl
    rw [e]
    unfold hands
    refine optAll_map _ fun i hi => ?_
    have hi := List.mem_range.mp hi
    show (match (A ++ (g.map (fun r => Cell.frz (nums r)) ++ [Cell.lst ((List.range g.length).map fun i => W.own (A.length + i))]))[A.length + i]? with | some (.frz x) => some x | _ => none) = _
    rw [List.getElem?_append_right (by omega), List.getElem?_append_left (by rw [List.length_map]; omega), List.getElem?_map, Nat.add_sub_cancel_left, List.getElem?_eq_getElem hi]
    simp [List.getD_eq_getElem?_getD, List.getElem?_eq_getElem hi]
  · rw [List.set_append_right _ _ (by omega), Nat.add_sub_cancel_left, List.set_append_right _ _ (by rw [List.length_map]; omega), List.length_map]
    simp
  · show (match (A ++ (g.map (fun r => Cell.frz (nums r)) ++ [Cell.frz (grid g)]))[A.length + g.length]? with | some (.frz x) => some x | _ => none) = _
    rw [List.getElem?_append_right (by omega), List.getElem?_append_right (by rw [List.length_map]; omega), List.length_map]
    simp
/-- a comprehension that makes rows -/
theorem rows_made {g : DTG} {tt : DT Bool} {te : DW} {ρ0 : Rho} {Q : List W → Mem → Prop} {r : List Int} (xs : List Int) : ∀ (todo : List Int) (A : Mem) (k : Nat) (acc : List W), acc.length + todo.length ≤ 1000 → acc = hands k acc.length → A.length = k + acc.length →
    (∀ x ∈ todo, ∀ (acc : List W) (A : Mem) (N : List W → Mem → Prop), acc.length < sizeLine → N (acc ++ [.own A.length]) (A ++ [rowC r]) → g (dint x) ρ0 A fun ρ1 M1 => tt ρ1 M1 fun b M2 => if b = true then te ρ1 M2 fun y M3 => acc.length < sizeLine ∧ N (acc ++ [y]) M3 else N acc M2) →
    Q (hands k (acc.length + todo.length)) (A ++ (List.replicate todo.length r).map rowC) → dCL g tt te ρ0 Q (todo.map dint) acc A
  | [], A, k, acc, _, ha, _, _, q => by
    simp only [List.length_nil, Nat.add_zero, List.replicate_zero, List.map_nil, List.append_nil] at q
    rw [← ha] at q
    exact q
  | x :: todo, A, k, acc, hl, ha, hA, hs, q => by
    rw [List.length_cons] at hl
    refine ⟨fun acc' M' => acc' = acc ++ [.own A.length] ∧ M' = A ++ [rowC r], hs x List.mem_cons_self acc A (fun acc' M' => acc' = acc ++ [.own A.length] ∧ M' = A ++ [rowC r]) (small1000 (by omega)) ⟨rfl, rfl⟩, ?_⟩
    rintro acc' M' ⟨ea, em⟩
    subst ea em
    refine rows_made xs todo _ k _ (by rw [List.length_append, List.length_singleton]; omega) ?_ (by rw [List.length_append, List.length_append, List.length_singleton, List.length_singleton]; omega) (fun y hy => hs y (List.mem_cons_of_mem _ hy)) ?_
    · rw [List.length_append, List.length_singleton]
      unfold hands
      rw [List.range_succ, List.map_append, List.map_singleton, ← hA]
      congr 1
    · rw [List.length_append, List.length_singleton, show acc.length + 1 + todo.length = acc.length + (x :: todo).length by rw [List.length_cons]; omega]
      rw [List.length_cons, List.replicate_succ, List.map_cons] at q
      simpa using q
theorem at2_set {g : List (List Int)} {i j : Nat} {r : List Int} {v : Int} (h : g[i]? = some r) (hj : j < r.length) (a b : Nat) : at2 (g.set i (r.set j v)) a b = if a = i ∧ b = j then v else at2 g a b := by
  have hi := lt_of_some h
  unfold at2
  simp only [List.getD_eq_getElem?_getD]
  by_cases ha : a = i
  · subst ha
    rw [List.getElem?_set_self hi]
    simp only [Option.getD_some, true_and]
    by_cases hb : b = j
    · subst hb
      rw [List.getElem?_set_self hj, if_pos rfl]
      rfl
    · rw [List.getElem?_set_ne (Ne.symm hb), if_neg hb, h]
      rfl
  · rw [List.getElem?_set_ne (Ne.symm ha), if_neg (fun z => ha z.1)]
theorem zero_tbl {n : Nat} (h1 : 1 ≤ n) (h2 : n ≤ 30) : Tbl (List.replicate n (List.replicate n (0 : Int))) := by
  have hz : ∀ a b, at2 (List.replicate n (List.replicate n (0 : Int))) a b = 0 := fun a b => by
    unfold at2
    simp only [List.getD_eq_getElem?_getD, List.getElem?_replicate]
    split
    · simp only [Option.getD_some, List.getElem?_replicate]
      split <;> rfl
    · rfl
  refine ⟨by simpa using h1, by simpa using h2, fun r hr => ?_, fun r hr v hv => ?_, fun i _ => hz i i, fun i j _ _ => by rw [hz, hz]⟩
  · rw [(List.mem_replicate.mp hr).2]; simp
  · rw [(List.mem_replicate.mp hr).2] at hv
    rw [(List.mem_replicate.mp hv).2]
    decide
/-- both distances of a pair are put in -/
theorem Tbl.put2 {g : List (List Int)} (t : Tbl g) {i j : Nat} {v : Int} (hi : i < g.length) (hj : j < g.length) (hij : i ≠ j) (h0 : 0 ≤ v) (h1 : v ≤ 1000000000000000000000000000000) :
    ∃ r, g[i]? = some r ∧ r.length = g.length ∧ ∃ r', (g.set i (r.set j v))[j]? = some r' ∧ r'.length = g.length ∧ Tbl ((g.set i (r.set j v)).set j (r'.set i v)) := by
  obtain ⟨r, hr, hl, hm, _⟩ := t.row hi
  obtain ⟨r', hr', hl', hm', _⟩ := t.row hj
  have hg : (g.set i (r.set j v))[j]? = some r' := by rw [List.getElem?_set_ne hij]; exact hr'
  refine ⟨r, hr, hl, r', hg, hl', ?_⟩
  have e : ∀ a b, at2 ((g.set i (r.set j v)).set j (r'.set i v)) a b = if a = j ∧ b = i then v else if a = i ∧ b = j then v else at2 g a b := fun a b => by
    rw [at2_set hg (by omega), at2_set hr (by omega)]
  have len : ((g.set i (r.set j v)).set j (r'.set i v)).length = g.length := by simp
  have mem : ∀ x ∈ (g.set i (r.set j v)).set j (r'.set i v), x ∈ g ∨ x = r.set j v ∨ x = r'.set i v := fun x hx => by
    rcases List.mem_or_eq_of_mem_set hx with h | h
    · rcases List.mem_or_eq_of_mem_set h with h | h
      · exact .inl h
      · exact .inr (.inl h)
    · exact .inr (.inr h)
  refine ⟨by rw [len]; exact t.lo, by rw [len]; exact t.hi, fun x hx => ?_, fun x hx y hy => ?_, fun a ha => ?_, fun a b ha hb => ?_⟩
  · rw [len]
    rcases mem x hx with h | rfl | rfl
    · exact t.sq x h
    · rw [List.length_set]; exact hl
    · rw [List.length_set]; exact hl'
  · rcases mem x hx with h | rfl | rfl
    · exact t.bd x h y hy
    · rcases List.mem_or_eq_of_mem_set hy with h | rfl
      · exact t.bd r hm y h
      · exact ⟨h0, h1⟩
    · rcases List.mem_or_eq_of_mem_set hy with h | rfl
      · exact t.bd r' hm' y h
      · exact ⟨h0, h1⟩
  · rw [len] at ha
    rw [e, if_neg (fun z => hij (z.2.symm.trans z.1)), if_neg (fun z => hij (z.1.symm.trans z.2))]
    exact t.zd a ha
  · rw [len] at ha hb
    rw [e, e]
    have := t.sy a b ha hb
    by_cases c1 : a = j ∧ b = i
    · rw [if_pos c1, if_neg (fun z => hij (c1.2.symm.trans z.1)), if_pos ⟨c1.2, c1.1⟩]
    · rw [if_neg c1]
      by_cases c2 : a = i ∧ b = j
      · rw [if_pos c2, if_pos ⟨c2.2, c2.1⟩]
      · rw [if_neg c2, if_neg (fun z => c2 ⟨z.2, z.1⟩), if_neg (fun z => c1 ⟨z.2, z.1⟩)]
        exact this

/-! ### the length of a trip -/
def rsum (n : Nat) (F : Nat → Int) : Int := ((List.range n).map F).sum
theorem rsum_last (n : Nat) (F : Nat → Int) : rsum (n + 1) F = rsum n F + F n := by simp [rsum, List.range_succ]
theorem rsum_first : ∀ (n : Nat) (F : Nat → Int), rsum (n + 1) F = F 0 + rsum n fun i => F (i + 1)
  | 0, F => by simp [rsum, List.range_succ]
  | n + 1, F => by
    rw [rsum_last, rsum_first n F, rsum_last n]
    omega
theorem rsum_congr {n : Nat} {F G : Nat → Int} (h : ∀ i, i < n → F i = G i) : rsum n F = rsum n G := by
  unfold rsum
  congr 1
  exact List.map_congr_left fun i hi => h i (List.mem_range.mp hi)
theorem rsum_on {n : Nat} {F : Nat → Int} (h : F n = F 0) : rsum n F = rsum n fun i => F (i + 1) := by
  have h1 := rsum_last n F
  have h2 := rsum_first n F
  omega
theorem rsum_onk {n : Nat} {F : Nat → Int} (h : ∀ i, F (i + n) = F i) : ∀ k, rsum n (fun i => F (i + k)) = rsum n F
  | 0 => rfl
  | k + 1 => by
    rw [← rsum_onk h k]
    refine Eq.trans (rsum_congr (G := fun i => F (i + 1 + k)) fun i _ => by rw [show i + (k + 1) = i + 1 + k by omega]) (rsum_on (F := fun i => F (i + k)) ?_).symm
    show F (n + k) = F (0 + k)
    rw [show n + k = k + n by omega, h, Nat.zero_add]
theorem rsum_rev : ∀ (n : Nat) (F : Nat → Int), rsum n (fun i => F (n - 1 - i)) = rsum n F
  | 0, F => rfl
  | n + 1, F => by
    rw [rsum_first, rsum_last n F, ← rsum_rev n F]
    have : rsum n (fun i => F (n + 1 - 1 - (i + 1))) = rsum n fun i => F (n - 1 - i) := rsum_congr fun i _ => by rw [show n + 1 - 1 - (i + 1) = n - 1 - i by omega]
    rw [this]
    simp only [Nat.add_sub_cancel, Nat.sub_zero]
    omega
/-- the stop at i, round and round -/
def stopAt (l : List Int) (i : Nat) : Nat := (l.getD (i % l.length) 0).toNat
theorem stopAt_on (l : List Int) (i : Nat) : stopAt l (i + l.length) = stopAt l i := by unfold stopAt; rw [Nat.add_mod_right]
def tlen (g : List (List Int)) (l : List Int) : Int := ((List.range l.length).map fun i => at2 g (l.getD i 0).toNat (l.getD ((i + l.length - 1) % l.length) 0).toNat).sum
/-- forward -/
def flen (g : List (List Int)) (l : List Int) : Int := rsum l.length fun i => at2 g (stopAt l i) (stopAt l (i + 1))
theorem stopAt_lt {n : Nat} {l : List Int} (h : ∀ p ∈ l, 0 ≤ p ∧ p < (n : Int)) (hl : 0 < l.length) (i : Nat) : stopAt l i < n := by
  unfold stopAt
  have hi : i % l.length < l.length := Nat.mod_lt _ hl
  have := h (l.getD (i % l.length) 0) (by rw [List.getD_eq_getElem?_getD, List.getElem?_eq_getElem hi]; exact List.getElem_mem hi)
  omega
theorem tlen_flen {g : List (List Int)} (t : Tbl g) {l : List Int} (h : ∀ p ∈ l, 0 ≤ p ∧ p < (g.length : Int)) : tlen g l = flen g l := by
  rcases Nat.eq_zero_or_pos l.length with e | hl
  · unfold tlen flen rsum
    rw [e]
    rfl
  · have e1 : tlen g l = rsum l.length fun i => at2 g (stopAt l i) (stopAt l (i + l.length - 1)) := rsum_congr fun i hi => by
      unfold stopAt
      rw [Nat.mod_eq_of_lt hi]
    rw [e1, rsum_on]
    · refine rsum_congr fun i hi => ?_
      rw [show i + 1 + l.length - 1 = i + l.length by omega, stopAt_on]
      exact t.sy _ _ (stopAt_lt h hl _) (stopAt_lt h hl _)
    · have e2 := stopAt_on l 0
      rw [Nat.zero_add] at e2
      rw [e2, Nat.zero_add, show l.length + l.length - 1 = l.length - 1 + l.length by omega, stopAt_on]
theorem flen_turn (g : List (List Int)) (l : List Int) {k : Nat} (hk : k ≤ l.length) : flen g (l.drop k ++ l.take k) = flen g l := by
  have hn : (l.drop k ++ l.take k).length = l.length := by simp; omega
  have hs : ∀ i, i < l.length → (l.drop k ++ l.take k).getD i 0 = l.getD ((i + k) % l.length) 0 := fun i hi => by
    simp only [List.getD_eq_getElem?_getD]
    rcases Nat.lt_or_ge i (l.length - k) with h | h
    · rw [List.getElem?_append_left (by rw [List.length_drop]; exact h), List.getElem?_drop, Nat.mod_eq_of_lt (by omega), Nat.add_comm k i]
    · rw [List.getElem?_append_right (by rw [List.length_drop]; exact h), List.length_drop, List.getElem?_take, if_pos (by omega)]
      have : (i + k) % l.length = i - (l.length - k) := by
        rw [show i + k = (i - (l.length - k)) + l.length by omega, Nat.add_mod_right, Nat.mod_eq_of_lt (by omega)]
      rw [this]
  have hst : 0 < l.length → ∀ i, stopAt (l.drop k ++ l.take k) i = stopAt l (i + k) := fun hl i => by
    unfold stopAt
    rw [hn, hs _ (Nat.mod_lt _ hl), Nat.mod_add_mod]
  unfold flen
  rw [hn]
  rcases Nat.eq_zero_or_pos l.length with e | hl
  · rw [e]; rfl
  · rw [← rsum_onk (n := l.length) (F := fun i => at2 g (stopAt l i) (stopAt l (i + 1))) (fun i => by rw [stopAt_on, show i + l.length + 1 = i + 1 + l.length by omega, stopAt_on]) k]
    refine rsum_congr fun i _ => ?_
    rw [hst hl, hst hl, show i + 1 + k = i + k + 1 by omega]
theorem tlen_back (g : List (List Int)) (l : List Int) : tlen g l.reverse = flen g l := by
  rcases Nat.eq_zero_or_pos l.length with e | hl
  · have : l = [] := List.length_eq_zero_iff.mp e
    subst this
    rfl
  · unfold tlen flen
    rw [List.length_reverse, ← rsum_rev]
    refine rsum_congr fun i hi => ?_
    have hr : ∀ j, j < l.length → l.reverse.getD j 0 = l.getD (l.length - 1 - j) 0 := fun j hj => by
      simp only [List.getD_eq_getElem?_getD]
      rw [List.getElem?_reverse hj]
    unfold stopAt
    rw [hr i hi, hr _ (Nat.mod_lt _ hl), Nat.mod_eq_of_lt (show l.length - 1 - i < l.length by omega)]
    rcases Nat.eq_zero_or_pos i with rfl | h0
    · rw [Nat.zero_add, Nat.mod_eq_of_lt (show l.length - 1 < l.length by omega), show l.length - 1 - 0 + 1 = l.length by omega, Nat.mod_self, Nat.sub_self]
    · rw [show i + l.length - 1 = i - 1 + l.length by omega, Nat.add_mod_right, Nat.mod_eq_of_lt (show i - 1 < l.length by omega), Nat.mod_eq_of_lt (show l.length - 1 - i + 1 < l.length by omega), show l.length - 1 - (i - 1) = l.length - 1 - i + 1 by omega]
theorem tlen_rev {g : List (List Int)} (t : Tbl g) {l : List Int} (h : ∀ p ∈ l, 0 ≤ p ∧ p < (g.length : Int)) : tlen g l.reverse = tlen g l := by rw [tlen_back, tlen_flen t h]
theorem tlen_turn {g : List (List Int)} (t : Tbl g) {l : List Int} (h : ∀ p ∈ l, 0 ≤ p ∧ p < (g.length : Int)) {k : Nat} (hk : k ≤ l.length) : tlen g (l.drop k ++ l.take k) = tlen g l := by
  rw [tlen_flen t h, tlen_flen t (fun p hp => h p ((List.mem_append.mp hp).elim List.mem_of_mem_drop List.mem_of_mem_take)), flen_turn g l hk]
theorem tlen_one (g : List (List Int)) (p : Int) : tlen g [p] = at2 g p.toNat p.toNat := by simp [tlen, List.range_succ]
theorem tlen_two (g : List (List Int)) (p q : Int) : tlen g [p, q] = at2 g p.toNat q.toNat + at2 g q.toNat p.toNat := by simp [tlen, List.range_succ]

/-! is_between -/
def oInt : Option Int → PyData
  | none => .none
  | some i => .int i
def isBetween (x : PyData) (lo hi : Option Int) : Bool := match x with
  | .int i => (match lo with | none => true | some l => decide (l ≤ i)) && (match hi with | none => true | some h => decide (i ≤ h))
  | _ => false
def flat1 : PyData → Bool
  | .dict _ => false
  | _ => true
def sp_is_between : DSp := fun ws M Q => ∃ x lo hi, ws = [.d x, .d lo, .d hi] ∧ flat1 x = true ∧ ∃ l h, lo = oInt l ∧ hi = oInt h ∧ Q (.d (.bool (isBetween x l h))) M
def N_is_between : List Str := ["value", "least", "most"]
def T_is_between : DTS := (dSeq (dIfS (dOr (dNot (dTest (dCB (dIsi "int" Kd.isInt) (dCons (dVar 0) (dCons (dRaw (.ty "int")) dNil))))) (dTest (dCB (dIsi "bool" Kd.isBool) (dCons (dVar 0) (dCons (dRaw (.ty "bool")) dNil))))) (dRet (dC (.bool false))) dNext) (dRet (dAndV (dOrV (dOp (dIsNR false) (dVar 1) (dC .none)) (dOp dLeR (dVar 1) (dVar 0))) (dOrV (dOp (dIsNR false) (dVar 2) (dC .none)) (dOp dLeR (dVar 0) (dVar 2))))))

theorem sem_is_between : ∀ ws M Q, ws.length = 3 → Clos M.length M → sp_is_between ws M Q → T_is_between { nx := fun _ M' => gcQ M.length Q (.d .none) M', rt := gcQ M.length Q } (startW N_is_between ws) M := by
  rintro ws M Q hl hc ⟨x, _, _, rfl, hx, l, h, rfl, rfl, q⟩
  replace q := gc_pure (n := M.length) q
  refine dSeq.mk ?_
  cases x
  case dict => cases hx
  case int i =>
    cases l <;> cases h <;> (unfold N_is_between; walk_at "dl"; simp only [oInt, isBetween, Bool.and_true, Bool.true_and] at q ⊢)
    · exact q
    · exact q
    · rename_i l
      cases hd : decide (l ≤ i) <;> simp only [hd] at q ⊢ <;> exact q
    · rename_i l h
      cases hd : decide (l ≤ i) <;> simp only [hd, Bool.true_and, Bool.false_and] at q ⊢ <;> exact q
  all_goals (unfold N_is_between; walk_at "dl"; exact q)

/-! is_row -/
def maxD : Int := 1000000000000000000000000000000
def isRow (n : Int) : PyData → Bool
  | .list ds => decide ((ds.length : Int) = n) && ds.all fun d => isBetween d (some 0) (some maxD)
  | _ => false
def flat2 : PyData → Bool
  | .list ds => ds.all flat1 && decide (ds.length ≤ 16777216)
  | .dict _ => false
  | _ => true
def sp_is_row : DSp := fun ws M Q => ∃ n x, ws = [.d (.int n), .d x] ∧ flat2 x = true ∧ Q (.d (.bool (isRow n x))) M
def N_is_row : List Str := ["count", "value", "one"]
def T_is_row : DTS := (dRet (dAndV (dCB (dIsi "list" Kd.isList) (dCons (dVar 1) (dCons (dRaw (.ty "list")) dNil))) (dAndV (dOp (dEqR false) (dCB dLenR (dCons (dVar 1) dNil)) (dVar 0)) (dCB (dAllR fun bs => bs.all id) (dCons (dComp false (dItL (dVar 1)) (gN 2) dYes (dCall 3 sp_is_between (dCons (dVar 2) (dCons (dC (.int 0)) (dCons (dC (.int 1000000000000000000000000000000)) dNil)))) [2]) dNil)))))

theorem sem_is_row : ∀ ws M Q, ws.length = 2 → Clos M.length M → sp_is_row ws M Q → T_is_row { nx := fun _ M' => gcQ M.length Q (.d .none) M', rt := gcQ M.length Q } (startW N_is_row ws) M := by
  rintro ws M Q hl hc ⟨n, x, rfl, hx, q⟩
  replace q := gc_pure (n := M.length) q
  unfold T_is_row N_is_row
  cases x
  case dict => cases hx
  case list ds =>
    walk_at "dl"
    simp only [flat2, Bool.and_eq_true, decide_eq_true_eq, List.all_eq_true] at hx
    simp only [dLenR, lenOf_d, Option.some.injEq, exists_eq_left', dEqR, Bool.false_xor, isRow] at q ⊢
    cases hd : decide ((ds.length : Int) = n)
    · simp only [hd, Bool.false_and] at q ⊢
      exact q
    · simp only [hd, Bool.true_and] at q ⊢
      simp only [listD_d, Option.some.injEq, exists_eq_left']
      refine comp_map .d (fun d => .d (.bool (isBetween d (some 0) (some maxD)))) ds (small63 hx.2) (fun d hd acc N ha hN => ?_) ?_
      · walk_at "dl"
        exact ⟨d, .int 0, .int maxD, rfl, hx.1 d hd, some 0, some maxD, rfl, rfl, ha, hN⟩
      · have e : (ds.map fun d => W.d (.bool (isBetween d (some 0) (some maxD)))) = (ds.map fun d => PyData.bool (isBetween d (some 0) (some maxD))).map .d := by rw [List.map_map]; rfl
        rw [e]
        refine mkL_d ?_
        have e2 : ((ds.map fun d => PyData.bool (isBetween d (some 0) (some maxD))).map W.d) = (ds.map fun d => isBetween d (some 0) (some maxD)).map fun b => W.d (.bool b) := by rw [List.map_map, List.map_map]; rfl
        refine ⟨_, _, rfl, by rw [e2]; exact asBools_map _, ?_⟩
        show gcQ _ Q (.d (.bool ((ds.map fun d => isBetween d (some 0) (some maxD)).all id))) M
        rw [List.all_map]
        exact q
  all_goals (walk_at "dl"; simp only [isRow] at q; exact q)

/-! is_table, of a table -/
def sp_is_table : DSp := fun ws M Q => ∃ g, ws = [.d (grid g)] ∧ Tbl g ∧ Q (.d (.bool true)) M
def N_is_table : List Str := ["value", "one", "row", "other"]
def T_is_table : DTS := (dSeq (dIfS (dOr (dNot (dTest (dCB (dIsi "list" Kd.isList) (dCons (dVar 0) (dCons (dRaw (.ty "list")) dNil))))) (dNot (dTest (dChain dLeR dLeR (dC (.int 1)) (dCB dLenR (dCons (dVar 0) dNil)) (dC (.int 30)))))) (dRet (dC (.bool false))) dNext) (dSeq (dIfS (dNot (dTest (dCB (dAllR fun bs => bs.all id) (dCons (dComp false (dItL (dVar 0)) (gN 2) dYes (dCall 2 sp_is_row (dCons (dCB dLenR (dCons (dVar 0) dNil)) (dCons (dVar 2) dNil))) [2]) dNil)))) (dRet (dC (.bool false))) dNext) (dSeq (dFor (dEnum (dCons (dVar 0) dNil)) (gT 2 (gsCons (gN 1) (gsCons (gN 2) gsNil))) (dIfS (dOr (dTest (dOp (dEqR true) (dOp dIxR (dVar 2) (dVar 1)) (dC (.int 0)))) (dNot (dTest (dCB (dAllR fun bs => bs.all id) (dCons (dComp false (dRg1 (dCons (dVar 1) dNil)) (gN 3) dYes (dOp (dEqR false) (dOp dIxR (dVar 2) (dVar 3)) (dOp dIxR (dOp dIxR (dVar 0) (dVar 3)) (dVar 1))) [3]) dNil))))) (dRet (dC (.bool false))) dNext)) (dRet (dC (.bool true))))))

theorem isRow_tbl {g : List (List Int)} (t : Tbl g) {r : List Int} (hr : r ∈ g) : isRow g.length (nums r) = true := by
  simp only [isRow, List.length_map, t.sq r hr, decide_true, Bool.true_and, List.all_map, List.all_eq_true]
  intro v hv
  have := t.bd r hr v hv
  simp only [Function.comp, isBetween, Bool.and_eq_true, decide_eq_true_eq, maxD]
  exact ⟨this.1, decide_eq_true this.2⟩
theorem sem_is_table : ∀ ws M Q, ws.length = 1 → Clos M.length M → sp_is_table ws M Q → T_is_table { nx := fun _ M' => gcQ M.length Q (.d .none) M', rt := gcQ M.length Q } (startW N_is_table ws) M := by
  rintro ws M Q hl hc ⟨g, rfl, t, q⟩
  replace q := gc_pure (n := M.length) q
  have h1 := t.lo
  have h30 := t.hi
  refine dSeq.mk ?_
  unfold N_is_table
  walk_at "dl"
  refine ⟨g.length, by rw [lenOf_d, List.length_map], ?_⟩
  have e1 : decide ((1 : Int) ≤ g.length) = true := decide_eq_true (by omega)
  have e2 : decide ((g.length : Int) ≤ 30) = true := decide_eq_true (by omega)
  simp only [e1, e2, Bool.not_true, Bool.false_eq_true, if_false]
  -- all rows are rows
  refine dSeq.mk ?_
  walk_at "dl"
  refine ⟨g.map nums, rfl, ?_⟩
  refine comp_map .d (fun _ => .d (.bool true)) (g.map nums) (small63 (by rw [List.length_map]; omega)) (fun d hd acc N ha hN => ?_) ?_
  · walk_at "dl"
    obtain ⟨r, hr, rfl⟩ := List.mem_map.mp hd
    refine ⟨g.length, by rw [lenOf_d, List.length_map], g.length, nums r, rfl, ?_, ?_⟩
    · simp only [flat2, Bool.and_eq_true, List.all_map, List.all_eq_true, decide_eq_true_eq, List.length_map, t.sq r hr]
      exact ⟨fun _ _ => rfl, by omega⟩
    · rw [isRow_tbl t hr]
      exact ⟨ha, hN⟩
  · have e : ((g.map nums).map fun _ => W.d (.bool true)) = (g.map fun _ => PyData.bool true).map .d := by simp [List.map_map, Function.comp_def]
    rw [e]
    refine mkL_d ⟨_, g.map fun _ => true, rfl, ?_, ?_⟩
    · have e2 : ((g.map fun _ => PyData.bool true).map W.d) = (g.map fun _ => true).map fun b => W.d (.bool b) := by simp [List.map_map, Function.comp_def]
      rw [e2]
      exact asBools_map _
    have e3 : (g.map fun _ => true).all id = true := by simp
    simp only [e3, Bool.not_true, Bool.false_eq_true, if_false]
    -- the distances
    refine dSeq.mk ?_
    refine ⟨g.map nums, rfl, ?_⟩
    refine loop_by .d (fun _ ρ M' => M' = M ∧ ∃ a b, ρ = [some (.d (grid g)), a, b, none]) _ ⟨rfl, _, _, rfl⟩ ?_ ?_
    · rintro pre x post ρ _ e ⟨rfl, a, b, rfl⟩
      obtain ⟨d, hd, rfl⟩ := enumD_at e
      rw [List.getElem?_map, Option.map_eq_some_iff] at hd
      obtain ⟨r, hr, rfl⟩ := hd
      have hi : pre.length < g.length := (List.getElem?_eq_some_iff.mp hr).1
      obtain ⟨r', hr', hlr, _, har⟩ := t.row hi
      rw [hr] at hr'
      cases hr'
      refine ⟨[.d (.int (pre.length : Nat)), .d (nums r)], rfl, rfl, ?_⟩
      simp only [gsCons, gsNil]
      walk_at "dl"
      refine ix_int (j := pre.length) (har _ hi) (.inl rfl) ?_
      rw [t.zd _ hi]
      simp only [dEqR, decide_true, Bool.not_true, Bool.xor_false, Bool.true_xor, Bool.false_eq_true, if_false]
      refine ⟨⟨by omega, by omega⟩, ?_⟩
      refine comp_map dint (fun _ => .d (.bool true)) _ (small63 (by rw [upTo_len]; omega)) (fun k hk acc N ha hN => ?_) ?_
      · have hk := upTo_mem hk
        obtain ⟨j, rfl⟩ := Int.eq_ofNat_of_zero_le hk.1
        have hj : j < g.length := by omega
        obtain ⟨rj, hrj, hlj, _, haj⟩ := t.row hj
        walk_at "dl"
        refine ix_int (j := j) (har _ hj) (.inl rfl) (ix_row hrj (.inl rfl) (ix_int (haj _ hi) (.inl rfl) ?_))
        simp only [dEqR, t.sy j pre.length hj hi, decide_true, Bool.false_xor]
        exact ⟨ha, hN⟩
      · have e : ((upTo 0 (pre.length : Int).toNat).map fun _ => W.d (.bool true)) = ((upTo 0 (pre.length : Int).toNat).map fun _ => PyData.bool true).map .d := by simp [List.map_map, Function.comp_def]
        rw [e]
        refine mkL_d ⟨_, (upTo 0 (pre.length : Int).toNat).map fun _ => true, rfl, ?_, ?_⟩
        · have e2 : (((upTo 0 (pre.length : Int).toNat).map fun _ => PyData.bool true).map W.d) = ((upTo 0 (pre.length : Int).toNat).map fun _ => true).map fun b => W.d (.bool b) := by simp [List.map_map, Function.comp_def]
          rw [e2]
          exact asBools_map _
        have e3 : ((upTo 0 (pre.length : Int).toNat).map fun _ => true).all id = true := by simp
        simp only [e3, Bool.not_true, Bool.false_eq_true, if_false]
        exact ⟨by trivial, _, _, rfl⟩
    · rintro ρ _ ⟨rfl, a, b, rfl⟩
      walk_at "dl"
      exact q

/-! are_places, of places -/
def sp_are_places : DSp := fun ws M Q => ∃ (n : Nat) (l : List Int), ws = [.d (.int n), .d (nums l)] ∧ n ≤ 1000 ∧ Places n l ∧ Q (.d (.bool true)) M
def N_are_places : List Str := ["count", "value", "place"]
def T_are_places : DTS := (dSeq (dIfS (dOr (dNot (dTest (dCB (dIsi "list" Kd.isList) (dCons (dVar 1) (dCons (dRaw (.ty "list")) dNil))))) (dNot (dTest (dCB (dAllR fun bs => bs.all id) (dCons (dComp false (dItL (dVar 1)) (gN 2) dYes (dCall 3 sp_is_between (dCons (dVar 2) (dCons (dC (.int 0)) (dCons (dOp dSubR (dVar 0) (dC (.int 1))) dNil)))) [2]) dNil))))) (dRet (dC (.bool false))) dNext) (dRet (dOp (dEqR false) (dLenSet (dVar 1)) (dCB dLenR (dCons (dVar 1) dNil)))))

theorem sem_are_places : ∀ ws M Q, ws.length = 2 → Clos M.length M → sp_are_places ws M Q → T_are_places { nx := fun _ M' => gcQ M.length Q (.d .none) M', rt := gcQ M.length Q } (startW N_are_places ws) M := by
  rintro ws M Q hl hc ⟨n, l, rfl, hn, p, q⟩
  replace q := gc_pure (n := M.length) q
  have hlen := p.len
  refine dSeq.mk ?_
  unfold N_are_places
  walk_at "dl"
  refine ⟨l.map .int, rfl, ?_⟩
  refine comp_map .d (fun _ => .d (.bool true)) _ (small63 (by rw [List.length_map]; omega)) (fun d hd acc N ha hN => ?_) ?_
  · walk_at "dl"
    obtain ⟨v, hv, rfl⟩ := List.mem_map.mp hd
    have hb := p.lt v hv
    refine ⟨.int v, .int 0, .int (n - 1), rfl, rfl, some 0, some ((n : Int) - 1), rfl, rfl, ?_⟩
    have e : isBetween (.int v) (some 0) (some ((n : Int) - 1)) = true := by
      simp only [isBetween, Bool.and_eq_true, decide_eq_true_eq]
      omega
    rw [e]
    exact ⟨ha, hN⟩
  · have e : ((l.map PyData.int).map fun _ => W.d (.bool true)) = (l.map fun _ => PyData.bool true).map .d := by simp [List.map_map, Function.comp_def]
    rw [e]
    refine mkL_d ⟨_, l.map fun _ => true, rfl, ?_, ?_⟩
    · have e2 : ((l.map fun _ => PyData.bool true).map W.d) = (l.map fun _ => true).map fun b => W.d (.bool b) := by simp [List.map_map, Function.comp_def]
      rw [e2]
      exact asBools_map _
    have e3 : (l.map fun _ => true).all id = true := by simp
    simp only [e3, Bool.not_true, Bool.false_eq_true, if_false]
    walk_at "dl"
    refine ⟨_, l, rfl, by rw [map_d_int]; exact asInts_map l, p.nd, by omega, l.length, by rw [lenOf_d, List.length_map], ?_⟩
    simp only [dEqR, decide_true, Bool.false_xor]
    exact q

/-! require_table, of a table -/
def sp_require_table : DSp := fun ws M Q => ∃ g, ws = [.d (grid g)] ∧ Tbl g ∧ Q (.d .none) M
def N_require_table : List Str := ["table"]
def T_require_table : DTS := (dIfS (dNot (dTest (dCall 1 sp_is_table (dCons (dVar 0) dNil)))) dNever dNext)

theorem sem_require_table : ∀ ws M Q, ws.length = 1 → Clos M.length M → sp_require_table ws M Q → T_require_table { nx := fun _ M' => gcQ M.length Q (.d .none) M', rt := gcQ M.length Q } (startW N_require_table ws) M := by
  rintro ws M Q hl hc ⟨g, rfl, t, q⟩
  unfold T_require_table N_require_table
  walk_at "dl"
  exact ⟨g, rfl, t, gc_pure q⟩

/-! length_of -/
def sp_length_of : DSp := fun ws M Q => ∃ g l, ws = [.d (grid g), .d (nums l)] ∧ Tbl g ∧ l.length ≤ 1000 ∧ (∀ p ∈ l, 0 ≤ p ∧ p < (g.length : Int)) ∧ Q (.d (.int (tlen g l))) M
def N_length_of : List Str := ["table", "trip", "at", "place"]
def T_length_of : DTS := (dRet (dCB dSumR (dCons (dComp false (dEnum (dCons (dVar 1) dNil)) (gT 2 (gsCons (gN 2) (gsCons (gN 3) gsNil))) dYes (dOp dIxR (dOp dIxR (dVar 0) (dVar 3)) (dOp dIxR (dVar 1) (dOp dSubR (dVar 2) (dC (.int 1))))) [2, 3]) dNil)))

theorem enumD_map (l : List PyData) : ∀ k, enumD k l = (List.range l.length).map fun i => .tuple [.int ((k + i : Nat) : Int), l.getD i .none] := fun k => by
  apply List.ext_getElem?
  intro i
  rw [enumD_get, List.getElem?_map]
  rcases Nat.lt_or_ge i l.length with h | h
  · rw [List.getElem?_range h, List.getElem?_eq_getElem h]
    simp [List.getD_eq_getElem?_getD, List.getElem?_eq_getElem h]
  · rw [List.getElem?_eq_none h, List.getElem?_eq_none (by simpa using h)]
    rfl
theorem sem_length_of : ∀ ws M Q, ws.length = 2 → Clos M.length M → sp_length_of ws M Q → T_length_of { nx := fun _ M' => gcQ M.length Q (.d .none) M', rt := gcQ M.length Q } (startW N_length_of ws) M := by
  rintro ws M Q hl hc ⟨g, l, rfl, t, hn, hb, q⟩
  replace q := gc_pure (n := M.length) q
  unfold T_length_of N_length_of
  walk_at "dl"
  refine ⟨l.map .int, rfl, ?_⟩
  rw [enumD_map, List.map_map, List.length_map]
  refine comp_map _ (fun i : Nat => dint (at2 g (l.getD i 0).toNat (l.getD ((i + l.length - 1) % l.length) 0).toNat)) _ (small63 (by rw [List.length_range]; omega)) (fun i hi acc N ha hN => ?_) ?_
  · have hi : i < l.length := List.mem_range.mp hi
    have hi2 : (i + l.length - 1) % l.length < l.length := Nat.mod_lt _ (by omega)
    simp only [Function.comp, Nat.zero_add]
    refine ⟨[.d (.int (i : Nat)), .d (.int (l.getD i 0))], ?_, rfl, ?_⟩
    · simp [tupOf, List.getD_eq_getElem?_getD, List.getElem?_map, List.getElem?_eq_getElem hi]
    simp only [gsCons, gsNil]
    walk_at "dl"
    have g1 : l[i]? = some (l.getD i 0) := by simp [List.getD_eq_getElem?_getD, List.getElem?_eq_getElem hi]
    have g2 : l[(i + l.length - 1) % l.length]? = some (l.getD ((i + l.length - 1) % l.length) 0) := by simp [List.getD_eq_getElem?_getD, List.getElem?_eq_getElem hi2]
    have b1 := hb _ (List.mem_of_getElem? g1)
    have b2 := hb _ (List.mem_of_getElem? g2)
    obtain ⟨r, hr, _, _, har⟩ := t.row (i := (l.getD i 0).toNat) (by omega)
    refine ix_row hr (.inl (by omega)) (ix_int g2 ?_ (ix_int (har _ (by omega)) (.inl (by omega)) ⟨ha, hN⟩))
    rcases Nat.eq_zero_or_pos i with rfl | h0
    · rw [Nat.zero_add, Nat.mod_eq_of_lt (by omega)]
      omega
    · have : (i + l.length - 1) % l.length = i - 1 := by
        rw [show i + l.length - 1 = (i - 1) + l.length by omega, Nat.add_mod_right, Nat.mod_eq_of_lt (by omega)]
      rw [this]
      omega
  · have e : ((List.range l.length).map fun i : Nat => dint (at2 g (l.getD i 0).toNat (l.getD ((i + l.length - 1) % l.length) 0).toNat)) = ((List.range l.length).map fun i : Nat => at2 g (l.getD i 0).toNat (l.getD ((i + l.length - 1) % l.length) 0).toNat).map dint := by rw [List.map_map]; rfl
    rw [e]
    refine mkL_ints ⟨_, _, rfl, by rw [map_d_int]; exact asInts_map _, q⟩

/-! trip_length, of a table and a trip -/
def sp_trip_length : DSp := fun ws M Q => ∃ g l, ws = [.d (grid g), .d (nums l)] ∧ Tbl g ∧ Places g.length l ∧ l ≠ [] ∧ Q (.d (.int (tlen g l))) M
def N_trip_length : List Str := ["table", "trip"]
def T_trip_length : DTS := (dSeq (dDrop (dCall 1 sp_require_table (dCons (dVar 0) dNil))) (dSeq (dIfS (dOr (dNot (dTest (dCall 2 sp_are_places (dCons (dCB dLenR (dCons (dVar 0) dNil)) (dCons (dVar 1) dNil))))) (dTest (dOp (dEqR false) (dVar 1) (dLst false dNil)))) dNever dNext) (dRet (dCall 2 sp_length_of (dCons (dVar 0) (dCons (dVar 1) dNil))))))

theorem sem_trip_length : ∀ ws M Q, ws.length = 2 → Clos M.length M → sp_trip_length ws M Q → T_trip_length { nx := fun _ M' => gcQ M.length Q (.d .none) M', rt := gcQ M.length Q } (startW N_trip_length ws) M := by
  rintro ws M Q hl hc ⟨g, l, rfl, t, p, hne, q⟩
  replace q := gc_pure (n := M.length) q
  have h30 := t.hi
  have hlen := p.len
  refine dSeq.mk ?_
  unfold N_trip_length
  walk_at "dl"
  refine ⟨g, rfl, t, ?_⟩
  refine dSeq.mk ?_
  walk_at "dl"
  refine ⟨g.length, by rw [lenOf_d, List.length_map], g.length, l, rfl, by omega, p, ?_⟩
  simp only [Bool.not_true, Bool.false_eq_true, if_false]
  refine ⟨small63 (by decide), ?_⟩
  refine mkL_d (ds := []) ?_
  refine ⟨_, _, rfl, rfl, shaped_ints l, shaped_ints [], ?_⟩
  have e : PyData.eqv (nums l) (.list []) = false := by
    have := eqv_ints l []
    simpa [hne] using this
  rw [e]
  simp only [Bool.false_xor, Bool.false_eq_true, if_false]
  walk_at "dl"
  exact ⟨g, l, rfl, t, by omega, p.lt, q⟩

/-! _law_tap -/
def sp_law_tap : DSp := fun ws M Q => ∃ c k, ws = [.d (.int c), .d (.int k)] ∧ 0 ≤ k ∧ k ≤ 1000 ∧ ∀ a b e, TapOk e → Q (.own M.length) (M ++ [tapC a b e])
def N_law_tap : List Str := ["cell", "turn", "whole"]
def T_law_tap : DTS := (dSeq (dAsg (dOp (dAddR false) (dOp (dMulR false) (dC (.int 2)) (dCB dAbsR (dCons (dVar 0) dNil))) (dCB dIntOfR (dCons (dOp dLtR (dVar 0) (dC (.int 0))) dNil))) (gN 2)) (dRet (dLst true (dCons (dVar 2) (dCons (dOp (dAddR false) (dOp (dAddR false) (dOp dModR (dCB dIntOfR (dCons (dVar 2) dNil)) (dC (.int 4294967291))) (dOp (dMulR false) (dC (.int 977)) (dVar 1))) (dC (.int 1))) (dCons (dOp (dAddR false) (dOp (dAddR false) (dOp dModR (dCB dIntOfR (dCons (dVar 2) dNil)) (dC (.int 2147483587))) (dOp (dMulR false) (dC (.int 31)) (dVar 1))) (dC (.int 2))) dNil))))))

theorem sem_law_tap : ∀ ws M Q, ws.length = 2 → Clos M.length M → sp_law_tap ws M Q → T_law_tap { nx := fun _ M' => gcQ M.length Q (.d .none) M', rt := gcQ M.length Q } (startW N_law_tap ws) M := by
  rintro ws M Q hl hc ⟨c, k, rfl, h0, h1, q⟩
  refine dSeq.mk ?_
  unfold N_law_tap
  walk_at "dl"
  refine ⟨.inl (.inl ⟨by decide, by decide⟩), ?_⟩
  refine ⟨by decide, .inl (.inl ⟨by decide, by decide⟩), by decide, .inl (.inl ⟨by decide, by decide⟩), small63 (by decide), ?_⟩
  refine mkL_own (gc_pure (q _ _ _ ?_))
  generalize (2 * if c < 0 then -c else c) + _ = w
  have h1 := Int.emod_nonneg w (show (2147483587 : Int) ≠ 0 by decide)
  have h2 := Int.emod_lt_of_pos w (show (0 : Int) < 2147483587 by decide)
  unfold TapOk
  omega

/-! _law_draw -/
def sp_law_draw : DSp := fun ws M Q => ∃ t a b c n, ws = [.own t, .d (.int n)] ∧ M[t]? = some (tapC a b c) ∧ TapOk c ∧ 0 < n ∧ n < 2 ^ 200 ∧ ∀ r a' b' c', TapOk c' → 0 ≤ r → r < n → Q (.d (.int r)) (M.set t (tapC a' b' c'))
def N_law_draw : List Str := ["tap", "bound", "found"]
def T_law_draw : DTS := (dSeq (dIfS (dTest (dOp dGeR (dOp dIxR (dVar 0) (dC (.int 0))) (dOp dPowR (dC (.int 10)) (dC (.int 18))))) (dSeq (dAsg (dOp dModR (dCB dIntOfR (dCons (dOp dIxR (dVar 0) (dC (.int 0))) dNil)) (dVar 1)) (gN 2)) (dSeq (dAsg (dOp dDivR (dOp dIxR (dVar 0) (dC (.int 0))) (dVar 1)) (gSb (dVar 0) (dC (.int 0)))) (dRet (dVar 2)))) dNext) (dSeq (dAsg (dOp dModR (dCB dIntOfR (dCons (dOp (dAddR false) (dOp (dMulR false) (dOp dIxR (dVar 0) (dC (.int 1))) (dC (.int 69069))) (dC (.int 40503))) dNil)) (dC (.int 4294967291))) (gSb (dVar 0) (dC (.int 1)))) (dSeq (dAsg (dOp dModR (dCB dIntOfR (dCons (dOp (dAddR false) (dOp (dMulR false) (dOp dIxR (dVar 0) (dC (.int 2))) (dOp dIxR (dVar 0) (dC (.int 2)))) (dOp dIxR (dVar 0) (dC (.int 1)))) dNil)) (dC (.int 2147483587))) (gSb (dVar 0) (dC (.int 2)))) (dRet (dOp dModR (dCB dIntOfR (dCons (dOp (dAddR false) (dOp dDivR (dOp dIxR (dVar 0) (dC (.int 1))) (dC (.int 32))) (dOp dDivR (dOp dIxR (dVar 0) (dC (.int 2))) (dC (.int 16)))) dNil)) (dVar 1))))))

theorem tap_ix {M : Mem} {t : Nat} {a b c : Int} (h : M[t]? = some (tapC a b c)) {Q : W → Mem → Prop} : (Q (dint a) M → dIxR (.own t) (.d (.int 0)) M Q) ∧ (Q (dint b) M → dIxR (.own t) (.d (.int 1)) M Q) ∧ (Q (dint c) M → dIxR (.own t) (.d (.int 2)) M Q) := by
  have e : DL.listOf M (.own t) = some [dint a, dint b, dint c] := by simp only [DL.listOf, h]; rfl
  exact ⟨fun q => .inl ⟨_, _, e, rfl, q⟩, fun q => .inl ⟨_, _, e, rfl, q⟩, fun q => .inl ⟨_, _, e, rfl, q⟩⟩
theorem tap_set {M : Mem} {t : Nat} {a b c z : Int} (h : M[t]? = some (tapC a b c)) {Q : Mem → Prop} : (Q (M.set t (tapC z b c)) → gSubR (.own t) (.d (.int 0)) (dint z) M Q) ∧ (Q (M.set t (tapC a z c)) → gSubR (.own t) (.d (.int 1)) (dint z) M Q) ∧ (Q (M.set t (tapC a b z)) → gSubR (.own t) (.d (.int 2)) (dint z) M Q) :=
  ⟨fun q => ⟨_, 0, h, rfl, q⟩, fun q => ⟨_, 1, h, rfl, q⟩, fun q => ⟨_, 2, h, rfl, q⟩⟩
theorem sem_law_draw : ∀ ws M Q, ws.length = 2 → Clos M.length M → sp_law_draw ws M Q → T_law_draw { nx := fun _ M' => gcQ M.length Q (.d .none) M', rt := gcQ M.length Q } (startW N_law_draw ws) M := by
  rintro ws M Q hl hc ⟨t, a, b, c, n, rfl, hm, tc, h0, hn, q⟩
  have ht := lt_of_some hm
  refine dSeq.mk ?_
  unfold N_law_draw
  walk_at "dl"
  refine (tap_ix hm).1 ⟨⟨by decide, by decide⟩, ?_⟩
  refine ite2 (fun _ => ?_) (fun _ => ?_)
  · -- the digits
    refine dSeq.mk ?_
    walk_at "dl"
    refine (tap_ix hm).1 ⟨h0, ?_⟩
    refine dSeq.mk ?_
    walk_at "dl"
    refine (tap_ix hm).1 ⟨.inr ⟨h0, ?_⟩, (tap_set hm).1 ?_⟩
    · exact Nat.lt_of_le_of_lt (log2_le (b := 199) (by omega)) (by decide)
    · walk_at "dl"
      exact gc_pure (q _ _ _ _ tc (Int.emod_nonneg _ (by omega)) (Int.emod_lt_of_pos _ h0))
  · refine dSeq.mk ?_
    walk_at "dl"
    refine (tap_ix hm).2.1 ⟨.inl (.inr ⟨by decide, by decide⟩), by decide, (tap_set hm).2.1 ?_⟩
    refine dSeq.mk ?_
    generalize (b * 69069 + 40503) % 4294967291 = b2
    have hm2 : (M.set t (tapC a b2 c))[t]? = some (tapC a b2 c) := List.getElem?_set_self ht
    walk_at "dl"
    refine (tap_ix hm2).2.2 ((tap_ix hm2).2.2 ⟨.inl (.inl ⟨?_, ?_⟩), (tap_ix hm2).2.1 ⟨by decide, (tap_set hm2).2.2 ?_⟩⟩)
    · unfold TapOk at tc; omega
    · unfold TapOk at tc; omega
    · rw [List.set_set]
      have t2 : TapOk ((c * c + b2) % 2147483587) := by
        have h1 := Int.emod_nonneg (c * c + b2) (show (2147483587 : Int) ≠ 0 by decide)
        have h2 := Int.emod_lt_of_pos (c * c + b2) (show (0 : Int) < 2147483587 by decide)
        unfold TapOk
        omega
      generalize (c * c + b2) % 2147483587 = c2 at t2
      have hm3 : (M.set t (tapC a b2 c2))[t]? = some (tapC a b2 c2) := List.getElem?_set_self ht
      walk_at "dl"
      refine (tap_ix hm3).2.1 ⟨.inl ⟨by decide, by decide⟩, (tap_ix hm3).2.2 ⟨.inl ⟨by decide, by decide⟩, h0, ?_⟩⟩
      exact gc_pure (q _ _ _ _ t2 (Int.emod_nonneg _ (by omega)) (Int.emod_lt_of_pos _ h0))

/-! _law_cells -/
def sp_law_cells : DSp := fun ws M Q => ∃ ns m, ws = [.d (nums ns), .d (.int m)] ∧ ns.length ≤ 63 ∧ 1 ≤ m ∧ m ≤ 100 ∧ ∀ cs : List Int, 1 ≤ cs.length → cs.length ≤ 100 → Q (.d (nums cs)) M
def N_law_cells : List Str := ["script", "most"]
def T_law_cells : DTS := (dRet (dSl false (dOp (dAddR false) (dVar 0) (dLst false (dCons (dC (.int 0)) dNil))) dNoPart (dPart (dCB dMaxR (dCons (dC (.int 1)) (dCons (dCB dMinR (dCons (dVar 1) (dCons (dCB dLenR (dCons (dVar 0) dNil)) dNil))) dNil))))))

theorem sem_law_cells : ∀ ws M Q, ws.length = 2 → Clos M.length M → sp_law_cells ws M Q → T_law_cells { nx := fun _ M' => gcQ M.length Q (.d .none) M', rt := gcQ M.length Q } (startW N_law_cells ws) M := by
  rintro ws M Q hl hc ⟨ns, m, rfl, hn, h1, h2, q⟩
  unfold T_law_cells N_law_cells
  walk_at "dl"
  refine ⟨small63 (by decide), ?_⟩
  refine mkL_d (ds := [.int 0]) ?_
  refine ⟨_, _, rfl, rfl, small63 (by simp; omega), ?_⟩
  have e : ((ns.map PyData.int).map W.d ++ [PyData.int 0].map W.d) = (ns ++ [0]).map dint := by rw [map_d_int]; simp
  rw [e]
  refine mkL_ints ?_
  walk_at "dl"
  refine ⟨ns.length, by rw [lenOf_d, List.length_map], ?_⟩
  simp only [dMinR, dMaxR]
  refine ⟨_, rfl, ?_⟩
  rw [cut_to _ (by split <;> split <;> omega), ← List.map_take, ← List.map_take]
  refine mkL_d (gc_pure (q _ ?_ ?_))
  · rw [List.length_take, List.length_append, List.length_singleton]
    split <;> split <;> omega
  · rw [List.length_take, List.length_append, List.length_singleton]
    omega

/-! _law_mixed -/
def sp_law_mixed : DSp := fun ws M Q => ∃ t a b c n, ws = [.own t, .d (.int n)] ∧ M[t]? = some (tapC a b c) ∧ TapOk c ∧ 0 ≤ n ∧ n ≤ 1000 ∧ ∀ (l : List Int) a' b' c', l.Perm (upTo 0 n.toNat) → TapOk c' → Q (.d (nums l)) (M.set t (tapC a' b' c'))
def N_law_mixed : List Str := ["tap", "wide", "left", "found"]
def T_law_mixed : DTS := (dSeq (dPar 2 3 (dCons (dListRg true (dVar 1)) (dCons (dLst true dNil) dNil))) (dSeq (dWhile (dTest (dOp (dEqR true) (dVar 2) (dLst false dNil))) (dDrop (dBM dAppR (dVar 3) (dCons (dBM dPopAtR (dVar 2) (dCons (dCall 2 sp_law_draw (dCons (dVar 0) (dCons (dCB dLenR (dCons (dVar 2) dNil)) dNil))) dNil)) dNil)))) (dRetF (dVar 3))))

theorem erase_map {α β : Type} (f : α → β) : ∀ (l : List α) (i : Nat), (l.map f).eraseIdx i = (l.eraseIdx i).map f
  | [], _ => rfl
  | x :: l, 0 => rfl
  | x :: l, i + 1 => by rw [List.map_cons, List.eraseIdx_cons_succ, List.eraseIdx_cons_succ, List.map_cons, erase_map f l i]
theorem perm_out {α : Type} : ∀ (l : List α) (r : Nat) (h : r < l.length), l.Perm (l[r] :: l.eraseIdx r)
  | x :: l, 0, _ => .refl _
  | x :: l, r + 1, h => by
    have ih := perm_out l r (by simpa using h)
    exact (List.Perm.cons x ih).trans (List.Perm.swap ..)
theorem perm_mid {x : Int} {r : Nat} {l f u : List Int} (hx : l[r]? = some x) (h : (f ++ l).Perm u) : ((f ++ [x]) ++ l.eraseIdx r).Perm u := by
  have hr := (List.getElem?_eq_some_iff.mp hx).1
  have hx2 : l[r] = x := (List.getElem?_eq_some_iff.mp hx).2
  have e : l.Perm (x :: l.eraseIdx r) := by
    rw [← hx2]
    exact perm_out l r hr
  refine List.Perm.trans ?_ h
  rw [List.append_assoc]
  exact List.Perm.append_left _ e.symm
theorem sem_law_mixed : ∀ ws M Q, ws.length = 2 → Clos M.length M → sp_law_mixed ws M Q → T_law_mixed { nx := fun _ M' => gcQ M.length Q (.d .none) M', rt := gcQ M.length Q } (startW N_law_mixed ws) M := by
  rintro ws M Q hl hc ⟨t, a, b, c, n, rfl, hm, tc, h0, hn, q⟩
  have ht := lt_of_some hm
  refine dSeq.mk ?_
  unfold N_law_mixed
  walk_at "dl"
  refine ⟨h0, by omega, mkL_own ⟨small63 (by decide), mkL_own ?_⟩⟩
  -- the loop
  refine dSeq.mk ?_
  refine ⟨fun m ρ M' => ∃ (left found : List Int) (a b c : Int), m = left.length ∧ ρ = [some (.own t), some (.d (.int n)), some (.own M.length), some (.own (M.length + 1))] ∧ M' = M.set t (tapC a b c) ++ [.lst (left.map dint), .lst (found.map dint)] ∧ TapOk c ∧ (found ++ left).Perm (upTo 0 n.toNat), ⟨_, upTo 0 n.toNat, [], a, b, c, rfl, ?_, ?_, tc, .refl _⟩, ?_⟩
  · simp
  · have e : M.set t (tapC a b c) = M := by
      obtain ⟨h1, h2⟩ := List.getElem?_eq_some_iff.mp hm
      rw [← h2, List.set_getElem_self]
    rw [e]
    simp
  · rintro m ρ M' ⟨left, found, a, b, c, rfl, rfl, rfl, tc, hp⟩
    have hA : (M.set t (tapC a b c)).length = M.length := List.length_set
    have hlen : found.length + left.length = n.toNat := by
      have := hp.length_eq
      rw [List.length_append, upTo_len] at this
      exact this
    have gl : ∀ (a b c : Int) (x y : Cell), (M.set t (tapC a b c) ++ [x, y])[M.length]? = some x := fun a b c x y => by
      have e := getL (M := M.set t (tapC a b c)) (x := x) (B := [y])
      rwa [List.length_set] at e
    have gl1 : ∀ (a b c : Int) (x y : Cell), (M.set t (tapC a b c) ++ [x, y])[M.length + 1]? = some y := fun a b c x y => by
      have e := getL1 (M := M.set t (tapC a b c)) (x := x) (y := y) (B := [])
      rwa [List.length_set] at e
    walk_at "dl"
    refine ⟨small63 (by decide), mkL_d (ds := []) ⟨_, _, toD_own (gl ..), rfl, shaped_ints left, shaped_ints [], ?_⟩⟩
    have ee := eqv_ints left []
    rw [List.map_nil] at ee
    rw [ee]
    by_cases hL : left = []
    · subst hL
      simp only [decide_true, Bool.true_xor, Bool.not_true, Bool.false_eq_true, if_false]
      -- found is done
      walk_at "dl"
      rw [List.append_nil] at hp
      refine ⟨M.set t (tapC a b c) ++ [.lst [], .frz (nums found)], nums found, .step ⟨M.length + 1, found.map dint, found.map .int, gl1 .., ?_, ?_⟩ (.refl _), ?_, ?_⟩
      · exact optAll_map found fun x _ => rfl
      · have e := setL1 (M := M.set t (tapC a b c)) (x := .lst []) (y := .lst (found.map dint)) (z := .frz (nums found)) (B := [])
        rw [List.length_set] at e
        exact e.symm
      · simp only [dat, gl1]
      · have hcc := clos_tap (t := t) (a := a) (b := b) (c := c) hc
        have g := gc_drop (M := M.set t (tapC a b c)) (g := [.lst [], .frz (nums found)]) (Q := Q) (w := .d (nums found)) (by rw [hA]; exact hcc) trivial (q found a b c hp tc)
        rw [hA] at g
        exact g
    · have e1 : decide (left = []) = false := decide_eq_false hL
      have hpos : 0 < left.length := List.length_pos_iff.mpr hL
      simp only [e1, Bool.xor_false, if_true]
      refine ⟨_, fun ρ' M' h => h, ?_⟩
      walk_at "dl"
      simp only [DL.listOf, gl, gl1, Option.isSome_some, true_and]
      refine ⟨left.length, by simp [lenOf, DL.listOf, gl], t, a, b, c, _, rfl, ?_, tc, by omega, by omega, ?_⟩
      · rw [getA (by rw [List.length_set]; exact ht), List.getElem?_set_self ht]
      intro r a' b' c' tc' r0 r1
      obtain ⟨k, rfl⟩ := Int.eq_ofNat_of_zero_le r0
      have hk : k < left.length := by omega
      have hx : left[k]? = some left[k] := List.getElem?_eq_getElem hk
      have eM : (M.set t (tapC a b c) ++ [Cell.lst (left.map dint), Cell.lst (found.map dint)]).set t (tapC a' b' c') = M.set t (tapC a' b' c') ++ [Cell.lst (left.map dint), Cell.lst (found.map dint)] := by
        rw [setA (by rw [List.length_set]; exact ht), List.set_set]
      rw [eM]
      have s0 : ∀ (x y z : Cell), (M.set t (tapC a' b' c') ++ [x, y]).set M.length z = M.set t (tapC a' b' c') ++ [z, y] := fun x y z => by
        have e := setL (M := M.set t (tapC a' b' c')) (x := x) (z := z) (B := [y])
        rwa [List.length_set] at e
      have s1 : ∀ (x y z : Cell), (M.set t (tapC a' b' c') ++ [x, y]).set (M.length + 1) z = M.set t (tapC a' b' c') ++ [x, z] := fun x y z => by
        have e := setL1 (M := M.set t (tapC a' b' c')) (x := x) (y := y) (z := z) (B := [])
        rwa [List.length_set] at e
      refine ⟨_, dint left[k], gl .., by omega, by omega, ?_, ?_⟩
      · simp only [Int.toNat_natCast, List.getElem?_map, hx]
        rfl
      rw [s0]
      refine ⟨_, gl1 .., ?_, ?_⟩
      · rw [List.length_map, sizeLine_eq]; omega
      rw [s1]
      refine ⟨(left.eraseIdx k).length, ?_, left.eraseIdx k, found ++ [left[k]], a', b', c', rfl, ?_, tc', perm_mid hx hp⟩
      · rw [List.length_eraseIdx_of_lt hk]; omega
      · rw [erase_map, List.map_append, Int.toNat_natCast]
        rfl

/-! _law_table -/
def sp_law_table : DSp := fun ws M Q => ∃ t a b c n, ws = [.own t, .d (.int n)] ∧ M[t]? = some (tapC a b c) ∧ TapOk c ∧ 1 ≤ n ∧ n ≤ 30 ∧ ∀ g a' b' c', Tbl g → (g.length : Int) = n → TapOk c' → Q (.d (grid g)) (M.set t (tapC a' b' c'))
def N_law_table : List Str := ["tap", "wide", "style", "great", "base", "grid", "one", "other", "far", "place"]
def T_law_table : DTS := (dSeq (dPar 2 3 (dCons (dCall 2 sp_law_draw (dCons (dVar 0) (dCons (dC (.int 6)) dNil))) (dCons (dOp dIxR (dLst false (dCons (dC (.int 1)) (dCons (dOp dPowR (dC (.int 10)) (dC (.int 28))) dNil))) (dCall 2 sp_law_draw (dCons (dVar 0) (dCons (dC (.int 2)) dNil)))) dNil))) (dSeq (dPar 4 5 (dCons (dOp (dMulR false) (dVar 3) (dCall 2 sp_law_draw (dCons (dVar 0) (dCons (dC (.int 90)) dNil)))) (dCons (dComp true (dRg1 (dCons (dVar 1) dNil)) (gN 9) dYes (dOp (dMulR true) (dLst false (dCons (dC (.int 0)) dNil)) (dVar 1)) [9]) dNil))) (dSeq (dFor (dRg1 (dCons (dVar 1) dNil)) (gN 6) (dFor (dRg1 (dCons (dVar 6) dNil)) (gN 7) (dSeq (dAsg (dOp dIxR (dLst false (dCons (dC (.int 4)) (dCons (dC (.int 98)) (dCons (dOp dPowR (dC (.int 10)) (dC (.int 9))) (dCons (dC (.int 1)) (dCons (dC (.int 2)) (dCons (dC (.int 1)) dNil))))))) (dVar 2)) (gN 8)) (dSeq (dAsg (dOp (dAddR false) (dIf (dTest (dOp dGtR (dVar 2) (dC (.int 2)))) (dVar 4) (dC (.int 0))) (dOp (dMulR false) (dCall 2 sp_law_draw (dCons (dVar 0) (dCons (dVar 8) dNil))) (dIf (dTest (dOp dLtR (dVar 2) (dC (.int 2)))) (dVar 3) (dC (.int 1))))) (gN 8)) (dSeq (dAsg (dIf (dTest (dOp dLtR (dVar 2) (dC (.int 5)))) (dVar 8) (dC (.int 0))) (gN 8)) (dSeq (dAsg (dVar 8) (gSb (dOp dIxR (dVar 5) (dVar 6)) (dVar 7))) (dAsg (dVar 8) (gSb (dOp dIxR (dVar 5) (dVar 7)) (dVar 6))))))))) (dRetF (dVar 5)))))

theorem tap_self {M : Mem} {t : Nat} (h : t < M.length) (a b c : Int) : (M.set t (tapC a b c))[t]? = some (tapC a b c) := List.getElem?_set_self h
theorem nat30 {n : Int} (h1 : 1 ≤ n) : ∃ m : Nat, n = m ∧ 1 ≤ m := ⟨n.toNat, by omega, by omega⟩
theorem sem_law_table : ∀ ws M Q, ws.length = 2 → Clos M.length M → sp_law_table ws M Q → T_law_table { nx := fun _ M' => gcQ M.length Q (.d .none) M', rt := gcQ M.length Q } (startW N_law_table ws) M := by
  rintro ws M Q hl hc ⟨t, a, b, c, n, rfl, hm, tc, n1, n30, q⟩
  obtain ⟨m, rfl, m1⟩ := nat30 n1
  have ht := lt_of_some hm
  refine dSeq.mk ?_
  unfold N_law_table
  walk_at "dl"
  refine ⟨t, a, b, c, 6, rfl, hm, tc, by decide, by decide, fun style a b c tc s0 s6 => ?_⟩
  refine ⟨⟨by decide, by decide⟩, small63 (by decide), mkL_d (ds := [.int 1, .int (10 ^ 28)]) ?_⟩
  walk_at "dl"
  refine ⟨t, a, b, c, 2, rfl, tap_self ht _ _ _, tc, by decide, by decide, fun k a b c tc k0 k2 => ?_⟩
  rw [List.set_set]
  -- great
  obtain ⟨great, hgr, gr1⟩ : ∃ great : Int, ([.int 1, .int (10 ^ 28)] : List PyData)[k.toNat]? = some (.int great) ∧ (great = 1 ∨ great = 10000000000000000000000000000) := by
    have : k = 0 ∨ k = 1 := by omega
    rcases this with rfl | rfl
    · exact ⟨1, rfl, .inl rfl⟩
    · exact ⟨10 ^ 28, rfl, .inr rfl⟩
  refine ix_d hgr (.inl (by omega)) ?_
  refine dSeq.mk ?_
  walk_at "dl"
  refine ⟨t, a, b, c, 90, rfl, tap_self ht _ _ _, tc, by decide, by decide, fun p a b c tc p0 p90 => ?_⟩
  rw [List.set_set]
  refine ⟨.inl (.inr ⟨by omega, by omega⟩), ⟨by omega, by omega⟩, ?_⟩
  generalize hb : great * p = base
  have b0 : 0 ≤ base ∧ base ≤ 900000000000000000000000000000 := by
    subst hb
    rcases gr1 with rfl | rfl <;> omega
  refine rows_made (r := List.replicate m (0 : Int)) (upTo 0 m) (upTo 0 m) _ (M.set t (tapC a b c)).length [] ?_ rfl ?_ (fun x hx acc A N ha hN => ?_) ?_
  · rw [List.length_nil, upTo_len]; omega
  · simp
  · walk_at "dl"
    refine ⟨small63 (by decide), mkL_d (ds := [.int 0]) ?_⟩
    walk_at "dl"
    refine ⟨_, rfl, by omega, by omega, ?_, ?_⟩
    · rw [sizeLine_eq]; simp; omega
    · refine mkL_own ⟨ha, ?_⟩
      have e : (List.replicate (m : Int).toNat ([PyData.int 0].map W.d)).flatten = (List.replicate m (0 : Int)).map dint := by
        rw [Int.toNat_natCast, List.map_replicate]
        generalize m = z
        induction z with
        | zero => rfl
        | succ z ih => rw [List.replicate_succ, List.flatten_cons, ih, List.replicate_succ]; rfl
      rw [e]
      exact hN
  · rw [List.length_nil, Nat.zero_add, upTo_len]
    refine mkL_own ?_
    -- the memory with the table of noughts
    have eA : (M.set t (tapC a b c)).length = M.length := List.length_set
    have e0 : M.set t (tapC a b c) ++ (List.replicate m (List.replicate m (0 : Int))).map rowC ++ [.lst (hands (M.set t (tapC a b c)).length m)] = gm (M.set t (tapC a b c)) (List.replicate m (List.replicate m (0 : Int))) := by
      unfold gm
      rw [List.append_assoc, List.length_replicate]
    have e1 : (M.set t (tapC a b c) ++ (List.replicate m (List.replicate m (0 : Int))).map rowC).length = M.length + m := by simp
    rw [e0, e1]
    refine dSeq.mk ?_
    walk_at "dl"
    refine ⟨⟨by omega, by omega⟩, ?_⟩
    refine loop_by dint (fun _ ρ M' => ∃ g a b c x y z, ρ = [some (.own t), some (dint m), some (dint style), some (dint great), some (dint base), some (.own (M.length + m)), x, y, z, none] ∧ M' = gm (M.set t (tapC a b c)) g ∧ Tbl g ∧ g.length = m ∧ TapOk c) _ ⟨_, a, b, c, _, _, _, rfl, rfl, zero_tbl m1 (by omega), by simp, tc⟩ ?_ ?_
    · rintro pre i post ρ _ e ⟨g, a, b, c, x, y, z, rfl, rfl, tg, lg, tc⟩
      obtain ⟨hi, ei⟩ := upTo_at e
      rw [Int.toNat_natCast] at hi
      rw [Int.zero_add] at ei
      subst ei
      walk_at "dl"
      refine ⟨⟨by omega, by omega⟩, ?_⟩
      refine loop_by dint (fun _ ρ M' => ∃ g a b c y z, ρ = [some (.own t), some (dint m), some (dint style), some (dint great), some (dint base), some (.own (M.length + m)), some (dint (pre.length : Nat)), y, z, none] ∧ M' = gm (M.set t (tapC a b c)) g ∧ Tbl g ∧ g.length = m ∧ TapOk c) _ ⟨g, a, b, c, _, _, rfl, rfl, tg, lg, tc⟩ ?_ ?_
      · rintro pre2 j post2 ρ _ e2 ⟨g, a, b, c, y, z, rfl, rfl, tg, lg, tc⟩
        obtain ⟨hj, ej⟩ := upTo_at e2
        rw [Int.toNat_natCast] at hj
        rw [Int.zero_add] at ej
        subst ej
        have eA2 : ∀ a b c, (M.set t (tapC a b c)).length = M.length := fun _ _ _ => List.length_set
        refine dSeq.mk ?_
        walk_at "dl"
        refine ⟨⟨by decide, by decide⟩, small63 (by decide), mkL_d (ds := [.int 4, .int 98, .int (10 ^ 9), .int 1, .int 2, .int 1]) ?_⟩
        obtain ⟨far, hfar, f0, f1, f2⟩ : ∃ far : Int, ([.int 4, .int 98, .int (10 ^ 9), .int 1, .int 2, .int 1] : List PyData)[style.toNat]? = some (.int far) ∧ 0 < far ∧ far ≤ 1000000000 ∧ (style < 2 → far ≤ 98) := by
          have : style = 0 ∨ style = 1 ∨ style = 2 ∨ style = 3 ∨ style = 4 ∨ style = 5 := by omega
          rcases this with rfl | rfl | rfl | rfl | rfl | rfl
          · exact ⟨4, rfl, by decide, by decide, by decide⟩
          · exact ⟨98, rfl, by decide, by decide, by decide⟩
          · exact ⟨10 ^ 9, rfl, by decide, by decide, by decide⟩
          · exact ⟨1, rfl, by decide, by decide, by decide⟩
          · exact ⟨2, rfl, by decide, by decide, by decide⟩
          · exact ⟨1, rfl, by decide, by decide, by decide⟩
        refine ix_d hfar (.inl (by omega)) ?_
        refine ⟨fun ρ' M' => ∃ v a b c, ρ' = [some (.own t), some (dint m), some (dint style), some (dint great), some (dint base), some (.own (M.length + m)), some (dint (pre.length : Nat)), some (dint (pre2.length : Nat)), some (dint v), none] ∧ M' = gm (M.set t (tapC a b c)) g ∧ 0 ≤ v ∧ v ≤ 1000000000000000000000000000000 ∧ TapOk c, ?_, ?_⟩
        · walk_at "dl"
          have gt : (gm (M.set t (tapC a b c)) g)[t]? = some (tapC a b c) := by
            rw [gm_get (by rw [eA2]; exact ht)]
            exact tap_self ht _ _ _
          have hfl : far < 2 ^ 200 := Int.lt_of_le_of_lt f1 (by decide)
          have ht2 : t < (M.set t (tapC a b c)).length := by rw [eA2]; exact ht
          refine ite2 (fun h => ?_) (fun h => ?_)
          · refine ⟨t, a, b, c, far, rfl, gt, tc, f0, hfl, fun d a' b' c' tc' d0 dh => ?_⟩
            rw [gm_tap ht2, List.set_set]
            have h := of_decide_eq_true h
            have hs : ¬ style < 2 := by omega
            refine ite2 (fun h2 => absurd (of_decide_eq_true h2) hs) (fun h2 => ?_)
            refine ⟨.inl (.inr ⟨by omega, by omega⟩), _, a', b', c', rfl, rfl, by omega, by omega, tc'⟩
          · refine ⟨t, a, b, c, far, rfl, gt, tc, f0, hfl, fun d a' b' c' tc' d0 dh => ?_⟩
            rw [gm_tap ht2, List.set_set]
            refine ite2 (fun h2 => ?_) (fun h2 => ?_)
            · have h2 := of_decide_eq_true h2
              have := f2 h2
              refine ⟨.inl (.inl ⟨by omega, by omega⟩), _, a', b', c', rfl, rfl, ?_, ?_, tc'⟩
              · rcases gr1 with rfl | rfl <;> omega
              · rcases gr1 with rfl | rfl <;> omega
            · refine ⟨.inl (.inr ⟨by omega, by omega⟩), _, a', b', c', rfl, rfl, by omega, by omega, tc'⟩
        · rintro ρ _ ⟨v, a, b, c, rfl, rfl, v0, v1, tc⟩
          refine ⟨fun ρ' M' => ∃ v, ρ' = [some (.own t), some (dint m), some (dint style), some (dint great), some (dint base), some (.own (M.length + m)), some (dint (pre.length : Nat)), some (dint (pre2.length : Nat)), some (dint v), none] ∧ M' = gm (M.set t (tapC a b c)) g ∧ 0 ≤ v ∧ v ≤ 1000000000000000000000000000000, ?_, ?_⟩
          · walk_at "dl"
            refine ite2 (fun h => ?_) (fun h => ?_)
            · exact ⟨v, rfl, v0, v1⟩
            · exact ⟨0, rfl, by decide, by decide⟩
          · rintro ρ _ ⟨v, rfl, rfl, v0, v1⟩
            have hij : pre.length ≠ pre2.length := by omega
            obtain ⟨r, hr, hrl, r', hr', hrl', tg'⟩ := tg.put2 (i := pre.length) (j := pre2.length) (v := v) (by omega) (by omega) hij v0 v1
            have key : ∀ {i : Nat} {g : List (List Int)} {Q : W → Mem → Prop}, i < g.length → g.length = m → Q (.own (M.length + i)) (gm (M.set t (tapC a b c)) g) → dIxR (.own (M.length + m)) (.d (.int (i : Nat))) (gm (M.set t (tapC a b c)) g) Q := fun {i g Q} h1 h2 q => by
              have := gm_ix (A := M.set t (tapC a b c)) (Q := Q) h1 (by rw [eA2]; exact q)
              rw [eA2, h2] at this
              exact this
            have keyP : ∀ {i j : Nat} {g : List (List Int)} {r : List Int} {Q : Mem → Prop}, g[i]? = some r → j < r.length → Q (gm (M.set t (tapC a b c)) (g.set i (r.set j v))) → gSubR (.own (M.length + i)) (.d (.int (j : Nat))) (dint v) (gm (M.set t (tapC a b c)) g) Q := fun {i j g r Q} h1 h2 q => by
              have := gm_put (A := M.set t (tapC a b c)) (Q := Q) (v := v) h1 h2 q
              rw [eA2] at this
              exact this
            refine dSeq.mk ?_
            walk_at "dl"
            refine key (by omega) lg (keyP hr (by omega) ?_)
            walk_at "dl"
            refine key (by rw [List.length_set]; omega) (by rw [List.length_set]; exact lg) (keyP hr' (by omega) ?_)
            walk_at "dl"
            exact ⟨_, a, b, c, _, _, rfl, rfl, tg', by simp; exact lg, tc⟩
      · rintro ρ _ ⟨g, a, b, c, y, z, rfl, rfl, tg, lg, tc⟩
        exact ⟨g, a, b, c, _, _, _, rfl, rfl, tg, lg, tc⟩
    · rintro ρ _ ⟨g, a, b, c, x, y, z, rfl, rfl, tg, lg, tc⟩
      walk_at "dl"
      obtain ⟨B, hf, hd⟩ := gm_frz (M.set t (tapC a b c)) g
      rw [List.length_set, lg] at hd
      refine ⟨_, _, hf, hd, ?_⟩
      have eL : (M.set t (tapC a b c)).length = M.length := List.length_set
      have := gc_drop (Q := Q) (w := .d (grid g)) (M := M.set t (tapC a b c)) (g := B) (by rw [eL]; exact clos_tap hc) trivial (q g a b c tg (by omega) tc)
      rw [eL] at this
      exact this

/-! _law_stops -/
def sp_law_stops : DSp := fun ws M Q => ∃ t a b c n m, ws = [.own t, .d (.int n), .d (.int m)] ∧ M[t]? = some (tapC a b c) ∧ TapOk c ∧ 1 ≤ n ∧ n ≤ 1000 ∧ 1 ≤ m ∧ ∀ (l : List Int) a' b' c', Places n.toNat l → l ≠ [] → TapOk c' → Q (.d (nums l)) (M.set t (tapC a' b' c'))
def N_law_stops : List Str := ["tap", "wide", "most"]
def T_law_stops : DTS := (dRet (dSl false (dCall 2 sp_law_mixed (dCons (dVar 0) (dCons (dVar 1) dNil))) dNoPart (dPart (dOp (dAddR false) (dC (.int 1)) (dCall 2 sp_law_draw (dCons (dVar 0) (dCons (dCB dMinR (dCons (dVar 1) (dCons (dVar 2) dNil))) dNil)))))))

theorem upTo_nodup (lo : Int) (n : Nat) : (upTo lo n).Nodup := by
  refine List.pairwise_iff_getElem.mpr fun i j hi hj hij e => ?_
  have h1 := upTo_get (List.getElem?_eq_getElem hi)
  have h2 := upTo_get (List.getElem?_eq_getElem hj)
  omega
theorem perm_places {n : Nat} {l : List Int} (h : l.Perm (upTo 0 n)) : Places n l :=
  ⟨h.nodup_iff.mpr (upTo_nodup _ _), fun p hp => by have := upTo_mem (h.mem_iff.mp hp); omega⟩
theorem Places.take {n : Nat} {l : List Int} (h : Places n l) (k : Nat) : Places n (l.take k) :=
  ⟨h.nd.sublist (List.take_sublist k l), fun p hp => h.lt p (List.mem_of_mem_take hp)⟩
theorem sem_law_stops : ∀ ws M Q, ws.length = 3 → Clos M.length M → sp_law_stops ws M Q → T_law_stops { nx := fun _ M' => gcQ M.length Q (.d .none) M', rt := gcQ M.length Q } (startW N_law_stops ws) M := by
  rintro ws M Q hl hc ⟨t, a, b, c, n, m, rfl, hm, tc, n0, n1, m0, q⟩
  have ht := lt_of_some hm
  unfold T_law_stops N_law_stops
  walk_at "dl"
  refine ⟨t, a, b, c, n, rfl, hm, tc, by omega, by omega, fun l a b c hp tc => ?_⟩
  have hpl := perm_places hp
  have hlen : l.length = n.toNat := by rw [hp.length_eq, upTo_len]
  simp only [dMinR]
  refine ⟨t, a, b, c, _, rfl, tap_self ht _ _ _, tc, ?_, ?_, fun d a b c tc d0 d1 => ?_⟩
  · split <;> omega
  · split <;> omega
  rw [List.set_set]
  refine ⟨l.map dint, by rw [← map_d_int]; rfl, ?_⟩
  rw [cut_to _ (by omega), ← List.map_take]
  refine mkL_ints (gc_pure (q _ _ _ _ (hpl.take _) ?_ tc))
  intro e
  have := congrArg List.length e
  rw [List.length_take, List.length_nil] at this
  omega

/-! _law_steps -/
def sp_law_steps : DSp := fun ws M Q => ∃ g l, ws = [.d (grid g), .d (nums l)] ∧ Tbl g ∧ l.length ≤ 1000 ∧ (∀ p ∈ l, 0 ≤ p ∧ p < (g.length : Int)) ∧ Q (.d (.int (tlen g l))) M
def N_law_steps : List Str := ["grid", "tour", "found", "spot", "row"]
def T_law_steps : DTS := (dSeq (dAsg (dC (.int 0)) (gN 2)) (dSeq (dFor (dRg1 (dCons (dCB dLenR (dCons (dVar 1) dNil)) dNil)) (gN 3) (dSeq (dAsg (dOp dIxR (dVar 0) (dOp dIxR (dVar 1) (dVar 3))) (gN 4)) (dAsg (dOp (dAddR false) (dVar 2) (dOp dIxR (dVar 4) (dOp dIxR (dVar 1) (dOp dModR (dOp (dAddR false) (dVar 3) (dC (.int 1))) (dCB dLenR (dCons (dVar 1) dNil)))))) (gN 2)))) (dRet (dVar 2))))

theorem sem_law_steps : ∀ ws M Q, ws.length = 2 → Clos M.length M → sp_law_steps ws M Q → T_law_steps { nx := fun _ M' => gcQ M.length Q (.d .none) M', rt := gcQ M.length Q } (startW N_law_steps ws) M := by
  rintro ws M Q hl hc ⟨g, l, rfl, t, hn, hb, q⟩
  replace q := gc_pure (n := M.length) q
  refine dSeq.mk ?_
  unfold N_law_steps
  walk_at "dl"
  refine dSeq.mk ?_
  walk_at "dl"
  refine ⟨l.length, by rw [lenOf_d, List.length_map], ⟨by omega, by omega⟩, ?_⟩
  refine loop_by dint (fun pre ρ M' => M' = M ∧ ∃ x y, ρ = [some (.d (grid g)), some (.d (nums l)), some (dint (rsum pre.length fun i => at2 g (stopAt l i) (stopAt l (i + 1)))), x, y]) _ ⟨rfl, _, _, rfl⟩ ?_ ?_
  · rintro pre i post ρ _ e ⟨rfl, x, y, rfl⟩
    obtain ⟨hi, ei⟩ := upTo_at e
    rw [Int.toNat_natCast] at hi
    rw [Int.zero_add] at ei
    subst ei
    have hi2 : (pre.length + 1) % l.length < l.length := Nat.mod_lt _ (by omega)
    have g1 : l[pre.length]? = some (l.getD pre.length 0) := by simp [List.getD_eq_getElem?_getD, List.getElem?_eq_getElem hi]
    have g2 : l[(pre.length + 1) % l.length]? = some (l.getD ((pre.length + 1) % l.length) 0) := by simp [List.getD_eq_getElem?_getD, List.getElem?_eq_getElem hi2]
    have b1 := hb _ (List.mem_of_getElem? g1)
    have b2 := hb _ (List.mem_of_getElem? g2)
    obtain ⟨r, hr, _, _, har⟩ := t.row (i := (l.getD pre.length 0).toNat) (by omega)
    refine dSeq.mk ?_
    walk_at "dl"
    refine ix_int g1 (.inl rfl) (ix_row hr (.inl (by omega)) ?_)
    walk_at "dl"
    refine ⟨l.length, by rw [lenOf_d, List.length_map], by omega, ?_⟩
    refine ix_int g2 (.inl (by rw [Int.natCast_emod]; rfl)) (ix_int (har (l.getD ((pre.length + 1) % l.length) 0).toNat (by omega)) (.inl (by omega)) ?_)
    have s1 : stopAt l pre.length = (l.getD pre.length 0).toNat := by unfold stopAt; rw [Nat.mod_eq_of_lt hi]
    have s2 : (rsum (pre ++ [((pre.length : Nat) : Int)]).length fun i => at2 g (stopAt l i) (stopAt l (i + 1))) = (rsum pre.length fun i => at2 g (stopAt l i) (stopAt l (i + 1))) + at2 g (l.getD pre.length 0).toNat (l.getD ((pre.length + 1) % l.length) 0).toNat := by
      rw [List.length_append, List.length_singleton, rsum_last, s1]
      rfl
    exact ⟨rfl, some (dint pre.length), some (.d (nums r)), by rw [s2]⟩
  · rintro ρ _ ⟨rfl, x, y, rfl⟩
    walk_at "dl"
    rw [upTo_len, Int.toNat_natCast]
    rw [tlen_flen t hb] at q
    exact q

/-! _law_trip_right -/
def sp_law_trip_right : DSp := fun ws M Q => ∃ t a b c g l, ws = [.own t, .d (grid g), .d (nums l)] ∧ M[t]? = some (tapC a b c) ∧ TapOk c ∧ Tbl g ∧ Places g.length l ∧ l ≠ [] ∧ ∀ a' b' c', TapOk c' → Q (.d (.bool true)) (M.set t (tapC a' b' c'))
def N_law_trip_right : List Str := ["tap", "grid", "tour", "due", "before", "spot", "told"]
def T_law_trip_right : DTS := (dSeq (dPar3 3 4 5 (dCons (dCall 2 sp_law_steps (dCons (dVar 1) (dCons (dVar 2) dNil))) (dCons (dCB dReprR (dCons (dLst false (dCons (dVar 1) (dCons (dVar 2) dNil))) dNil)) (dCons (dCall 2 sp_law_draw (dCons (dVar 0) (dCons (dCB dLenR (dCons (dVar 2) dNil)) dNil))) dNil)))) (dSeq (dAsg (dLst true (dCons (dCall 2 sp_trip_length (dCons (dVar 1) (dCons (dVar 2) dNil))) (dCons (dCallK 2 2 [1, 0] sp_trip_length (dCons (dVar 2) (dCons (dVar 1) dNil))) (dCons (dCall 2 sp_trip_length (dCons (dVar 1) (dCons (dRev false (dVar 2)) dNil))) dNil)))) (gN 6)) (dSeq (dDrop (dBM dAppR (dVar 6) (dCons (dCall 2 sp_trip_length (dCons (dVar 1) (dCons (dOp (dAddR false) (dSl false (dVar 2) (dPart (dVar 5)) dNoPart) (dSl false (dVar 2) dNoPart (dPart (dVar 5)))) dNil))) dNil))) (dRet (dAndV (dOp (dEqR false) (dCB dReprR (dCons (dVar 6) dNil)) (dCB dReprR (dCons (dOp (dMulR false) (dLst false (dCons (dVar 3) dNil)) (dC (.int 4))) dNil))) (dOp (dEqR false) (dCB dReprR (dCons (dLst false (dCons (dVar 1) (dCons (dVar 2) dNil))) dNil)) (dVar 4)))))))

theorem cnt_nums (n : Nat) (l : List Int) : cntD (n + 1) (nums l) = 1 + l.length := by
  simp only [cntD, nums, List.map_map]
  congr 1
  induction l with
  | nil => rfl
  | cons x l ih =>
    rw [List.map_cons, List.sum_cons, ih, List.length_cons]
    have : (cntD n ∘ PyData.int) x = 1 := by cases n <;> rfl
    omega
theorem sum_le_len {α : Type} {f : α → Nat} {k : Nat} : ∀ l : List α, (∀ x ∈ l, f x ≤ k) → (l.map f).sum ≤ l.length * k
  | [], _ => by simp
  | x :: l, h => by
    rw [List.map_cons, List.sum_cons, List.length_cons, Nat.add_mul]
    have := h x List.mem_cons_self
    have := sum_le_len l fun y hy => h y (List.mem_cons_of_mem _ hy)
    omega
theorem Tbl.cnt {g : List (List Int)} (t : Tbl g) (n : Nat) : cntD (n + 2) (grid g) ≤ 931 := by
  have h : (g.map (cntD (n + 1) ∘ nums)).sum ≤ g.length * 31 := sum_le_len g fun r hr => by
    show cntD (n + 1) (nums r) ≤ 31
    rw [cnt_nums, t.sq r hr]
    have := t.hi
    omega
  show 1 + ((g.map nums).map (cntD (n + 1))).sum ≤ 931
  rw [List.map_map]
  have := t.hi
  omega
theorem log_far {v : Int} (h0 : 0 ≤ v) (h1 : v ≤ 1000000000000000000000000000000) : v.natAbs.log2 ≤ 110 := log2_le (by omega)
theorem Tbl.okd {g : List (List Int)} (t : Tbl g) (n : Nat) : okD 110 (n + 2) (grid g) = true := by
  show (g.map nums).all (okD 110 (n + 1)) = true
  rw [List.all_map, List.all_eq_true]
  exact fun r hr => okD_ints fun v hv => log_far (t.bd r hr v hv).1 (t.bd r hr v hv).2
theorem rsum_bnd {B : Int} : ∀ (n : Nat) (F : Nat → Int), (∀ i, i < n → 0 ≤ F i ∧ F i ≤ B) → 0 ≤ rsum n F ∧ rsum n F ≤ n * B
  | 0, F, _ => by simp [rsum]
  | n + 1, F, h => by
    have h1 := rsum_bnd n F fun i hi => h i (by omega)
    have h2 := h n (by omega)
    rw [rsum_last]
    have e : ((n + 1 : Nat) : Int) * B = n * B + B := by rw [Int.natCast_add, Int.add_mul]; simp
    omega
theorem tlen_bnd {g : List (List Int)} (t : Tbl g) {l : List Int} (p : Places g.length l) : 0 ≤ tlen g l ∧ tlen g l ≤ 30000000000000000000000000000000 := by
  rw [tlen_flen t p.lt]
  have hl := p.len
  have ht := t.hi
  have h := rsum_bnd (B := 1000000000000000000000000000000) l.length (fun i => at2 g (stopAt l i) (stopAt l (i + 1))) fun i hi => t.bnd (stopAt_lt p.lt (by omega) _) (stopAt_lt p.lt (by omega) _)
  unfold flen
  omega
theorem sem_law_trip_right : ∀ ws M Q, ws.length = 3 → Clos M.length M → sp_law_trip_right ws M Q → T_law_trip_right { nx := fun _ M' => gcQ M.length Q (.d .none) M', rt := gcQ M.length Q } (startW N_law_trip_right ws) M := by
  rintro ws M Q hl hc ⟨t, a, b, c, g, l, rfl, hm, tc, tg, pl, hne, q⟩
  have ht := lt_of_some hm
  have g30 := tg.hi
  have l30 := pl.len
  have lpos : 0 < l.length := List.length_pos_iff.mpr hne
  have both : ∀ {M : Mem} {Q : W → Mem → Prop}, Q (.d (.str (PyData.shown (.list [grid g, nums l])))) M → dReprR [.d (.list [grid g, nums l])] M Q := fun {M Q} q => by
    refine repr_ok (b := 110) (n := 3) rfl ⟨_, .inl rfl⟩ ?_ (by decide) (by decide) ?_ q
    · show (okD 110 2 (grid g) && (okD 110 2 (nums l) && true)) = true
      rw [tg.okd 0, okD_ints (n := 1) fun v hv => log_far (pl.lt v hv).1 (by have := (pl.lt v hv).2; omega)]
      rfl
    · have e : cntD 3 (.list [grid g, nums l]) = 1 + (cntD 2 (grid g) + (cntD 2 (nums l) + 0)) := rfl
      have : cntD 2 (grid g) ≤ 931 := tg.cnt 0
      rw [e, cnt_nums]
      omega
  have four : ∀ {M : Mem} {w : W} {v : Int} {Q : W → Mem → Prop}, 0 ≤ v → v ≤ 30000000000000000000000000000000 → toD M w = some (nums [v, v, v, v]) → (∃ a, w = .d (.list a) ∨ w = .d (.tuple a) ∨ ∃ i, w = .own i) → Q (.d (.str (PyData.shown (nums [v, v, v, v])))) M → dReprR [w] M Q := fun {M w v Q} h0 h1 hw hk q => by
    refine repr_ok (b := 110) (n := 1) hw hk (okD_ints fun x hx => ?_) (by decide) (by decide) ?_ q
    · have : x = v := by simpa using hx
      subst this
      exact log2_le (by omega)
    · rw [cnt_nums]
      show (110 + 10) * (1 + 4) ≤ 16777216
      decide
  refine dSeq.mk ?_
  unfold N_law_trip_right
  walk_at "dl"
  refine ⟨g, l, rfl, tg, by omega, pl.lt, small63 (by decide), ?_⟩
  refine mkL_d (ds := [grid g, nums l]) (both ?_)
  refine ⟨l.length, by rw [lenOf_d, List.length_map], t, a, b, c, _, rfl, hm, tc, by omega, by omega, fun k a b c tc k0 k1 => ?_⟩
  obtain ⟨k, rfl⟩ := Int.eq_ofNat_of_zero_le k0
  have hA : ∀ a b c, (M.set t (tapC a b c)).length = M.length := fun _ _ _ => List.length_set
  have due := tlen_bnd tg pl
  refine dSeq.mk ?_
  walk_at "dl"
  refine ⟨g, l, rfl, tg, pl, hne, rfl, g, l, rfl, tg, pl, hne, ?_⟩
  refine ⟨l.map dint, by rw [← map_d_int]; rfl, ?_⟩
  rw [← List.map_reverse]
  refine mkL_ints ?_
  refine ⟨g, l.reverse, rfl, tg, ⟨(List.reverse_perm l).nodup_iff.mpr pl.nd, fun p hp => pl.lt p (List.mem_reverse.mp hp)⟩, fun e => hne (List.reverse_eq_nil_iff.mp e), small63 (by decide), mkL_own ?_⟩
  rw [hA, tlen_rev tg pl.lt]
  refine dSeq.mk ?_
  walk_at "dl"
  have gl : ∀ (x : Cell), (M.set t (tapC a b c) ++ [x])[M.length]? = some x := fun x => by
    have e := getL (M := M.set t (tapC a b c)) (x := x) (B := [])
    rwa [hA] at e
  have eL : DL.listOf (M.set t (tapC a b c) ++ [Cell.lst [dint (tlen g l), dint (tlen g l), dint (tlen g l)]]) (.own M.length) = some [dint (tlen g l), dint (tlen g l), dint (tlen g l)] := by simp only [DL.listOf, gl]
  refine ⟨by rw [eL]; rfl, l.map dint, by rw [← map_d_int]; rfl, ?_⟩
  rw [cut_from _ k0, ← List.map_drop]
  refine mkL_ints ⟨l.map dint, by rw [← map_d_int]; rfl, ?_⟩
  rw [cut_to _ k0, ← List.map_take]
  refine mkL_ints ⟨(l.drop k).map dint, (l.take k).map dint, by rw [← map_d_int]; rfl, by rw [← map_d_int]; rfl, small63 (by rw [List.length_map, List.length_map, List.length_drop, List.length_take]; omega), ?_⟩
  rw [← List.map_append]
  refine mkL_ints ?_
  have hpm : (l.drop k ++ l.take k).Perm l := by
    refine List.perm_append_comm.trans ?_
    rw [List.take_append_drop]
  refine ⟨g, l.drop k ++ l.take k, rfl, tg, ⟨hpm.nodup_iff.mpr pl.nd, fun p hp => pl.lt p (hpm.mem_iff.mp hp)⟩, fun e => hne (by rw [e] at hpm; exact hpm.symm.eq_nil), ?_⟩
  rw [tlen_turn tg pl.lt (by omega)]
  refine ⟨_, gl _, small63 (Nat.le_of_ble_eq_true rfl), ?_⟩
  have sl : ∀ (x z : Cell), (M.set t (tapC a b c) ++ [x]).set M.length z = M.set t (tapC a b c) ++ [z] := fun x z => by
    have e := setL (M := M.set t (tapC a b c)) (x := x) (z := z) (B := [])
    rwa [hA] at e
  rw [sl]
  walk_at "dl"
  refine four due.1 due.2 (toD_own (ns := [tlen g l, tlen g l, tlen g l, tlen g l]) (gl _)) ⟨[], .inr (.inr ⟨_, rfl⟩)⟩ ⟨small63 (by decide), mkL_d (ds := [.int (tlen g l)]) ?_⟩
  refine ⟨[dint (tlen g l)], rfl, by decide, by decide, small63 (Nat.le_of_ble_eq_true rfl), mkL_d (ds := [.int (tlen g l), .int (tlen g l), .int (tlen g l), .int (tlen g l)]) ?_⟩
  refine four due.1 due.2 rfl ⟨_, .inl rfl⟩ ?_
  simp only [dEqR, decide_true, Bool.xor_true, Bool.not_false, Bool.false_xor]
  refine ⟨small63 (by decide), mkL_d (ds := [grid g, nums l]) (both ?_)⟩
  simp only [dEqR, decide_true, Bool.xor_true, Bool.not_false, Bool.false_xor]
  have := gc_drop (M := M.set t (tapC a b c)) (g := [.lst [dint (tlen g l), dint (tlen g l), dint (tlen g l), dint (tlen g l)]]) (Q := Q) (w := .d (.bool true)) (by rw [hA]; exact clos_tap hc) trivial (q a b c tc)
  rw [hA] at this
  exact this

/-! _law_holds -/
def sp_law_holds : DSp := fun ws M Q => ∃ t a b c, ws = [.own t] ∧ M[t]? = some (tapC a b c) ∧ TapOk c ∧ ∀ a' b' c', TapOk c' → Q (.d (.bool true)) (M.set t (tapC a' b' c'))
def N_law_holds : List Str := ["tap", "wide", "grid", "turn", "one", "other", "row"]
def T_law_holds : DTS := (dSeq (dAsg (dOp dIxR (dLst false (dCons (dOp (dAddR false) (dC (.int 1)) (dCall 2 sp_law_draw (dCons (dVar 0) (dCons (dC (.int 30)) dNil)))) (dCons (dOp (dAddR false) (dC (.int 1)) (dCall 2 sp_law_draw (dCons (dVar 0) (dCons (dC (.int 6)) dNil)))) (dCons (dC (.int 30)) dNil)))) (dCall 2 sp_law_draw (dCons (dVar 0) (dCons (dC (.int 3)) dNil)))) (gN 1)) (dSeq (dAsg (dCall 2 sp_law_table (dCons (dVar 0) (dCons (dVar 1) dNil))) (gN 2)) (dSeq (dFor (dRg1 (dCons (dC (.int 6)) dNil)) (gN 3) (dIfS (dNot (dTest (dCall 3 sp_law_trip_right (dCons (dVar 0) (dCons (dVar 2) (dCons (dCall 3 sp_law_stops (dCons (dVar 0) (dCons (dVar 1) (dCons (dOp dIxR (dLst false (dCons (dVar 1) (dCons (dC (.int 3)) (dCons (dC (.int 6)) dNil)))) (dOp dDivR (dVar 3) (dC (.int 2)))) dNil)))) dNil)))))) (dRet (dC (.bool false))) dNext)) (dSeq (dPar 4 5 (dCons (dCall 2 sp_law_draw (dCons (dVar 0) (dCons (dVar 1) dNil))) (dCons (dCall 2 sp_law_draw (dCons (dVar 0) (dCons (dVar 1) dNil))) dNil))) (dSeq (dAsg (dOp dIxR (dVar 2) (dVar 4)) (gN 6)) (dSeq (dIfS (dOr (dTest (dOp (dEqR true) (dCall 2 sp_trip_length (dCons (dVar 2) (dCons (dLst false (dCons (dVar 4) dNil)) dNil))) (dC (.int 0)))) (dAnd (dTest (dOp (dEqR true) (dVar 4) (dVar 5))) (dTest (dOp (dEqR true) (dCall 2 sp_trip_length (dCons (dVar 2) (dCons (dLst false (dCons (dVar 4) (dCons (dVar 5) dNil))) dNil))) (dOp (dMulR false) (dC (.int 2)) (dOp dIxR (dVar 6) (dVar 5))))))) (dRet (dC (.bool false))) dNext) (dRet (dCall 3 sp_law_trip_right (dCons (dVar 0) (dCons (dVar 2) (dCons (dCall 2 sp_law_mixed (dCons (dVar 0) (dCons (dVar 1) dNil))) dNil)))))))))))

theorem three {x y z k : Int} (h0 : 0 ≤ k) (h3 : k < 3) : ∃ v, ([.int x, .int y, .int z] : List PyData)[k.toNat]? = some (.int v) ∧ (v = x ∨ v = y ∨ v = z) := by
  have : k = 0 ∨ k = 1 ∨ k = 2 := by omega
  rcases this with rfl | rfl | rfl
  · exact ⟨x, rfl, .inl rfl⟩
  · exact ⟨y, rfl, .inr (.inl rfl)⟩
  · exact ⟨z, rfl, .inr (.inr rfl)⟩
theorem one_place {n : Nat} {i : Int} (h0 : 0 ≤ i) (h1 : i < n) : Places n [i] := ⟨by simp, fun p hp => by simp only [List.mem_singleton] at hp; omega⟩
theorem two_places {n : Nat} {i j : Int} (h0 : 0 ≤ i) (h1 : i < n) (h2 : 0 ≤ j) (h3 : j < n) (h : i ≠ j) : Places n [i, j] := ⟨by simp [h], fun p hp => by simp only [List.mem_cons, List.not_mem_nil, or_false] at hp; omega⟩
theorem sem_law_holds : ∀ ws M Q, ws.length = 1 → Clos M.length M → sp_law_holds ws M Q → T_law_holds { nx := fun _ M' => gcQ M.length Q (.d .none) M', rt := gcQ M.length Q } (startW N_law_holds ws) M := by
  rintro ws M Q hl hc ⟨t, a, b, c, rfl, hm, tc, q⟩
  have ht := lt_of_some hm
  refine dSeq.mk ?_
  unfold N_law_holds
  walk_at "dl"
  refine ⟨t, a, b, c, 30, rfl, hm, tc, by decide, by decide, fun w1 a b c tc w10 w11 => ?_⟩
  walk_at "dl"
  refine ⟨t, a, b, c, 6, rfl, tap_self ht _ _ _, tc, by decide, by decide, fun w2 a b c tc w20 w21 => ?_⟩
  rw [List.set_set]
  walk_at "dl"
  refine ⟨small63 (Nat.le_of_ble_eq_true rfl), mkL_d (ds := [.int (1 + w1), .int (1 + w2), .int 30]) ?_⟩
  refine ⟨t, a, b, c, 3, rfl, tap_self ht _ _ _, tc, by decide, by decide, fun k a b c tc k0 k1 => ?_⟩
  rw [List.set_set]
  obtain ⟨wide, hw, hww⟩ := three (x := 1 + w1) (y := 1 + w2) (z := 30) k0 k1
  have wb : 1 ≤ wide ∧ wide ≤ 30 := by omega
  refine ix_d hw (.inl (by omega)) ?_
  refine dSeq.mk ?_
  walk_at "dl"
  refine ⟨t, a, b, c, wide, rfl, tap_self ht _ _ _, tc, wb.1, wb.2, fun g a b c tg gl tc => ?_⟩
  rw [List.set_set]
  refine dSeq.mk ?_
  walk_at "dl"
  refine ⟨⟨by decide, by decide⟩, ?_⟩
  refine loop_by dint (fun _ ρ M' => ∃ a b c x, ρ = [some (.own t), some (dint wide), some (.d (grid g)), x, none, none, none] ∧ M' = M.set t (tapC a b c) ∧ TapOk c) _ ⟨a, b, c, _, rfl, rfl, tc⟩ ?_ ?_
  · rintro pre i post ρ _ e ⟨a, b, c, x, rfl, rfl, tc⟩
    have hi := upTo_mem (show i ∈ upTo 0 (Int.toNat 6) by rw [e]; simp)
    have hi6 : ((Int.toNat 6 : Nat) : Int) = 6 := rfl
    obtain ⟨most, hmo, hmm⟩ := three (x := wide) (y := 3) (z := 6) (k := i / 2) (by omega) (by omega)
    walk_at "dl"
    refine ⟨small63 (Nat.le_of_ble_eq_true rfl), mkL_d (ds := [.int wide, .int 3, .int 6]) ⟨?_, ix_d hmo (.inl (by omega)) ?_⟩⟩
    · exact .inl ⟨by decide, by decide⟩
    refine ⟨t, a, b, c, wide, most, rfl, tap_self ht _ _ _, tc, wb.1, by omega, by omega, fun l a b c pl hne tc => ?_⟩
    rw [List.set_set]
    refine ⟨t, a, b, c, g, l, rfl, tap_self ht _ _ _, tc, tg, by rw [show g.length = wide.toNat by omega]; exact pl, hne, fun a b c tc => ?_⟩
    rw [List.set_set]
    walk_at "dl"
    exact ⟨a, b, c, _, rfl, rfl, tc⟩
  · rintro ρ _ ⟨a, b, c, x, rfl, rfl, tc⟩
    refine dSeq.mk ?_
    walk_at "dl"
    refine ⟨t, a, b, c, wide, rfl, tap_self ht _ _ _, tc, by omega, Int.lt_of_le_of_lt wb.2 (by decide), fun i a b c tc i0 i1 => ?_⟩
    rw [List.set_set]
    walk_at "dl"
    refine ⟨t, a, b, c, wide, rfl, tap_self ht _ _ _, tc, by omega, Int.lt_of_le_of_lt wb.2 (by decide), fun j a b c tc j0 j1 => ?_⟩
    rw [List.set_set]
    refine dSeq.mk ?_
    walk_at "dl"
    obtain ⟨r, hr, hrl, _, har⟩ := tg.row (i := i.toNat) (by omega)
    refine ix_row hr (.inl (by omega)) ?_
    refine dSeq.mk ?_
    walk_at "dl"
    refine ⟨small63 (Nat.le_of_ble_eq_true rfl), mkL_d (ds := [.int i]) ?_⟩
    refine ⟨g, [i], rfl, tg, one_place i0 (by omega), by simp, ?_⟩
    rw [tlen_one, tg.zd _ (by omega)]
    simp only [dEqR, decide_true, Bool.xor_true, Bool.true_xor, Bool.not_true, Bool.false_eq_true, if_false]
    -- the end, whichever way it is reached
    have fin : sp_law_mixed [.own t, dint wide] (M.set t (tapC a b c)) fun w M1 => sp_law_trip_right [.own t, .d (grid g), w] M1 (gcQ M.length Q) := by
      refine ⟨t, a, b, c, wide, rfl, tap_self ht _ _ _, tc, by omega, by omega, fun l a b c hp tc => ?_⟩
      rw [List.set_set]
      have hpl := perm_places hp
      have hlen : l.length = wide.toNat := by rw [hp.length_eq, upTo_len]
      refine ⟨t, a, b, c, g, l, rfl, tap_self ht _ _ _, tc, tg, by rw [show g.length = wide.toNat by omega]; exact hpl, fun e => by rw [e, List.length_nil] at hlen; omega, fun a b c tc => ?_⟩
      rw [List.set_set]
      exact gc_pure (q a b c tc)
    by_cases hij : i = j
    · have e1 : (!decide (i = j)) = false := by simp [hij]
      rw [e1]
      simp only [Bool.false_eq_true, if_false]
      exact fin
    · have e1 : (!decide (i = j)) = true := by simp [hij]
      rw [e1]
      simp only [if_true]
      refine ⟨small63 (Nat.le_of_ble_eq_true rfl), mkL_d (ds := [.int i, .int j]) ?_⟩
      refine ⟨g, [i, j], rfl, tg, two_places i0 (by omega) j0 (by omega) hij, by simp, ?_⟩
      refine ix_int (har j.toNat (by omega)) (.inl (by omega)) ?_
      have bb := tg.bnd (i := i.toNat) (j := j.toNat) (by omega) (by omega)
      refine ⟨.inl (.inl ⟨by omega, by omega⟩), ?_⟩
      rw [tlen_two, tg.sy j.toNat i.toNat (by omega) (by omega), show at2 g i.toNat j.toNat + at2 g i.toNat j.toNat = 2 * at2 g i.toNat j.toNat by omega]
      simp only [decide_true, Bool.not_true, Bool.false_eq_true, if_false]
      exact fin

/-! law -/
def N_law : List Str := ["script", "cells", "far", "told", "one", "turn", "cell", "other"]
def T_law : DTS := (dSeq (dAsg (dCall 2 sp_law_cells (dCons (dVar 0) (dCons (dC (.int 10)) dNil))) (gN 1)) (dSeq (dIfS (dTest (dOp (dEqR true) (dComp false (dEnum (dCons (dVar 1) dNil)) (gT 2 (gsCons (gN 5) (gsCons (gN 6) gsNil))) (dNot (dTest (dCall 1 sp_law_holds (dCons (dCall 2 sp_law_tap (dCons (dVar 6) (dCons (dVar 5) dNil))) dNil)))) (dVar 5) [5, 6]) (dLst false dNil))) (dRet (dC (.bool false))) dNext) (dSeq (dAsg (dComp false (dRg1 (dCons (dC (.int 30)) dNil)) (gN 4) dYes (dComp false (dRg1 (dCons (dC (.int 30)) dNil)) (gN 7) dYes (dIf (dTest (dOp (dEqR false) (dVar 4) (dVar 7))) (dC (.int 0)) (dOp dPowR (dC (.int 10)) (dC (.int 30)))) [7]) [4]) (gN 2)) (dSeq (dAsg (dLst false (dCons (dCall 2 sp_trip_length (dCons (dVar 2) (dCons (dListRg false (dC (.int 30))) dNil))) (dCons (dCall 2 sp_trip_length (dCons (dVar 2) (dCons (dLst false (dCons (dC (.int 29)) dNil)) dNil))) (dCons (dCall 2 sp_trip_length (dCons (dVar 2) (dCons (dLst false (dCons (dC (.int 3)) (dCons (dC (.int 7)) dNil))) dNil))) dNil)))) (gN 3)) (dRet (dAndV (dOp (dEqR false) (dVar 3) (dLst false (dCons (dOp (dMulR false) (dC (.int 3)) (dOp dPowR (dC (.int 10)) (dC (.int 31)))) (dCons (dC (.int 0)) (dCons (dOp (dMulR false) (dC (.int 2)) (dOp dPowR (dC (.int 10)) (dC (.int 30)))) dNil))))) (dOp (dEqR false) (dCall 2 sp_trip_length (dCons (dLst false (dCons (dLst false (dCons (dC (.int 0)) dNil)) dNil)) (dCons (dLst false (dCons (dC (.int 0)) dNil)) dNil))) (dC (.int 0)))))))))

theorem comp_none {α : Type} {g : DTG} {tt : DT Bool} {te : DW} {ρ0 : Rho} {Q : List W → Mem → Prop} (inj : α → W) : ∀ (xs : List α) (M : Mem),
    (∀ x ∈ xs, ∀ (M : Mem) (N : List W → Mem → Prop), (∀ M', N [] M') → g (inj x) ρ0 M fun ρ1 M1 => tt ρ1 M1 fun b M2 => if b = true then te ρ1 M2 fun y M3 => 0 < sizeLine ∧ N ([] ++ [y]) M3 else N [] M2) →
    (∀ M', Q [] M') → dCL g tt te ρ0 Q (xs.map inj) [] M
  | [], M, _, q => q M
  | x :: xs, M, hs, q => ⟨fun acc' M' => acc' = [], hs x List.mem_cons_self M (fun acc' M' => acc' = []) (fun _ => rfl), fun acc' M' e => by
    subst e
    exact comp_none inj xs M' (fun y hy => hs y (List.mem_cons_of_mem _ hy)) q⟩
theorem enumD_cell {ns : List Int} {x : PyData} (h : x ∈ enumD 0 (ns.map .int)) : ∃ (i : Nat) (c : Int), i < ns.length ∧ x = .tuple [.int i, .int c] := by
  rw [enumD_map] at h
  obtain ⟨i, hi, e⟩ := List.mem_map.mp h
  have hi := List.mem_range.mp hi
  rw [List.length_map] at hi
  refine ⟨i, ns[i], hi, ?_⟩
  rw [← e, Nat.zero_add]
  simp [List.getD_eq_getElem?_getD, List.getElem?_map, List.getElem?_eq_getElem hi]
def farRow (x : Int) : List Int := (upTo 0 30).map fun y => if x = y then 0 else 1000000000000000000000000000000
def farT : List (List Int) := (upTo 0 30).map farRow
theorem farT_tbl : Tbl farT := by
  have h : ∀ i, i < farT.length → ∀ j, j < farT.length → at2 farT i j = at2 farT j i := by decide +kernel
  exact ⟨by decide +kernel, by decide +kernel, by decide +kernel, by decide +kernel, by decide +kernel, fun i j hi hj => h i hi j hj⟩
theorem farT_all : tlen farT (upTo 0 30) = 30000000000000000000000000000000 := by decide +kernel
theorem farT_one : tlen farT [29] = 0 := by decide +kernel
theorem farT_two : tlen farT [3, 7] = 2000000000000000000000000000000 := by decide +kernel
theorem one_tbl : Tbl [[0]] := zero_tbl (n := 1) (by decide) (by decide)
theorem sem_law : ∀ ws M Q, ws.length = 1 → Clos M.length M → spLaw ws M Q → T_law { nx := fun _ M' => gcQ M.length Q (.d .none) M', rt := gcQ M.length Q } (startW N_law ws) M := by
  rintro ws M Q hl hc ⟨⟨ns, rfl, hn, _⟩, q⟩
  replace q : ∀ M', gcQ M.length Q (.d (.bool true)) M' := fun M' => gc_pure (q M')
  refine dSeq.mk ?_
  unfold N_law
  walk_at "dl"
  refine ⟨ns, 10, rfl, hn, by decide, by decide, fun cs c1 c2 => ?_⟩
  refine dSeq.mk ?_
  walk_at "dl"
  refine ⟨cs.map .int, rfl, ?_⟩
  refine comp_none .d _ M (fun x hx M N hN => ?_) (fun M' => ?_)
  · obtain ⟨i, c, hi, rfl⟩ := enumD_cell hx
    refine ⟨[dint i, dint c], rfl, rfl, ?_⟩
    simp only [gsCons, gsNil]
    walk_at "dl"
    refine ⟨c, i, rfl, by omega, by omega, fun a b e te => ?_⟩
    refine ⟨M.length, a, b, e, rfl, by simp, te, fun a b e te => ?_⟩
    walk_at "dl"
    exact hN _
  refine mkL_d (ds := []) ⟨small63 (by decide), mkL_d (ds := []) ⟨.list [], .list [], rfl, rfl, shaped_ints [], shaped_ints [], ?_⟩⟩
  have e0 : PyData.eqv (.list []) (.list []) = true := eqv_ints [] []
  rw [e0]
  walk_at "dl"
  generalize M' = M1
  refine dSeq.mk ?_
  walk_at "dl"
  refine ⟨⟨by decide, by decide⟩, ?_⟩
  refine comp_map dint (fun x => .d (nums (farRow x))) (upTo 0 30) (small63 (by rw [upTo_len]; decide)) (fun x hx acc N ha hN => ?_) ?_
  · walk_at "dl"
    refine ⟨⟨by decide, by decide⟩, ?_⟩
    refine comp_map dint (fun y => dint (if x = y then 0 else 1000000000000000000000000000000)) (upTo 0 30) (small63 (by rw [upTo_len]; decide)) (fun y hy acc N ha hN => ?_) ?_
    · walk_at "dl"
      simp only [dEqR, Bool.false_xor]
      by_cases e : x = y
      · rw [if_pos (decide_eq_true e)]
        rw [if_pos e] at hN
        exact ⟨ha, hN⟩
      · rw [if_neg (by simpa using e)]
        rw [if_neg e] at hN
        exact ⟨⟨by decide, by decide⟩, ha, hN⟩
    · have e : (upTo 0 30).map (fun y => dint (if x = y then 0 else 1000000000000000000000000000000)) = (farRow x).map dint := by
        unfold farRow
        rw [List.map_map]
        rfl
      rw [e]
      exact mkL_ints ⟨ha, hN⟩
  · have e : (upTo 0 30).map (fun x => W.d (nums (farRow x))) = (farT.map nums).map .d := by
      unfold farT
      rw [List.map_map, List.map_map]
      rfl
    rw [e]
    refine mkL_d ?_
    refine dSeq.mk ?_
    walk_at "dl"
    refine ⟨by decide, by decide, mkL_ints ⟨farT, _, rfl, farT_tbl, ⟨upTo_nodup _ _, fun p hp => upTo_mem hp |>.imp id fun h => h⟩, by decide +kernel, ?_⟩⟩
    have f1 : Places farT.length [29] := one_place (by decide) (by decide +kernel)
    have f2 : Places farT.length [3, 7] := two_places (by decide) (by decide +kernel) (by decide) (by decide +kernel) (by decide)
    refine ⟨small63 (by decide), mkL_d (ds := [.int 29]) ⟨farT, [29], rfl, farT_tbl, f1, by simp, ?_⟩⟩
    refine ⟨small63 (by decide), mkL_d (ds := [.int 3, .int 7]) ⟨farT, [3, 7], rfl, farT_tbl, f2, by simp, ?_⟩⟩
    rw [show tlen farT (upTo 0 (Int.toNat 30)) = 30000000000000000000000000000000 from farT_all, farT_one, farT_two]
    refine ⟨small63 (Nat.le_of_ble_eq_true rfl), mkL_ints (ns := [30000000000000000000000000000000, 0, 2000000000000000000000000000000]) ?_⟩
    walk_at "dl"
    refine ⟨⟨by decide, by decide⟩, .inl (.inl ⟨by decide, by decide⟩), ⟨by decide, by decide⟩, .inl (.inl ⟨by decide, by decide⟩), small63 (Nat.le_of_ble_eq_true rfl), ?_⟩
    refine mkL_ints (ns := [30000000000000000000000000000000, 0, 2000000000000000000000000000000]) ⟨_, _, rfl, rfl, shaped_ints _, shaped_ints _, ?_⟩
    rw [eqv_ints]
    simp only [decide_true, Bool.false_xor]
    refine ⟨small63 (by decide), mkL_d (ds := [.int 0]) ⟨small63 (by decide), mkL_d (ds := [nums [0]]) ⟨small63 (by decide), mkL_d (ds := [.int 0]) ⟨[[0]], [0], rfl, one_tbl, one_place (by decide) (by decide), by simp, ?_⟩⟩⟩⟩
    have e1 : tlen [[0]] [0] = 0 := by decide
    rw [e1]
    exact q _

end Sem
namespace Dv
open PySem PySem.Spec L2 DL Sem
def topS (i : Nat) : Stmt := PySem.Challenge.pw_skipstops_k03_trips_and_their_lengths.main.body.getD i (.Pass ⟨0, 0, 0, 0⟩)
structure Bl (mg : Str → Option Value) : Prop where
  b_abs : mg "abs" = none
  b_all : mg "all" = none
  b_bool : mg "bool" = none
  b_enumerate : mg "enumerate" = none
  b_int : mg "int" = none
  b_isinstance : mg "isinstance" = none
  b_len : mg "len" = none
  b_list : mg "list" = none
  b_max : mg "max" = none
  b_min : mg "min" = none
  b_range : mg "range" = none
  b_repr : mg "repr" = none
  b_set : mg "set" = none
  b_sum : mg "sum" = none
  g_MOST_DISTANCE : ∃ t, mg "MOST_DISTANCE" = some (.int 1000000000000000000000000000000 t)
  g_MOST_PLACES : ∃ t, mg "MOST_PLACES" = some (.int 30 t)
abbrev s_is_between : Stmt := topS 7
theorem sc_is_between : FnScope N_is_between ["value", "least", "most"] (defScope s_is_between) := ⟨rfl, rfl, rfl, by decide +kernel, rfl, by decide +kernel, by decide +kernel⟩
set_option maxHeartbeats 4000000 in
theorem dv_is_between {P : Program} {w : World} {K : PySem.W.Frag} {mg : Str → Option Value} {base : Heap} (B : Bl mg)  {f : Addr} (cdv : Value) (A : Around) (outer : List Env) (s : Shared) (H : Hp) (hg : A.guards = some []) (hr : Room 0 (A.deeper (PyProof.Rows.envOfC "is_between" (defScope s_is_between) s.heap.objs.size f cdv))) : DSs (cxOf CX0 P w K mg base N_is_between "is_between" (defScope s_is_between) f cdv A outer s H E0).nox (defBody s_is_between) T_is_between :=
  (dss_cons (ds_if (dt_w (dw_or (dt_not (dt_val (de_isi kit_int B.b_isinstance (da_cons (de_var (pv 0)) (da_cons (de_ty B.b_int boot_int) da_nil))))) (dw_or1 (dt_val (de_isi kit_bool B.b_isinstance (da_cons (de_var (pv 0)) (da_cons (de_ty B.b_bool boot_bool) da_nil))))))) (dss_one (ds_ret de_bl)) dss_nil) (dss_one (ds_ret (de_and (de_or (de_isN (de_var (pv 1)) de_non) (de_one (de_le (de_var (pv 1)) (de_var (pv 0))))) (de_one (de_or (de_isN (de_var (pv 2)) de_non) (de_one (de_le (de_var (pv 0)) (de_var (pv 2))))))))))
theorem ok_is_between {P : Program} {w : World} {K : PySem.W.Frag} {mg : Str → Option Value} {base : Heap} (B : Bl mg)  (D : DefAt K mg "is_between" s_is_between ["value", "least", "most"]) : Callee P w K mg base 1 "is_between" s_is_between ["value", "least", "most"] sp_is_between :=
  D.callee fun f fd F => fnG F sc_is_between (fun cdv A outer s H hg hr => dv_is_between B  cdv A outer s H hg hr) sem_is_between
abbrev s_is_row : Stmt := topS 8
theorem sc_is_row : FnScope N_is_row ["count", "value"] (defScope s_is_row) := ⟨rfl, rfl, rfl, by decide +kernel, rfl, by decide +kernel, by decide +kernel⟩
set_option maxHeartbeats 4000000 in
theorem dv_is_row {P : Program} {w : World} {K : PySem.W.Frag} {mg : Str → Option Value} {base : Heap} (B : Bl mg) (C_is_between : Callee P w K mg base 1 "is_between" s_is_between ["value", "least", "most"] sp_is_between) {f : Addr} (cdv : Value) (A : Around) (outer : List Env) (s : Shared) (H : Hp) (hg : A.guards = some []) (hr : Room 1 (A.deeper (PyProof.Rows.envOfC "is_row" (defScope s_is_row) s.heap.objs.size f cdv))) : DSs (cxOf CX0 P w K mg base N_is_row "is_row" (defScope s_is_row) f cdv A outer s H E0).nox (defBody s_is_row) T_is_row :=
  (dss_one (ds_ret (de_and (de_isi kit_list B.b_isinstance (da_cons (de_var (pv 1)) (da_cons (de_ty B.b_list boot_lst) da_nil))) (de_and (de_eq hr.units (de_len B.b_len (da_cons (de_var (pv 1)) da_nil)) (de_var (pv 0))) (de_one (de_all rfl B.b_all (da_cons (de_lc false (own := [("one", 2)]) rfl sc_is_row.nd (di_list (de_var (pv 1))) (blkOk_by (own := [("one", 2)]) (N := N_is_row) (sc := (defScope s_is_row)) (by decide +kernel)) (fun _ _ _ _ _ => (pg_name (i := 2) sc_is_row.nd rfl (by first | exact Or.inl rfl | exact Or.inr rfl))) (sg_name (by decide)) (fun _ _ _ _ _ => dts_nil) (fun _ _ _ _ _ => (de_callC C_is_between hg (hr.mono (by decide)) (da_cons (de_var (pv 2)) (da_cons de_int (da_cons (de_gintE B.g_MOST_DISTANCE) da_nil)))))) da_nil)))))))
theorem ok_is_row {P : Program} {w : World} {K : PySem.W.Frag} {mg : Str → Option Value} {base : Heap} (B : Bl mg) (C_is_between : Callee P w K mg base 1 "is_between" s_is_between ["value", "least", "most"] sp_is_between) (D : DefAt K mg "is_row" s_is_row ["count", "value"]) : Callee P w K mg base 2 "is_row" s_is_row ["count", "value"] sp_is_row :=
  D.callee fun f fd F => fnG F sc_is_row (fun cdv A outer s H hg hr => dv_is_row B C_is_between cdv A outer s H hg hr) sem_is_row
abbrev s_is_table : Stmt := topS 9
theorem sc_is_table : FnScope N_is_table ["value"] (defScope s_is_table) := ⟨rfl, rfl, rfl, by decide +kernel, rfl, by decide +kernel, by decide +kernel⟩
set_option maxHeartbeats 4000000 in
theorem dv_is_table {P : Program} {w : World} {K : PySem.W.Frag} {mg : Str → Option Value} {base : Heap} (B : Bl mg) (C_is_row : Callee P w K mg base 2 "is_row" s_is_row ["count", "value"] sp_is_row) {f : Addr} (cdv : Value) (A : Around) (outer : List Env) (s : Shared) (H : Hp) (hg : A.guards = some []) (hr : Room 2 (A.deeper (PyProof.Rows.envOfC "is_table" (defScope s_is_table) s.heap.objs.size f cdv))) : DSs (cxOf CX0 P w K mg base N_is_table "is_table" (defScope s_is_table) f cdv A outer s H E0).nox (defBody s_is_table) T_is_table :=
  (dss_cons (ds_if (dt_w (dw_or (dt_not (dt_val (de_isi kit_list B.b_isinstance (da_cons (de_var (pv 0)) (da_cons (de_ty B.b_list boot_lst) da_nil))))) (dw_or1 (dt_not (dt_chain op_le sIntB0 op_le sIntB0 de_int (de_len B.b_len (da_cons (de_var (pv 0)) da_nil)) (de_gintE B.g_MOST_PLACES)))))) (dss_one (ds_ret de_bl)) dss_nil) (dss_cons (ds_if (dt_not (dt_val (de_all rfl B.b_all (da_cons (de_lc false (own := [("row", 2)]) rfl sc_is_table.nd (di_list (de_var (pv 0))) (blkOk_by (own := [("row", 2)]) (N := N_is_table) (sc := (defScope s_is_table)) (by decide +kernel)) (fun _ _ _ _ _ => (pg_name (i := 2) sc_is_table.nd rfl (by first | exact Or.inl rfl | exact Or.inr rfl))) (sg_name (by decide)) (fun _ _ _ _ _ => dts_nil) (fun _ _ _ _ _ => (de_callC C_is_row hg (hr.mono (by decide)) (da_cons (de_len B.b_len (da_cons (de_var (pv 0)) da_nil)) (da_cons (de_var (pv 2)) da_nil))))) da_nil)))) (dss_one (ds_ret de_bl)) dss_nil) (dss_cons (ds_for (vs := [1, 2]) PassesOwn.never rfl (di_enum B.b_enumerate (da_cons (de_var (pv 0)) da_nil)) (pg_tup rfl (pgs_cons (pg_name (i := 1) sc_is_table.nd rfl (by first | exact Or.inl rfl | exact Or.inr rfl)) (pgs_cons (pg_name (i := 2) sc_is_table.nd rfl (by first | exact Or.inl rfl | exact Or.inr rfl)) pgs_nil))) (sg_tup (sgs_cons (sg_name (by decide)) (sgs_cons (sg_name (by decide)) sgs_nil))) (dss_one (ds_if (dt_w (dw_or (dt_ne hr.units (de_ix (de_var (pv 2)) (de_var (pv 1))) de_int) (dw_or1 (dt_not (dt_val (de_all rfl B.b_all (da_cons (de_lc false (own := [("other", 3)]) rfl sc_is_table.nd (di_range1 B.b_range (da_cons (de_var (pv 1)) da_nil)) (blkOk_by (own := [("other", 3)]) (N := N_is_table) (sc := (defScope s_is_table)) (by decide +kernel)) (fun _ _ _ _ _ => (pg_name (i := 3) sc_is_table.nd rfl (by first | exact Or.inl rfl | exact Or.inr rfl))) (sg_name (by decide)) (fun _ _ _ _ _ => dts_nil) (fun _ _ _ _ _ => (de_eq hr.units (de_ix (de_var (pv 2)) (de_var (pv 3))) (de_ix (de_ix (de_var (pv 0)) (de_var (pv 3))) (de_var (pv 1)))))) da_nil))))))) (dss_one (ds_ret de_bl)) dss_nil))) (dss_one (ds_ret de_bl)))))
theorem ok_is_table {P : Program} {w : World} {K : PySem.W.Frag} {mg : Str → Option Value} {base : Heap} (B : Bl mg) (C_is_row : Callee P w K mg base 2 "is_row" s_is_row ["count", "value"] sp_is_row) (D : DefAt K mg "is_table" s_is_table ["value"]) : Callee P w K mg base 3 "is_table" s_is_table ["value"] sp_is_table :=
  D.callee fun f fd F => fnG F sc_is_table (fun cdv A outer s H hg hr => dv_is_table B C_is_row cdv A outer s H hg hr) sem_is_table
abbrev s_are_places : Stmt := topS 10
theorem sc_are_places : FnScope N_are_places ["count", "value"] (defScope s_are_places) := ⟨rfl, rfl, rfl, by decide +kernel, rfl, by decide +kernel, by decide +kernel⟩
set_option maxHeartbeats 4000000 in
theorem dv_are_places {P : Program} {w : World} {K : PySem.W.Frag} {mg : Str → Option Value} {base : Heap} (B : Bl mg) (C_is_between : Callee P w K mg base 1 "is_between" s_is_between ["value", "least", "most"] sp_is_between) {f : Addr} (cdv : Value) (A : Around) (outer : List Env) (s : Shared) (H : Hp) (hg : A.guards = some []) (hr : Room 1 (A.deeper (PyProof.Rows.envOfC "are_places" (defScope s_are_places) s.heap.objs.size f cdv))) : DSs (cxOf CX0 P w K mg base N_are_places "are_places" (defScope s_are_places) f cdv A outer s H E0).nox (defBody s_are_places) T_are_places :=
  (dss_cons (ds_if (dt_w (dw_or (dt_not (dt_val (de_isi kit_list B.b_isinstance (da_cons (de_var (pv 1)) (da_cons (de_ty B.b_list boot_lst) da_nil))))) (dw_or1 (dt_not (dt_val (de_all rfl B.b_all (da_cons (de_lc false (own := [("place", 2)]) rfl sc_are_places.nd (di_list (de_var (pv 1))) (blkOk_by (own := [("place", 2)]) (N := N_are_places) (sc := (defScope s_are_places)) (by decide +kernel)) (fun _ _ _ _ _ => (pg_name (i := 2) sc_are_places.nd rfl (by first | exact Or.inl rfl | exact Or.inr rfl))) (sg_name (by decide)) (fun _ _ _ _ _ => dts_nil) (fun _ _ _ _ _ => (de_callC C_is_between hg (hr.mono (by decide)) (da_cons (de_var (pv 2)) (da_cons de_int (da_cons (de_sub (de_var (pv 0)) de_int) da_nil)))))) da_nil))))))) (dss_one (ds_ret de_bl)) dss_nil) (dss_one (ds_ret (de_eq hr.units (de_lenSet rfl B.b_len B.b_set (de_var (pv 1))) (de_len B.b_len (da_cons (de_var (pv 1)) da_nil))))))
theorem ok_are_places {P : Program} {w : World} {K : PySem.W.Frag} {mg : Str → Option Value} {base : Heap} (B : Bl mg) (C_is_between : Callee P w K mg base 1 "is_between" s_is_between ["value", "least", "most"] sp_is_between) (D : DefAt K mg "are_places" s_are_places ["count", "value"]) : Callee P w K mg base 2 "are_places" s_are_places ["count", "value"] sp_are_places :=
  D.callee fun f fd F => fnG F sc_are_places (fun cdv A outer s H hg hr => dv_are_places B C_is_between cdv A outer s H hg hr) sem_are_places
abbrev s_require_table : Stmt := topS 11
theorem sc_require_table : FnScope N_require_table ["table"] (defScope s_require_table) := ⟨rfl, rfl, rfl, by decide +kernel, rfl, by decide +kernel, by decide +kernel⟩
set_option maxHeartbeats 4000000 in
theorem dv_require_table {P : Program} {w : World} {K : PySem.W.Frag} {mg : Str → Option Value} {base : Heap} (B : Bl mg) (C_is_table : Callee P w K mg base 3 "is_table" s_is_table ["value"] sp_is_table) {f : Addr} (cdv : Value) (A : Around) (outer : List Env) (s : Shared) (H : Hp) (hg : A.guards = some []) (hr : Room 3 (A.deeper (PyProof.Rows.envOfC "require_table" (defScope s_require_table) s.heap.objs.size f cdv))) : DSs (cxOf CX0 P w K mg base N_require_table "require_table" (defScope s_require_table) f cdv A outer s H E0).nox (defBody s_require_table) T_require_table :=
  (dss_one (ds_if (dt_not (dt_val (de_callC C_is_table hg (hr.mono (by decide)) (da_cons (de_var (pv 0)) da_nil)))) (dss_one ds_never) dss_nil))
theorem ok_require_table {P : Program} {w : World} {K : PySem.W.Frag} {mg : Str → Option Value} {base : Heap} (B : Bl mg) (C_is_table : Callee P w K mg base 3 "is_table" s_is_table ["value"] sp_is_table) (D : DefAt K mg "require_table" s_require_table ["table"]) : Callee P w K mg base 4 "require_table" s_require_table ["table"] sp_require_table :=
  D.callee fun f fd F => fnG F sc_require_table (fun cdv A outer s H hg hr => dv_require_table B C_is_table cdv A outer s H hg hr) sem_require_table
abbrev s_length_of : Stmt := topS 12
theorem sc_length_of : FnScope N_length_of ["table", "trip"] (defScope s_length_of) := ⟨rfl, rfl, rfl, by decide +kernel, rfl, by decide +kernel, by decide +kernel⟩
set_option maxHeartbeats 4000000 in
theorem dv_length_of {P : Program} {w : World} {K : PySem.W.Frag} {mg : Str → Option Value} {base : Heap} (B : Bl mg)  {f : Addr} (cdv : Value) (A : Around) (outer : List Env) (s : Shared) (H : Hp) (hg : A.guards = some []) (hr : Room 0 (A.deeper (PyProof.Rows.envOfC "length_of" (defScope s_length_of) s.heap.objs.size f cdv))) : DSs (cxOf CX0 P w K mg base N_length_of "length_of" (defScope s_length_of) f cdv A outer s H E0).nox (defBody s_length_of) T_length_of :=
  (dss_one (ds_ret (de_sum rfl B.b_sum (da_cons (de_lc false (own := [("at", 2), ("place", 3)]) rfl sc_length_of.nd (di_enum B.b_enumerate (da_cons (de_var (pv 1)) da_nil)) (blkOk_by (own := [("at", 2), ("place", 3)]) (N := N_length_of) (sc := (defScope s_length_of)) (by decide +kernel)) (fun _ _ _ _ _ => (pg_tup rfl (pgs_cons (pg_name (i := 2) sc_length_of.nd rfl (by first | exact Or.inl rfl | exact Or.inr rfl)) (pgs_cons (pg_name (i := 3) sc_length_of.nd rfl (by first | exact Or.inl rfl | exact Or.inr rfl)) pgs_nil)))) (sg_tup (sgs_cons (sg_name (by decide)) (sgs_cons (sg_name (by decide)) sgs_nil))) (fun _ _ _ _ _ => dts_nil) (fun _ _ _ _ _ => (de_ix (de_ix (de_var (pv 0)) (de_var (pv 3))) (de_ix (de_var (pv 1)) (de_sub (de_var (pv 2)) de_int))))) da_nil))))
theorem ok_length_of {P : Program} {w : World} {K : PySem.W.Frag} {mg : Str → Option Value} {base : Heap} (B : Bl mg)  (D : DefAt K mg "length_of" s_length_of ["table", "trip"]) : Callee P w K mg base 1 "length_of" s_length_of ["table", "trip"] sp_length_of :=
  D.callee fun f fd F => fnG F sc_length_of (fun cdv A outer s H hg hr => dv_length_of B  cdv A outer s H hg hr) sem_length_of
abbrev s_trip_length : Stmt := topS 13
theorem sc_trip_length : FnScope N_trip_length ["table", "trip"] (defScope s_trip_length) := ⟨rfl, rfl, rfl, by decide +kernel, rfl, by decide +kernel, by decide +kernel⟩
set_option maxHeartbeats 4000000 in
theorem dv_trip_length {P : Program} {w : World} {K : PySem.W.Frag} {mg : Str → Option Value} {base : Heap} (B : Bl mg) (C_are_places : Callee P w K mg base 2 "are_places" s_are_places ["count", "value"] sp_are_places) (C_length_of : Callee P w K mg base 1 "length_of" s_length_of ["table", "trip"] sp_length_of) (C_require_table : Callee P w K mg base 4 "require_table" s_require_table ["table"] sp_require_table) {f : Addr} (cdv : Value) (A : Around) (outer : List Env) (s : Shared) (H : Hp) (hg : A.guards = some []) (hr : Room 4 (A.deeper (PyProof.Rows.envOfC "trip_length" (defScope s_trip_length) s.heap.objs.size f cdv))) : DSs (cxOf CX0 P w K mg base N_trip_length "trip_length" (defScope s_trip_length) f cdv A outer s H E0).nox (defBody s_trip_length) T_trip_length :=
  (dss_cons (ds_expr (de_callC C_require_table hg (hr.mono (by decide)) (da_cons (de_var (pv 0)) da_nil))) (dss_cons (ds_if (dt_w (dw_or (dt_not (dt_val (de_callC C_are_places hg (hr.mono (by decide)) (da_cons (de_len B.b_len (da_cons (de_var (pv 0)) da_nil)) (da_cons (de_var (pv 1)) da_nil))))) (dw_or1 (dt_eq hr.units (de_var (pv 1)) (de_lst false da_nil))))) (dss_one ds_never) dss_nil) (dss_one (ds_ret (de_callC C_length_of hg (hr.mono (by decide)) (da_cons (de_var (pv 0)) (da_cons (de_var (pv 1)) da_nil)))))))
theorem ok_trip_length {P : Program} {w : World} {K : PySem.W.Frag} {mg : Str → Option Value} {base : Heap} (B : Bl mg) (C_are_places : Callee P w K mg base 2 "are_places" s_are_places ["count", "value"] sp_are_places) (C_length_of : Callee P w K mg base 1 "length_of" s_length_of ["table", "trip"] sp_length_of) (C_require_table : Callee P w K mg base 4 "require_table" s_require_table ["table"] sp_require_table) (D : DefAt K mg "trip_length" s_trip_length ["table", "trip"]) : Callee P w K mg base 5 "trip_length" s_trip_length ["table", "trip"] sp_trip_length :=
  D.callee fun f fd F => fnG F sc_trip_length (fun cdv A outer s H hg hr => dv_trip_length B C_are_places C_length_of C_require_table cdv A outer s H hg hr) sem_trip_length
abbrev s_law_tap : Stmt := topS 15
theorem sc_law_tap : FnScope N_law_tap ["cell", "turn"] (defScope s_law_tap) := ⟨rfl, rfl, rfl, by decide +kernel, rfl, by decide +kernel, by decide +kernel⟩
set_option maxHeartbeats 4000000 in
theorem dv_law_tap {P : Program} {w : World} {K : PySem.W.Frag} {mg : Str → Option Value} {base : Heap} (B : Bl mg)  {f : Addr} (cdv : Value) (A : Around) (outer : List Env) (s : Shared) (H : Hp) (hg : A.guards = some []) (hr : Room 0 (A.deeper (PyProof.Rows.envOfC "_law_tap" (defScope s_law_tap) s.heap.objs.size f cdv))) : DSs (cxOf CX0 P w K mg base N_law_tap "_law_tap" (defScope s_law_tap) f cdv A outer s H E0).nox (defBody s_law_tap) T_law_tap :=
  (dss_cons (ds_set (i := 2) sc_law_tap.nd rfl (by first | exact Or.inl rfl | exact Or.inr rfl) (de_add false (de_mul false de_int (de_abs B.b_abs (da_cons (de_var (pv 0)) da_nil))) (de_intOf B.b_int (da_cons (de_lt (de_var (pv 0)) de_int) da_nil)))) (dss_one (ds_ret (de_lst true (da_cons (de_var (pv 2)) (da_cons (de_add false (de_add false (de_mod (de_intOf B.b_int (da_cons (de_var (pv 2)) da_nil)) de_int) (de_mul false de_int (de_var (pv 1)))) de_int) (da_cons (de_add false (de_add false (de_mod (de_intOf B.b_int (da_cons (de_var (pv 2)) da_nil)) de_int) (de_mul false de_int (de_var (pv 1)))) de_int) da_nil)))))))
theorem ok_law_tap {P : Program} {w : World} {K : PySem.W.Frag} {mg : Str → Option Value} {base : Heap} (B : Bl mg)  (D : DefAt K mg "_law_tap" s_law_tap ["cell", "turn"]) : Callee P w K mg base 1 "_law_tap" s_law_tap ["cell", "turn"] sp_law_tap :=
  D.callee fun f fd F => fnG F sc_law_tap (fun cdv A outer s H hg hr => dv_law_tap B  cdv A outer s H hg hr) sem_law_tap
abbrev s_law_draw : Stmt := topS 16
theorem sc_law_draw : FnScope N_law_draw ["tap", "bound"] (defScope s_law_draw) := ⟨rfl, rfl, rfl, by decide +kernel, rfl, by decide +kernel, by decide +kernel⟩
set_option maxHeartbeats 4000000 in
theorem dv_law_draw {P : Program} {w : World} {K : PySem.W.Frag} {mg : Str → Option Value} {base : Heap} (B : Bl mg)  {f : Addr} (cdv : Value) (A : Around) (outer : List Env) (s : Shared) (H : Hp) (hg : A.guards = some []) (hr : Room 0 (A.deeper (PyProof.Rows.envOfC "_law_draw" (defScope s_law_draw) s.heap.objs.size f cdv))) : DSs (cxOf CX0 P w K mg base N_law_draw "_law_draw" (defScope s_law_draw) f cdv A outer s H E0).nox (defBody s_law_draw) T_law_draw :=
  (dss_cons (ds_if (dt_ge (de_ix (de_var (pv 0)) de_int) (de_pow de_int de_int)) (dss_cons (ds_set (i := 2) sc_law_draw.nd rfl (by first | exact Or.inl rfl | exact Or.inr rfl) (de_mod (de_intOf B.b_int (da_cons (de_ix (de_var (pv 0)) de_int) da_nil)) (de_var (pv 1)))) (dss_cons (ds_asg (de_fdiv (de_ix (de_var (pv 0)) de_int) (de_var (pv 1))) (dg_sub (de_var (pv 0)) de_int)) (dss_one (ds_ret (de_var (pv 2)))))) dss_nil) (dss_cons (ds_asg (de_mod (de_intOf B.b_int (da_cons (de_add false (de_mul false (de_ix (de_var (pv 0)) de_int) de_int) de_int) da_nil)) de_int) (dg_sub (de_var (pv 0)) de_int)) (dss_cons (ds_asg (de_mod (de_intOf B.b_int (da_cons (de_add false (de_mul false (de_ix (de_var (pv 0)) de_int) (de_ix (de_var (pv 0)) de_int)) (de_ix (de_var (pv 0)) de_int)) da_nil)) de_int) (dg_sub (de_var (pv 0)) de_int)) (dss_one (ds_ret (de_mod (de_intOf B.b_int (da_cons (de_add false (de_fdiv (de_ix (de_var (pv 0)) de_int) de_int) (de_fdiv (de_ix (de_var (pv 0)) de_int) de_int)) da_nil)) (de_var (pv 1))))))))
theorem ok_law_draw {P : Program} {w : World} {K : PySem.W.Frag} {mg : Str → Option Value} {base : Heap} (B : Bl mg)  (D : DefAt K mg "_law_draw" s_law_draw ["tap", "bound"]) : Callee P w K mg base 1 "_law_draw" s_law_draw ["tap", "bound"] sp_law_draw :=
  D.callee fun f fd F => fnG F sc_law_draw (fun cdv A outer s H hg hr => dv_law_draw B  cdv A outer s H hg hr) sem_law_draw
abbrev s_law_cells : Stmt := topS 17
theorem sc_law_cells : FnScope N_law_cells ["script", "most"] (defScope s_law_cells) := ⟨rfl, rfl, rfl, by decide +kernel, rfl, by decide +kernel, by decide +kernel⟩
set_option maxHeartbeats 4000000 in
theorem dv_law_cells {P : Program} {w : World} {K : PySem.W.Frag} {mg : Str → Option Value} {base : Heap} (B : Bl mg)  {f : Addr} (cdv : Value) (A : Around) (outer : List Env) (s : Shared) (H : Hp) (hg : A.guards = some []) (hr : Room 0 (A.deeper (PyProof.Rows.envOfC "_law_cells" (defScope s_law_cells) s.heap.objs.size f cdv))) : DSs (cxOf CX0 P w K mg base N_law_cells "_law_cells" (defScope s_law_cells) f cdv A outer s H E0).nox (defBody s_law_cells) T_law_cells :=
  (dss_one (ds_ret (de_sl false (de_add false (de_var (pv 0)) (de_lst false (da_cons de_int da_nil))) do_none (do_some (de_max rfl B.b_max (da_cons de_int (da_cons (de_min rfl B.b_min (da_cons (de_var (pv 1)) (da_cons (de_len B.b_len (da_cons (de_var (pv 0)) da_nil)) da_nil))) da_nil)))))))
theorem ok_law_cells {P : Program} {w : World} {K : PySem.W.Frag} {mg : Str → Option Value} {base : Heap} (B : Bl mg)  (D : DefAt K mg "_law_cells" s_law_cells ["script", "most"]) : Callee P w K mg base 1 "_law_cells" s_law_cells ["script", "most"] sp_law_cells :=
  D.callee fun f fd F => fnG F sc_law_cells (fun cdv A outer s H hg hr => dv_law_cells B  cdv A outer s H hg hr) sem_law_cells
abbrev s_law_mixed : Stmt := topS 18
theorem sc_law_mixed : FnScope N_law_mixed ["tap", "wide"] (defScope s_law_mixed) := ⟨rfl, rfl, rfl, by decide +kernel, rfl, by decide +kernel, by decide +kernel⟩
set_option maxHeartbeats 4000000 in
theorem dv_law_mixed {P : Program} {w : World} {K : PySem.W.Frag} {mg : Str → Option Value} {base : Heap} (B : Bl mg) (C_law_draw : Callee P w K mg base 1 "_law_draw" s_law_draw ["tap", "bound"] sp_law_draw) {f : Addr} (cdv : Value) (A : Around) (outer : List Env) (s : Shared) (H : Hp) (hg : A.guards = some []) (hr : Room 1 (A.deeper (PyProof.Rows.envOfC "_law_mixed" (defScope s_law_mixed) s.heap.objs.size f cdv))) : DSs (cxOf CX0 P w K mg base N_law_mixed "_law_mixed" (defScope s_law_mixed) f cdv A outer s H E0).nox (defBody s_law_mixed) T_law_mixed :=
  (dss_cons (ds_par (i := 2) (j := 3) rfl sc_law_mixed.nd rfl rfl (by decide) rfl rfl (da_cons (de_listRg true rfl B.b_list B.b_range (de_var (pv 1))) (da_cons (de_lst true da_nil) da_nil))) (dss_cons (ds_while PassesOwn.never (dt_ne hr.units (de_var (pv 2)) (de_lst false da_nil)) (dss_one (ds_expr (de_append (de_var (pv 3)) (da_cons (de_popAt (de_var (pv 2)) (da_cons (de_callC C_law_draw hg (hr.mono (by decide)) (da_cons (de_var (pv 0)) (da_cons (de_len B.b_len (da_cons (de_var (pv 2)) da_nil)) da_nil))) da_nil)) da_nil))))) (dss_one (ds_retF (de_var (pv 3))))))
theorem ok_law_mixed {P : Program} {w : World} {K : PySem.W.Frag} {mg : Str → Option Value} {base : Heap} (B : Bl mg) (C_law_draw : Callee P w K mg base 1 "_law_draw" s_law_draw ["tap", "bound"] sp_law_draw) (D : DefAt K mg "_law_mixed" s_law_mixed ["tap", "wide"]) : Callee P w K mg base 2 "_law_mixed" s_law_mixed ["tap", "wide"] sp_law_mixed :=
  D.callee fun f fd F => fnG F sc_law_mixed (fun cdv A outer s H hg hr => dv_law_mixed B C_law_draw cdv A outer s H hg hr) sem_law_mixed
abbrev s_law_table : Stmt := topS 19
theorem sc_law_table : FnScope N_law_table ["tap", "wide"] (defScope s_law_table) := ⟨rfl, rfl, rfl, by decide +kernel, rfl, by decide +kernel, by decide +kernel⟩
set_option maxHeartbeats 4000000 in
theorem dv_law_table {P : Program} {w : World} {K : PySem.W.Frag} {mg : Str → Option Value} {base : Heap} (B : Bl mg) (C_law_draw : Callee P w K mg base 1 "_law_draw" s_law_draw ["tap", "bound"] sp_law_draw) {f : Addr} (cdv : Value) (A : Around) (outer : List Env) (s : Shared) (H : Hp) (hg : A.guards = some []) (hr : Room 1 (A.deeper (PyProof.Rows.envOfC "_law_table" (defScope s_law_table) s.heap.objs.size f cdv))) : DSs (cxOf CX0 P w K mg base N_law_table "_law_table" (defScope s_law_table) f cdv A outer s H E0).nox (defBody s_law_table) T_law_table :=
  (dss_cons (ds_par (i := 2) (j := 3) rfl sc_law_table.nd rfl rfl (by decide) rfl rfl (da_cons (de_callC C_law_draw hg (hr.mono (by decide)) (da_cons (de_var (pv 0)) (da_cons de_int da_nil))) (da_cons (de_ix (de_lst false (da_cons de_int (da_cons (de_pow de_int de_int) da_nil))) (de_callC C_law_draw hg (hr.mono (by decide)) (da_cons (de_var (pv 0)) (da_cons de_int da_nil)))) da_nil))) (dss_cons (ds_par (i := 4) (j := 5) rfl sc_law_table.nd rfl rfl (by decide) rfl rfl (da_cons (de_mul false (de_var (pv 3)) (de_callC C_law_draw hg (hr.mono (by decide)) (da_cons (de_var (pv 0)) (da_cons de_int da_nil)))) (da_cons (de_lc true (own := [("place", 9)]) rfl sc_law_table.nd (di_range1 B.b_range (da_cons (de_var (pv 1)) da_nil)) (blkOk_by (own := [("place", 9)]) (N := N_law_table) (sc := (defScope s_law_table)) (by decide +kernel)) (fun _ _ _ _ _ => (pg_name (i := 9) sc_law_table.nd rfl (by first | exact Or.inl rfl | exact Or.inr rfl))) (sg_name (by decide)) (fun _ _ _ _ _ => dts_nil) (fun _ _ _ _ _ => (de_mul true (de_lst false (da_cons de_int da_nil)) (de_var (pv 1))))) da_nil))) (dss_cons (ds_for (vs := [6]) PassesOwn.never rfl (di_range1 B.b_range (da_cons (de_var (pv 1)) da_nil)) (pg_name (i := 6) sc_law_table.nd rfl (by first | exact Or.inl rfl | exact Or.inr rfl)) (sg_name (by decide)) (dss_one (ds_for (vs := [7]) PassesOwn.never rfl (di_range1 B.b_range (da_cons (de_var (pv 6)) da_nil)) (pg_name (i := 7) sc_law_table.nd rfl (by first | exact Or.inl rfl | exact Or.inr rfl)) (sg_name (by decide)) (dss_cons (ds_set (i := 8) sc_law_table.nd rfl (by first | exact Or.inl rfl | exact Or.inr rfl) (de_ix (de_lst false (da_cons de_int (da_cons de_int (da_cons (de_pow de_int de_int) (da_cons de_int (da_cons de_int (da_cons de_int da_nil))))))) (de_var (pv 2)))) (dss_cons (ds_set (i := 8) sc_law_table.nd rfl (by first | exact Or.inl rfl | exact Or.inr rfl) (de_add false (de_if (dt_gt (de_var (pv 2)) de_int) (de_var (pv 4)) de_int) (de_mul false (de_callC C_law_draw hg (hr.mono (by decide)) (da_cons (de_var (pv 0)) (da_cons (de_var (pv 8)) da_nil))) (de_if (dt_lt (de_var (pv 2)) de_int) (de_var (pv 3)) de_int)))) (dss_cons (ds_set (i := 8) sc_law_table.nd rfl (by first | exact Or.inl rfl | exact Or.inr rfl) (de_if (dt_lt (de_var (pv 2)) de_int) (de_var (pv 8)) de_int)) (dss_cons (ds_asg (de_var (pv 8)) (dg_sub (de_ix (de_var (pv 5)) (de_var (pv 6))) (de_var (pv 7)))) (dss_one (ds_asg (de_var (pv 8)) (dg_sub (de_ix (de_var (pv 5)) (de_var (pv 7))) (de_var (pv 6)))))))))))) (dss_one (ds_retF (de_var (pv 5)))))))
theorem ok_law_table {P : Program} {w : World} {K : PySem.W.Frag} {mg : Str → Option Value} {base : Heap} (B : Bl mg) (C_law_draw : Callee P w K mg base 1 "_law_draw" s_law_draw ["tap", "bound"] sp_law_draw) (D : DefAt K mg "_law_table" s_law_table ["tap", "wide"]) : Callee P w K mg base 2 "_law_table" s_law_table ["tap", "wide"] sp_law_table :=
  D.callee fun f fd F => fnG F sc_law_table (fun cdv A outer s H hg hr => dv_law_table B C_law_draw cdv A outer s H hg hr) sem_law_table
abbrev s_law_stops : Stmt := topS 20
theorem sc_law_stops : FnScope N_law_stops ["tap", "wide", "most"] (defScope s_law_stops) := ⟨rfl, rfl, rfl, by decide +kernel, rfl, by decide +kernel, by decide +kernel⟩
set_option maxHeartbeats 4000000 in
theorem dv_law_stops {P : Program} {w : World} {K : PySem.W.Frag} {mg : Str → Option Value} {base : Heap} (B : Bl mg) (C_law_draw : Callee P w K mg base 1 "_law_draw" s_law_draw ["tap", "bound"] sp_law_draw) (C_law_mixed : Callee P w K mg base 2 "_law_mixed" s_law_mixed ["tap", "wide"] sp_law_mixed) {f : Addr} (cdv : Value) (A : Around) (outer : List Env) (s : Shared) (H : Hp) (hg : A.guards = some []) (hr : Room 2 (A.deeper (PyProof.Rows.envOfC "_law_stops" (defScope s_law_stops) s.heap.objs.size f cdv))) : DSs (cxOf CX0 P w K mg base N_law_stops "_law_stops" (defScope s_law_stops) f cdv A outer s H E0).nox (defBody s_law_stops) T_law_stops :=
  (dss_one (ds_ret (de_sl false (de_callC C_law_mixed hg (hr.mono (by decide)) (da_cons (de_var (pv 0)) (da_cons (de_var (pv 1)) da_nil))) do_none (do_some (de_add false de_int (de_callC C_law_draw hg (hr.mono (by decide)) (da_cons (de_var (pv 0)) (da_cons (de_min rfl B.b_min (da_cons (de_var (pv 1)) (da_cons (de_var (pv 2)) da_nil))) da_nil))))))))
theorem ok_law_stops {P : Program} {w : World} {K : PySem.W.Frag} {mg : Str → Option Value} {base : Heap} (B : Bl mg) (C_law_draw : Callee P w K mg base 1 "_law_draw" s_law_draw ["tap", "bound"] sp_law_draw) (C_law_mixed : Callee P w K mg base 2 "_law_mixed" s_law_mixed ["tap", "wide"] sp_law_mixed) (D : DefAt K mg "_law_stops" s_law_stops ["tap", "wide", "most"]) : Callee P w K mg base 3 "_law_stops" s_law_stops ["tap", "wide", "most"] sp_law_stops :=
  D.callee fun f fd F => fnG F sc_law_stops (fun cdv A outer s H hg hr => dv_law_stops B C_law_draw C_law_mixed cdv A outer s H hg hr) sem_law_stops
abbrev s_law_steps : Stmt := topS 21
theorem sc_law_steps : FnScope N_law_steps ["grid", "tour"] (defScope s_law_steps) := ⟨rfl, rfl, rfl, by decide +kernel, rfl, by decide +kernel, by decide +kernel⟩
set_option maxHeartbeats 4000000 in
theorem dv_law_steps {P : Program} {w : World} {K : PySem.W.Frag} {mg : Str → Option Value} {base : Heap} (B : Bl mg)  {f : Addr} (cdv : Value) (A : Around) (outer : List Env) (s : Shared) (H : Hp) (hg : A.guards = some []) (hr : Room 0 (A.deeper (PyProof.Rows.envOfC "_law_steps" (defScope s_law_steps) s.heap.objs.size f cdv))) : DSs (cxOf CX0 P w K mg base N_law_steps "_law_steps" (defScope s_law_steps) f cdv A outer s H E0).nox (defBody s_law_steps) T_law_steps :=
  (dss_cons (ds_set (i := 2) sc_law_steps.nd rfl (by first | exact Or.inl rfl | exact Or.inr rfl) de_int) (dss_cons (ds_for (vs := [3]) PassesOwn.never rfl (di_range1 B.b_range (da_cons (de_len B.b_len (da_cons (de_var (pv 1)) da_nil)) da_nil)) (pg_name (i := 3) sc_law_steps.nd rfl (by first | exact Or.inl rfl | exact Or.inr rfl)) (sg_name (by decide)) (dss_cons (ds_set (i := 4) sc_law_steps.nd rfl (by first | exact Or.inl rfl | exact Or.inr rfl) (de_ix (de_var (pv 0)) (de_ix (de_var (pv 1)) (de_var (pv 3))))) (dss_one (ds_set (i := 2) sc_law_steps.nd rfl (by first | exact Or.inl rfl | exact Or.inr rfl) (de_add false (de_var (pv 2)) (de_ix (de_var (pv 4)) (de_ix (de_var (pv 1)) (de_mod (de_add false (de_var (pv 3)) de_int) (de_len B.b_len (da_cons (de_var (pv 1)) da_nil)))))))))) (dss_one (ds_ret (de_var (pv 2))))))
theorem ok_law_steps {P : Program} {w : World} {K : PySem.W.Frag} {mg : Str → Option Value} {base : Heap} (B : Bl mg)  (D : DefAt K mg "_law_steps" s_law_steps ["grid", "tour"]) : Callee P w K mg base 1 "_law_steps" s_law_steps ["grid", "tour"] sp_law_steps :=
  D.callee fun f fd F => fnG F sc_law_steps (fun cdv A outer s H hg hr => dv_law_steps B  cdv A outer s H hg hr) sem_law_steps
abbrev s_law_trip_right : Stmt := topS 22
theorem sc_law_trip_right : FnScope N_law_trip_right ["tap", "grid", "tour"] (defScope s_law_trip_right) := ⟨rfl, rfl, rfl, by decide +kernel, rfl, by decide +kernel, by decide +kernel⟩
set_option maxHeartbeats 4000000 in
theorem dv_law_trip_right {P : Program} {w : World} {K : PySem.W.Frag} {mg : Str → Option Value} {base : Heap} (B : Bl mg) (C_law_draw : Callee P w K mg base 1 "_law_draw" s_law_draw ["tap", "bound"] sp_law_draw) (C_law_steps : Callee P w K mg base 1 "_law_steps" s_law_steps ["grid", "tour"] sp_law_steps) (C_trip_length : Callee P w K mg base 5 "trip_length" s_trip_length ["table", "trip"] sp_trip_length) {f : Addr} (cdv : Value) (A : Around) (outer : List Env) (s : Shared) (H : Hp) (hg : A.guards = some []) (hr : Room 5 (A.deeper (PyProof.Rows.envOfC "_law_trip_right" (defScope s_law_trip_right) s.heap.objs.size f cdv))) : DSs (cxOf CX0 P w K mg base N_law_trip_right "_law_trip_right" (defScope s_law_trip_right) f cdv A outer s H E0).nox (defBody s_law_trip_right) T_law_trip_right :=
  (dss_cons (ds_par3 (i := 3) (j := 4) (l := 5) rfl sc_law_trip_right.nd rfl rfl rfl (by decide) (by decide) (by decide) rfl rfl rfl (da_cons (de_callC C_law_steps hg (hr.mono (by decide)) (da_cons (de_var (pv 1)) (da_cons (de_var (pv 2)) da_nil))) (da_cons (de_repr hg hr.units B.b_repr (da_cons (de_lst false (da_cons (de_var (pv 1)) (da_cons (de_var (pv 2)) da_nil))) da_nil)) (da_cons (de_callC C_law_draw hg (hr.mono (by decide)) (da_cons (de_var (pv 0)) (da_cons (de_len B.b_len (da_cons (de_var (pv 2)) da_nil)) da_nil))) da_nil)))) (dss_cons (ds_set (i := 6) sc_law_trip_right.nd rfl (by first | exact Or.inl rfl | exact Or.inr rfl) (de_lst true (da_cons (de_callC C_trip_length hg (hr.mono (by decide)) (da_cons (de_var (pv 1)) (da_cons (de_var (pv 2)) da_nil))) (da_cons (de_callCK (ks := ["trip", "table"]) (g := [1, 0]) C_trip_length hg (hr.mono (by decide)) (fun _ _ _ _ _ _ us hl => match us, hl with | [_, _], _ => rfl) (dk_cons (de_var (pv 2)) (dk_cons (de_var (pv 1)) dk_nil))) (da_cons (de_callC C_trip_length hg (hr.mono (by decide)) (da_cons (de_var (pv 1)) (da_cons (de_rev false (de_var (pv 2))) da_nil))) da_nil))))) (dss_cons (ds_expr (de_append (de_var (pv 6)) (da_cons (de_callC C_trip_length hg (hr.mono (by decide)) (da_cons (de_var (pv 1)) (da_cons (de_add false (de_sl false (de_var (pv 2)) (do_some (de_var (pv 5))) do_none) (de_sl false (de_var (pv 2)) do_none (do_some (de_var (pv 5))))) da_nil))) da_nil))) (dss_one (ds_ret (de_and (de_eq hr.units (de_repr hg hr.units B.b_repr (da_cons (de_var (pv 6)) da_nil)) (de_repr hg hr.units B.b_repr (da_cons (de_mul false (de_lst false (da_cons (de_var (pv 3)) da_nil)) de_int) da_nil))) (de_one (de_eq hr.units (de_repr hg hr.units B.b_repr (da_cons (de_lst false (da_cons (de_var (pv 1)) (da_cons (de_var (pv 2)) da_nil))) da_nil)) (de_var (pv 4))))))))))
theorem ok_law_trip_right {P : Program} {w : World} {K : PySem.W.Frag} {mg : Str → Option Value} {base : Heap} (B : Bl mg) (C_law_draw : Callee P w K mg base 1 "_law_draw" s_law_draw ["tap", "bound"] sp_law_draw) (C_law_steps : Callee P w K mg base 1 "_law_steps" s_law_steps ["grid", "tour"] sp_law_steps) (C_trip_length : Callee P w K mg base 5 "trip_length" s_trip_length ["table", "trip"] sp_trip_length) (D : DefAt K mg "_law_trip_right" s_law_trip_right ["tap", "grid", "tour"]) : Callee P w K mg base 6 "_law_trip_right" s_law_trip_right ["tap", "grid", "tour"] sp_law_trip_right :=
  D.callee fun f fd F => fnG F sc_law_trip_right (fun cdv A outer s H hg hr => dv_law_trip_right B C_law_draw C_law_steps C_trip_length cdv A outer s H hg hr) sem_law_trip_right
abbrev s_law_holds : Stmt := topS 23
theorem sc_law_holds : FnScope N_law_holds ["tap"] (defScope s_law_holds) := ⟨rfl, rfl, rfl, by decide +kernel, rfl, by decide +kernel, by decide +kernel⟩
set_option maxHeartbeats 4000000 in
theorem dv_law_holds {P : Program} {w : World} {K : PySem.W.Frag} {mg : Str → Option Value} {base : Heap} (B : Bl mg) (C_law_draw : Callee P w K mg base 1 "_law_draw" s_law_draw ["tap", "bound"] sp_law_draw) (C_law_mixed : Callee P w K mg base 2 "_law_mixed" s_law_mixed ["tap", "wide"] sp_law_mixed) (C_law_stops : Callee P w K mg base 3 "_law_stops" s_law_stops ["tap", "wide", "most"] sp_law_stops) (C_law_table : Callee P w K mg base 2 "_law_table" s_law_table ["tap", "wide"] sp_law_table) (C_law_trip_right : Callee P w K mg base 6 "_law_trip_right" s_law_trip_right ["tap", "grid", "tour"] sp_law_trip_right) (C_trip_length : Callee P w K mg base 5 "trip_length" s_trip_length ["table", "trip"] sp_trip_length) {f : Addr} (cdv : Value) (A : Around) (outer : List Env) (s : Shared) (H : Hp) (hg : A.guards = some []) (hr : Room 6 (A.deeper (PyProof.Rows.envOfC "_law_holds" (defScope s_law_holds) s.heap.objs.size f cdv))) : DSs (cxOf CX0 P w K mg base N_law_holds "_law_holds" (defScope s_law_holds) f cdv A outer s H E0).nox (defBody s_law_holds) T_law_holds :=
  (dss_cons (ds_set (i := 1) sc_law_holds.nd rfl (by first | exact Or.inl rfl | exact Or.inr rfl) (de_ix (de_lst false (da_cons (de_add false de_int (de_callC C_law_draw hg (hr.mono (by decide)) (da_cons (de_var (pv 0)) (da_cons de_int da_nil)))) (da_cons (de_add false de_int (de_callC C_law_draw hg (hr.mono (by decide)) (da_cons (de_var (pv 0)) (da_cons de_int da_nil)))) (da_cons de_int da_nil)))) (de_callC C_law_draw hg (hr.mono (by decide)) (da_cons (de_var (pv 0)) (da_cons de_int da_nil))))) (dss_cons (ds_set (i := 2) sc_law_holds.nd rfl (by first | exact Or.inl rfl | exact Or.inr rfl) (de_callC C_law_table hg (hr.mono (by decide)) (da_cons (de_var (pv 0)) (da_cons (de_var (pv 1)) da_nil)))) (dss_cons (ds_for (vs := [3]) PassesOwn.never rfl (di_range1 B.b_range (da_cons de_int da_nil)) (pg_name (i := 3) sc_law_holds.nd rfl (by first | exact Or.inl rfl | exact Or.inr rfl)) (sg_name (by decide)) (dss_one (ds_if (dt_not (dt_val (de_callC C_law_trip_right hg (hr.mono (by decide)) (da_cons (de_var (pv 0)) (da_cons (de_var (pv 2)) (da_cons (de_callC C_law_stops hg (hr.mono (by decide)) (da_cons (de_var (pv 0)) (da_cons (de_var (pv 1)) (da_cons (de_ix (de_lst false (da_cons (de_var (pv 1)) (da_cons de_int (da_cons de_int da_nil)))) (de_fdiv (de_var (pv 3)) de_int)) da_nil)))) da_nil)))))) (dss_one (ds_ret de_bl)) dss_nil))) (dss_cons (ds_par (i := 4) (j := 5) rfl sc_law_holds.nd rfl rfl (by decide) rfl rfl (da_cons (de_callC C_law_draw hg (hr.mono (by decide)) (da_cons (de_var (pv 0)) (da_cons (de_var (pv 1)) da_nil))) (da_cons (de_callC C_law_draw hg (hr.mono (by decide)) (da_cons (de_var (pv 0)) (da_cons (de_var (pv 1)) da_nil))) da_nil))) (dss_cons (ds_set (i := 6) sc_law_holds.nd rfl (by first | exact Or.inl rfl | exact Or.inr rfl) (de_ix (de_var (pv 2)) (de_var (pv 4)))) (dss_cons (ds_if (dt_w (dw_or (dt_ne hr.units (de_callC C_trip_length hg (hr.mono (by decide)) (da_cons (de_var (pv 2)) (da_cons (de_lst false (da_cons (de_var (pv 4)) da_nil)) da_nil))) de_int) (dw_or1 (dt_w (dw_and (dt_ne hr.units (de_var (pv 4)) (de_var (pv 5))) (dw_and1 (dt_ne hr.units (de_callC C_trip_length hg (hr.mono (by decide)) (da_cons (de_var (pv 2)) (da_cons (de_lst false (da_cons (de_var (pv 4)) (da_cons (de_var (pv 5)) da_nil))) da_nil))) (de_mul false de_int (de_ix (de_var (pv 6)) (de_var (pv 5))))))))))) (dss_one (ds_ret de_bl)) dss_nil) (dss_one (ds_ret (de_callC C_law_trip_right hg (hr.mono (by decide)) (da_cons (de_var (pv 0)) (da_cons (de_var (pv 2)) (da_cons (de_callC C_law_mixed hg (hr.mono (by decide)) (da_cons (de_var (pv 0)) (da_cons (de_var (pv 1)) da_nil))) da_nil))))))))))))
theorem ok_law_holds {P : Program} {w : World} {K : PySem.W.Frag} {mg : Str → Option Value} {base : Heap} (B : Bl mg) (C_law_draw : Callee P w K mg base 1 "_law_draw" s_law_draw ["tap", "bound"] sp_law_draw) (C_law_mixed : Callee P w K mg base 2 "_law_mixed" s_law_mixed ["tap", "wide"] sp_law_mixed) (C_law_stops : Callee P w K mg base 3 "_law_stops" s_law_stops ["tap", "wide", "most"] sp_law_stops) (C_law_table : Callee P w K mg base 2 "_law_table" s_law_table ["tap", "wide"] sp_law_table) (C_law_trip_right : Callee P w K mg base 6 "_law_trip_right" s_law_trip_right ["tap", "grid", "tour"] sp_law_trip_right) (C_trip_length : Callee P w K mg base 5 "trip_length" s_trip_length ["table", "trip"] sp_trip_length) (D : DefAt K mg "_law_holds" s_law_holds ["tap"]) : Callee P w K mg base 7 "_law_holds" s_law_holds ["tap"] sp_law_holds :=
  D.callee fun f fd F => fnG F sc_law_holds (fun cdv A outer s H hg hr => dv_law_holds B C_law_draw C_law_mixed C_law_stops C_law_table C_law_trip_right C_trip_length cdv A outer s H hg hr) sem_law_holds
abbrev s_law : Stmt := topS 24
theorem sc_law : FnScope N_law ["script"] (defScope s_law) := ⟨rfl, rfl, rfl, by decide +kernel, rfl, by decide +kernel, by decide +kernel⟩
set_option maxHeartbeats 4000000 in
theorem dv_law {P : Program} {w : World} {K : PySem.W.Frag} {mg : Str → Option Value} {base : Heap} (B : Bl mg) (C_law_cells : Callee P w K mg base 1 "_law_cells" s_law_cells ["script", "most"] sp_law_cells) (C_law_holds : Callee P w K mg base 7 "_law_holds" s_law_holds ["tap"] sp_law_holds) (C_law_tap : Callee P w K mg base 1 "_law_tap" s_law_tap ["cell", "turn"] sp_law_tap) (C_trip_length : Callee P w K mg base 5 "trip_length" s_trip_length ["table", "trip"] sp_trip_length) {f : Addr} (cdv : Value) (A : Around) (outer : List Env) (s : Shared) (H : Hp) (hg : A.guards = some []) (hr : Room 7 (A.deeper (PyProof.Rows.envOfC "law" (defScope s_law) s.heap.objs.size f cdv))) : DSs (cxOf CX0 P w K mg base N_law "law" (defScope s_law) f cdv A outer s H E0).nox (defBody s_law) T_law :=
  (dss_cons (ds_set (i := 1) sc_law.nd rfl (by first | exact Or.inl rfl | exact Or.inr rfl) (de_callC C_law_cells hg (hr.mono (by decide)) (da_cons (de_var (pv 0)) (da_cons de_int da_nil)))) (dss_cons (ds_if (dt_ne hr.units (de_lc false (own := [("turn", 5), ("cell", 6)]) rfl sc_law.nd (di_enum B.b_enumerate (da_cons (de_var (pv 1)) da_nil)) (blkOk_by (own := [("turn", 5), ("cell", 6)]) (N := N_law) (sc := (defScope s_law)) (by decide +kernel)) (fun _ _ _ _ _ => (pg_tup rfl (pgs_cons (pg_name (i := 5) sc_law.nd rfl (by first | exact Or.inl rfl | exact Or.inr rfl)) (pgs_cons (pg_name (i := 6) sc_law.nd rfl (by first | exact Or.inl rfl | exact Or.inr rfl)) pgs_nil)))) (sg_tup (sgs_cons (sg_name (by decide)) (sgs_cons (sg_name (by decide)) sgs_nil))) (fun _ _ _ _ _ => (dts_one (dt_not (dt_val (de_callC C_law_holds hg (hr.mono (by decide)) (da_cons (de_callC C_law_tap hg (hr.mono (by decide)) (da_cons (de_var (pv 6)) (da_cons (de_var (pv 5)) da_nil))) da_nil)))))) (fun _ _ _ _ _ => (de_var (pv 5)))) (de_lst false da_nil)) (dss_one (ds_ret de_bl)) dss_nil) (dss_cons (ds_setLc false (i := 2) (own := [("one", 4)]) rfl sc_law.nd rfl rfl (sw_true rfl rfl rfl (by decide +kernel)) (di_range1 B.b_range (da_cons de_int da_nil)) (blkOk_by (own := [("one", 4)]) (N := N_law) (sc := (defScope s_law)) (by decide +kernel)) (fun _ _ _ _ _ => (pg_name (i := 4) sc_law.nd rfl (by first | exact Or.inl rfl | exact Or.inr rfl))) (sg_name (by decide)) (fun _ _ _ _ _ => dts_nil) (fun _ _ _ _ _ => (de_lc false (own := [("other", 7)]) rfl sc_law.nd (di_range1 B.b_range (da_cons de_int da_nil)) (blkOk_by (own := [("other", 7)]) (N := N_law) (sc := (relS _ (defScope s_law))) (by decide +kernel)) (fun _ _ _ _ _ => (pg_name (i := 7) sc_law.nd rfl (by first | exact Or.inl rfl | exact Or.inr rfl))) (sg_name (by decide)) (fun _ _ _ _ _ => dts_nil) (fun _ _ _ _ _ => (de_if (dt_eq hr.units (de_var (pv 4)) (de_var (pv 7))) de_int (de_pow de_int de_int)))))) (dss_cons (ds_set (i := 3) sc_law.nd rfl (by first | exact Or.inl rfl | exact Or.inr rfl) (de_lst false (da_cons (de_callC C_trip_length hg (hr.mono (by decide)) (da_cons (de_var (pv 2)) (da_cons (de_listRg false rfl B.b_list B.b_range de_int) da_nil))) (da_cons (de_callC C_trip_length hg (hr.mono (by decide)) (da_cons (de_var (pv 2)) (da_cons (de_lst false (da_cons de_int da_nil)) da_nil))) (da_cons (de_callC C_trip_length hg (hr.mono (by decide)) (da_cons (de_var (pv 2)) (da_cons (de_lst false (da_cons de_int (da_cons de_int da_nil))) da_nil))) da_nil))))) (dss_one (ds_ret (de_and (de_eq hr.units (de_var (pv 3)) (de_lst false (da_cons (de_mul false de_int (de_pow de_int de_int)) (da_cons de_int (da_cons (de_mul false de_int (de_pow de_int de_int)) da_nil))))) (de_one (de_eq hr.units (de_callC C_trip_length hg (hr.mono (by decide)) (da_cons (de_lst false (da_cons (de_lst false (da_cons de_int da_nil)) da_nil)) (da_cons (de_lst false (da_cons de_int da_nil)) da_nil))) de_int)))))))))
set_option maxHeartbeats 4000000 in
theorem all_mk {l : PySem.W.OpenLaw} {w : World} {K : PySem.W.Frag} {h : Heap} {mg : Str → Option Value} (X : K.In h) (G : h.Ns mainGlobals mg) {fa : Addr} {f0 : Addr} {oc0 kV0 dc0 pm0 cd0 ct0 : Value} {od0 an0 : Option Addr} {sl0 : Array (Option Value)} {f1 : Addr} {oc1 kV1 dc1 pm1 cd1 ct1 : Value} {od1 an1 : Option Addr} {sl1 : Array (Option Value)} {f2 : Addr} {oc2 kV2 dc2 pm2 cd2 ct2 : Value} {od2 an2 : Option Addr} {sl2 : Array (Option Value)} {f3 : Addr} {oc3 kV3 dc3 pm3 cd3 ct3 : Value} {od3 an3 : Option Addr} {sl3 : Array (Option Value)} {f4 : Addr} {oc4 kV4 dc4 pm4 cd4 ct4 : Value} {od4 an4 : Option Addr} {sl4 : Array (Option Value)} {f5 : Addr} {oc5 kV5 dc5 pm5 cd5 ct5 : Value} {od5 an5 : Option Addr} {sl5 : Array (Option Value)} {f6 : Addr} {oc6 kV6 dc6 pm6 cd6 ct6 : Value} {od6 an6 : Option Addr} {sl6 : Array (Option Value)} {f7 : Addr} {oc7 kV7 dc7 pm7 cd7 ct7 : Value} {od7 an7 : Option Addr} {sl7 : Array (Option Value)} {f8 : Addr} {oc8 kV8 dc8 pm8 cd8 ct8 : Value} {od8 an8 : Option Addr} {sl8 : Array (Option Value)} {f9 : Addr} {oc9 kV9 dc9 pm9 cd9 ct9 : Value} {od9 an9 : Option Addr} {sl9 : Array (Option Value)} {f10 : Addr} {oc10 kV10 dc10 pm10 cd10 ct10 : Value} {od10 an10 : Option Addr} {sl10 : Array (Option Value)} {f11 : Addr} {oc11 kV11 dc11 pm11 cd11 ct11 : Value} {od11 an11 : Option Addr} {sl11 : Array (Option Value)} {f12 : Addr} {oc12 kV12 dc12 pm12 cd12 ct12 : Value} {od12 an12 : Option Addr} {sl12 : Array (Option Value)} {f13 : Addr} {oc13 kV13 dc13 pm13 cd13 ct13 : Value} {od13 an13 : Option Addr} {sl13 : Array (Option Value)} {f14 : Addr} {oc14 kV14 dc14 pm14 cd14 ct14 : Value} {od14 an14 : Option Addr} {sl14 : Array (Option Value)} {f15 : Addr} {oc15 kV15 dc15 pm15 cd15 ct15 : Value} {od15 an15 : Option Addr} {sl15 : Array (Option Value)} {f16 : Addr} {oc16 kV16 dc16 pm16 cd16 ct16 : Value} {od16 an16 : Option Addr} {sl16 : Array (Option Value)} {tk_MOST_DISTANCE : Tok} {tk_MOST_PLACES : Tok} (hfa : mg "law" = some (.ref fa))
    (a0 : PySem.W.nsIn K mainGlobals "is_between" = some (some (.ref f0))) (l0 : K.lookup f0 = some ⟨oc0, od0, .func (PySem.W.fnOf "is_between" "is_between" (defArgs s_is_between) (defBody s_is_between) (defScope s_is_between) .none kV0 dc0 pm0 an0 cd0 ct0), sl0⟩) (c0 : PySem.W.codeIn K cd0 "is_between" = true) (k0 : PySem.W.keepIn K (.ref f0) = true)
    (a1 : PySem.W.nsIn K mainGlobals "is_row" = some (some (.ref f1))) (l1 : K.lookup f1 = some ⟨oc1, od1, .func (PySem.W.fnOf "is_row" "is_row" (defArgs s_is_row) (defBody s_is_row) (defScope s_is_row) .none kV1 dc1 pm1 an1 cd1 ct1), sl1⟩) (c1 : PySem.W.codeIn K cd1 "is_row" = true) (k1 : PySem.W.keepIn K (.ref f1) = true)
    (a2 : PySem.W.nsIn K mainGlobals "is_table" = some (some (.ref f2))) (l2 : K.lookup f2 = some ⟨oc2, od2, .func (PySem.W.fnOf "is_table" "is_table" (defArgs s_is_table) (defBody s_is_table) (defScope s_is_table) .none kV2 dc2 pm2 an2 cd2 ct2), sl2⟩) (c2 : PySem.W.codeIn K cd2 "is_table" = true) (k2 : PySem.W.keepIn K (.ref f2) = true)
    (a3 : PySem.W.nsIn K mainGlobals "are_places" = some (some (.ref f3))) (l3 : K.lookup f3 = some ⟨oc3, od3, .func (PySem.W.fnOf "are_places" "are_places" (defArgs s_are_places) (defBody s_are_places) (defScope s_are_places) .none kV3 dc3 pm3 an3 cd3 ct3), sl3⟩) (c3 : PySem.W.codeIn K cd3 "are_places" = true) (k3 : PySem.W.keepIn K (.ref f3) = true)
    (a4 : PySem.W.nsIn K mainGlobals "require_table" = some (some (.ref f4))) (l4 : K.lookup f4 = some ⟨oc4, od4, .func (PySem.W.fnOf "require_table" "require_table" (defArgs s_require_table) (defBody s_require_table) (defScope s_require_table) .none kV4 dc4 pm4 an4 cd4 ct4), sl4⟩) (c4 : PySem.W.codeIn K cd4 "require_table" = true) (k4 : PySem.W.keepIn K (.ref f4) = true)
    (a5 : PySem.W.nsIn K mainGlobals "length_of" = some (some (.ref f5))) (l5 : K.lookup f5 = some ⟨oc5, od5, .func (PySem.W.fnOf "length_of" "length_of" (defArgs s_length_of) (defBody s_length_of) (defScope s_length_of) .none kV5 dc5 pm5 an5 cd5 ct5), sl5⟩) (c5 : PySem.W.codeIn K cd5 "length_of" = true) (k5 : PySem.W.keepIn K (.ref f5) = true)
    (a6 : PySem.W.nsIn K mainGlobals "trip_length" = some (some (.ref f6))) (l6 : K.lookup f6 = some ⟨oc6, od6, .func (PySem.W.fnOf "trip_length" "trip_length" (defArgs s_trip_length) (defBody s_trip_length) (defScope s_trip_length) .none kV6 dc6 pm6 an6 cd6 ct6), sl6⟩) (c6 : PySem.W.codeIn K cd6 "trip_length" = true) (k6 : PySem.W.keepIn K (.ref f6) = true)
    (a7 : PySem.W.nsIn K mainGlobals "_law_tap" = some (some (.ref f7))) (l7 : K.lookup f7 = some ⟨oc7, od7, .func (PySem.W.fnOf "_law_tap" "_law_tap" (defArgs s_law_tap) (defBody s_law_tap) (defScope s_law_tap) .none kV7 dc7 pm7 an7 cd7 ct7), sl7⟩) (c7 : PySem.W.codeIn K cd7 "_law_tap" = true) (k7 : PySem.W.keepIn K (.ref f7) = true)
    (a8 : PySem.W.nsIn K mainGlobals "_law_draw" = some (some (.ref f8))) (l8 : K.lookup f8 = some ⟨oc8, od8, .func (PySem.W.fnOf "_law_draw" "_law_draw" (defArgs s_law_draw) (defBody s_law_draw) (defScope s_law_draw) .none kV8 dc8 pm8 an8 cd8 ct8), sl8⟩) (c8 : PySem.W.codeIn K cd8 "_law_draw" = true) (k8 : PySem.W.keepIn K (.ref f8) = true)
    (a9 : PySem.W.nsIn K mainGlobals "_law_cells" = some (some (.ref f9))) (l9 : K.lookup f9 = some ⟨oc9, od9, .func (PySem.W.fnOf "_law_cells" "_law_cells" (defArgs s_law_cells) (defBody s_law_cells) (defScope s_law_cells) .none kV9 dc9 pm9 an9 cd9 ct9), sl9⟩) (c9 : PySem.W.codeIn K cd9 "_law_cells" = true) (k9 : PySem.W.keepIn K (.ref f9) = true)
    (a10 : PySem.W.nsIn K mainGlobals "_law_mixed" = some (some (.ref f10))) (l10 : K.lookup f10 = some ⟨oc10, od10, .func (PySem.W.fnOf "_law_mixed" "_law_mixed" (defArgs s_law_mixed) (defBody s_law_mixed) (defScope s_law_mixed) .none kV10 dc10 pm10 an10 cd10 ct10), sl10⟩) (c10 : PySem.W.codeIn K cd10 "_law_mixed" = true) (k10 : PySem.W.keepIn K (.ref f10) = true)
    (a11 : PySem.W.nsIn K mainGlobals "_law_table" = some (some (.ref f11))) (l11 : K.lookup f11 = some ⟨oc11, od11, .func (PySem.W.fnOf "_law_table" "_law_table" (defArgs s_law_table) (defBody s_law_table) (defScope s_law_table) .none kV11 dc11 pm11 an11 cd11 ct11), sl11⟩) (c11 : PySem.W.codeIn K cd11 "_law_table" = true) (k11 : PySem.W.keepIn K (.ref f11) = true)
    (a12 : PySem.W.nsIn K mainGlobals "_law_stops" = some (some (.ref f12))) (l12 : K.lookup f12 = some ⟨oc12, od12, .func (PySem.W.fnOf "_law_stops" "_law_stops" (defArgs s_law_stops) (defBody s_law_stops) (defScope s_law_stops) .none kV12 dc12 pm12 an12 cd12 ct12), sl12⟩) (c12 : PySem.W.codeIn K cd12 "_law_stops" = true) (k12 : PySem.W.keepIn K (.ref f12) = true)
    (a13 : PySem.W.nsIn K mainGlobals "_law_steps" = some (some (.ref f13))) (l13 : K.lookup f13 = some ⟨oc13, od13, .func (PySem.W.fnOf "_law_steps" "_law_steps" (defArgs s_law_steps) (defBody s_law_steps) (defScope s_law_steps) .none kV13 dc13 pm13 an13 cd13 ct13), sl13⟩) (c13 : PySem.W.codeIn K cd13 "_law_steps" = true) (k13 : PySem.W.keepIn K (.ref f13) = true)
    (a14 : PySem.W.nsIn K mainGlobals "_law_trip_right" = some (some (.ref f14))) (l14 : K.lookup f14 = some ⟨oc14, od14, .func (PySem.W.fnOf "_law_trip_right" "_law_trip_right" (defArgs s_law_trip_right) (defBody s_law_trip_right) (defScope s_law_trip_right) .none kV14 dc14 pm14 an14 cd14 ct14), sl14⟩) (c14 : PySem.W.codeIn K cd14 "_law_trip_right" = true) (k14 : PySem.W.keepIn K (.ref f14) = true)
    (a15 : PySem.W.nsIn K mainGlobals "_law_holds" = some (some (.ref f15))) (l15 : K.lookup f15 = some ⟨oc15, od15, .func (PySem.W.fnOf "_law_holds" "_law_holds" (defArgs s_law_holds) (defBody s_law_holds) (defScope s_law_holds) .none kV15 dc15 pm15 an15 cd15 ct15), sl15⟩) (c15 : PySem.W.codeIn K cd15 "_law_holds" = true) (k15 : PySem.W.keepIn K (.ref f15) = true)
    (a16 : PySem.W.nsIn K mainGlobals "law" = some (some (.ref f16))) (l16 : K.lookup f16 = some ⟨oc16, od16, .func (PySem.W.fnOf "law" "law" (defArgs s_law) (defBody s_law) (defScope s_law) .none kV16 dc16 pm16 an16 cd16 ct16), sl16⟩) (c16 : PySem.W.codeIn K cd16 "law" = true) (k16 : PySem.W.keepIn K (.ref f16) = true)
    (zb_abs : PySem.W.nsIn K mainGlobals "abs" = some none)
    (zb_all : PySem.W.nsIn K mainGlobals "all" = some none)
    (zb_bool : PySem.W.nsIn K mainGlobals "bool" = some none)
    (zb_enumerate : PySem.W.nsIn K mainGlobals "enumerate" = some none)
    (zb_int : PySem.W.nsIn K mainGlobals "int" = some none)
    (zb_isinstance : PySem.W.nsIn K mainGlobals "isinstance" = some none)
    (zb_len : PySem.W.nsIn K mainGlobals "len" = some none)
    (zb_list : PySem.W.nsIn K mainGlobals "list" = some none)
    (zb_max : PySem.W.nsIn K mainGlobals "max" = some none)
    (zb_min : PySem.W.nsIn K mainGlobals "min" = some none)
    (zb_range : PySem.W.nsIn K mainGlobals "range" = some none)
    (zb_repr : PySem.W.nsIn K mainGlobals "repr" = some none)
    (zb_set : PySem.W.nsIn K mainGlobals "set" = some none)
    (zb_sum : PySem.W.nsIn K mainGlobals "sum" = some none)
    (zg_MOST_DISTANCE : PySem.W.nsIn K mainGlobals "MOST_DISTANCE" = some (some (.int 1000000000000000000000000000000 tk_MOST_DISTANCE)))
    (zg_MOST_PLACES : PySem.W.nsIn K mainGlobals "MOST_PLACES" = some (some (.int 30 tk_MOST_PLACES))) :
    ∃ fd : FuncData, (∀ (s : Shared) (v : Value), BindsTo s fd ⟨[v], []⟩ [("script", v)]) ∧ ∀ base : Heap, K.In base → base.Ns mainGlobals mg → FnG l.prog w K mg base 8 fa fd ["script"] spLaw := by
  have e := hfa.symm.trans (PySem.W.mg_of X G a16)
  cases e
  have B : Bl mg := ⟨PySem.W.mg_none_of X G zb_abs, PySem.W.mg_none_of X G zb_all, PySem.W.mg_none_of X G zb_bool, PySem.W.mg_none_of X G zb_enumerate, PySem.W.mg_none_of X G zb_int, PySem.W.mg_none_of X G zb_isinstance, PySem.W.mg_none_of X G zb_len, PySem.W.mg_none_of X G zb_list, PySem.W.mg_none_of X G zb_max, PySem.W.mg_none_of X G zb_min, PySem.W.mg_none_of X G zb_range, PySem.W.mg_none_of X G zb_repr, PySem.W.mg_none_of X G zb_set, PySem.W.mg_none_of X G zb_sum, ⟨_, PySem.W.mg_of X G zg_MOST_DISTANCE⟩, ⟨_, PySem.W.mg_of X G zg_MOST_PLACES⟩⟩
  refine ⟨PySem.W.fnOf "law" "law" (defArgs s_law) (defBody s_law) (defScope s_law) .none kV16 dc16 pm16 an16 cd16 ct16, fun s v => .of_eq rfl, fun base _ _ => ?_⟩
  have C_is_between := ok_is_between (P := l.prog) (w := w) (base := base) B  (defAt (l := l) X G a0 l0 c0 k0 (fun _ _ _ _ _ _ us hl => match us, hl with | [_, _, _], _ => rfl))
  have C_is_row := ok_is_row (P := l.prog) (w := w) (base := base) B C_is_between (defAt (l := l) X G a1 l1 c1 k1 (fun _ _ _ _ _ _ us hl => match us, hl with | [_, _], _ => rfl))
  have C_is_table := ok_is_table (P := l.prog) (w := w) (base := base) B C_is_row (defAt (l := l) X G a2 l2 c2 k2 (fun _ _ _ _ _ _ us hl => match us, hl with | [_], _ => rfl))
  have C_are_places := ok_are_places (P := l.prog) (w := w) (base := base) B C_is_between (defAt (l := l) X G a3 l3 c3 k3 (fun _ _ _ _ _ _ us hl => match us, hl with | [_, _], _ => rfl))
  have C_require_table := ok_require_table (P := l.prog) (w := w) (base := base) B C_is_table (defAt (l := l) X G a4 l4 c4 k4 (fun _ _ _ _ _ _ us hl => match us, hl with | [_], _ => rfl))
  have C_length_of := ok_length_of (P := l.prog) (w := w) (base := base) B  (defAt (l := l) X G a5 l5 c5 k5 (fun _ _ _ _ _ _ us hl => match us, hl with | [_, _], _ => rfl))
  have C_trip_length := ok_trip_length (P := l.prog) (w := w) (base := base) B C_are_places C_length_of C_require_table (defAt (l := l) X G a6 l6 c6 k6 (fun _ _ _ _ _ _ us hl => match us, hl with | [_, _], _ => rfl))
  have C_law_tap := ok_law_tap (P := l.prog) (w := w) (base := base) B  (defAt (l := l) X G a7 l7 c7 k7 (fun _ _ _ _ _ _ us hl => match us, hl with | [_, _], _ => rfl))
  have C_law_draw := ok_law_draw (P := l.prog) (w := w) (base := base) B  (defAt (l := l) X G a8 l8 c8 k8 (fun _ _ _ _ _ _ us hl => match us, hl with | [_, _], _ => rfl))
  have C_law_cells := ok_law_cells (P := l.prog) (w := w) (base := base) B  (defAt (l := l) X G a9 l9 c9 k9 (fun _ _ _ _ _ _ us hl => match us, hl with | [_, _], _ => rfl))
  have C_law_mixed := ok_law_mixed (P := l.prog) (w := w) (base := base) B C_law_draw (defAt (l := l) X G a10 l10 c10 k10 (fun _ _ _ _ _ _ us hl => match us, hl with | [_, _], _ => rfl))
  have C_law_table := ok_law_table (P := l.prog) (w := w) (base := base) B C_law_draw (defAt (l := l) X G a11 l11 c11 k11 (fun _ _ _ _ _ _ us hl => match us, hl with | [_, _], _ => rfl))
  have C_law_stops := ok_law_stops (P := l.prog) (w := w) (base := base) B C_law_draw C_law_mixed (defAt (l := l) X G a12 l12 c12 k12 (fun _ _ _ _ _ _ us hl => match us, hl with | [_, _, _], _ => rfl))
  have C_law_steps := ok_law_steps (P := l.prog) (w := w) (base := base) B  (defAt (l := l) X G a13 l13 c13 k13 (fun _ _ _ _ _ _ us hl => match us, hl with | [_, _], _ => rfl))
  have C_law_trip_right := ok_law_trip_right (P := l.prog) (w := w) (base := base) B C_law_draw C_law_steps C_trip_length (defAt (l := l) X G a14 l14 c14 k14 (fun _ _ _ _ _ _ us hl => match us, hl with | [_, _, _], _ => rfl))
  have C_law_holds := ok_law_holds (P := l.prog) (w := w) (base := base) B C_law_draw C_law_mixed C_law_stops C_law_table C_law_trip_right C_trip_length (defAt (l := l) X G a15 l15 c15 k15 (fun _ _ _ _ _ _ us hl => match us, hl with | [_], _ => rfl))
  exact fnG (fun_mk (st := s_law) l16 c16 k16) sc_law (fun cdv A outer s H hg hr => dv_law B C_law_cells C_law_holds C_law_tap C_trip_length cdv A outer s H hg hr) sem_law
end Dv
open PySem PySem.W PyProof.Rows
set_option maxRecDepth 100000 in
set_option maxHeartbeats 0 in
theorem PySem.Challenge.cw_skipstops_k03_trips_and_their_lengths_holds : PySem.Challenge.rw_skipstops_k03_trips_and_their_lengths.Holds := by
  w_on; o_law; k_head; (case hw => w_witness2)
  k_fill
  refine DL.walkG (l := PySem.Challenge.rw_skipstops_k03_trips_and_their_lengths) (k := 8) rfl rfl ⟨rfl, by decide, by decide⟩ (fun w h Y => PySem.W.kIn_of Y) ?F
  case F =>
    intro w mg fa h KX G hmg
    refine' Dv.all_mk KX G hmg ?a0 ?l0 ?c0 ?k0 ?a1 ?l1 ?c1 ?k1 ?a2 ?l2 ?c2 ?k2 ?a3 ?l3 ?c3 ?k3 ?a4 ?l4 ?c4 ?k4 ?a5 ?l5 ?c5 ?k5 ?a6 ?l6 ?c6 ?k6 ?a7 ?l7 ?c7 ?k7 ?a8 ?l8 ?c8 ?k8 ?a9 ?l9 ?c9 ?k9 ?a10 ?l10 ?c10 ?k10 ?a11 ?l11 ?c11 ?k11 ?a12 ?l12 ?c12 ?k12 ?a13 ?l13 ?c13 ?k13 ?a14 ?l14 ?c14 ?k14 ?a15 ?l15 ?c15 ?k15 ?a16 ?l16 ?c16 ?k16 ?zb_abs ?zb_all ?zb_bool ?zb_enumerate ?zb_int ?zb_isinstance ?zb_len ?zb_list ?zb_max ?zb_min ?zb_range ?zb_repr ?zb_set ?zb_sum ?zg_MOST_DISTANCE ?zg_MOST_PLACES
    (case a0 => k_is)
    (case l0 => k_is)
    (case c0 => k_is)
    (case k0 => k_is)
    (case a1 => k_is)
    (case l1 => k_is)
    (case c1 => k_is)
    (case k1 => k_is)
    (case a2 => k_is)
    (case l2 => k_is)
    (case c2 => k_is)
    (case k2 => k_is)
    (case a3 => k_is)
    (case l3 => k_is)
    (case c3 => k_is)
    (case k3 => k_is)
    (case a4 => k_is)
    (case l4 => k_is)
    (case c4 => k_is)
    (case k4 => k_is)
    (case a5 => k_is)
    (case l5 => k_is)
    (case c5 => k_is)
    (case k5 => k_is)
    (case a6 => k_is)
    (case l6 => k_is)
    (case c6 => k_is)
    (case k6 => k_is)
    (case a7 => k_is)
    (case l7 => k_is)
    (case c7 => k_is)
    (case k7 => k_is)
    (case a8 => k_is)
    (case l8 => k_is)
    (case c8 => k_is)
    (case k8 => k_is)
    (case a9 => k_is)
    (case l9 => k_is)
    (case c9 => k_is)
    (case k9 => k_is)
    (case a10 => k_is)
    (case l10 => k_is)
    (case c10 => k_is)
    (case k10 => k_is)
    (case a11 => k_is)
    (case l11 => k_is)
    (case c11 => k_is)
    (case k11 => k_is)
    (case a12 => k_is)
    (case l12 => k_is)
    (case c12 => k_is)
    (case k12 => k_is)
    (case a13 => k_is)
    (case l13 => k_is)
    (case c13 => k_is)
    (case k13 => k_is)
    (case a14 => k_is)
    (case l14 => k_is)
    (case c14 => k_is)
    (case k14 => k_is)
    (case a15 => k_is)
    (case l15 => k_is)
    (case c15 => k_is)
    (case k15 => k_is)
    (case a16 => k_is)
    (case l16 => k_is)
    (case c16 => k_is)
    (case k16 => k_is)
    (case zb_abs => k_is)
    (case zb_all => k_is)
    (case zb_bool => k_is)
    (case zb_enumerate => k_is)
    (case zb_int => k_is)
    (case zb_isinstance => k_is)
    (case zb_len => k_is)
    (case zb_list => k_is)
    (case zb_max => k_is)
    (case zb_min => k_is)
    (case zb_range => k_is)
    (case zb_repr => k_is)
    (case zb_set => k_is)
    (case zb_sum => k_is)
    (case zg_MOST_DISTANCE => k_is)
    (case zg_MOST_PLACES => k_is)
