import PyProof.Rows.All
import HandS.ForMost
import HandS.ForExc
import HandS.ExcInit
import HandS.Star
import HandS.Sort
import HandS.Style
import HandS.Lambda
import HandS.HeadHook1
import HandS.TupMul
import HandS.Deep
import HandS.ExcOwn
import HandS.Text
import PyProof.TupleOfSeq
import PyProof.Rows.SortWalk
import HandS.ExcSuper
import KE.KExcSuper
import HandS.TryOnly
import HandS.ExcField
import HandS.Dict
import HandS.More
import HandS.HeadHook3
import HandS.Head0
import HandS.Head1
import HandS.Head2
import HandS.HeadEnd
import HandS.HeadHook2
import HandS.HeadHook4
import HandS.HeadWalk
import PySem.Challenge.RW_rowsort_k06_whole_single_instructions
section
set_option Elab.async false
set_option linter.all false
set_option autoImplicit false
set_option maxRecDepth 100000
set_option maxHeartbeats 4000000
/-! RsCore: plain readings of Python over data and a store of lists and dicts, above the hand layer. -/
namespace RS
open PySem PySem.Spec PyProof.Rows L2

/-! ### values, stores, ends -/
/-- d: plain data; r: the store's object of that number; fz: a list that is read, never written -/
inductive U where
  | d (x : PyData) | r (l : Nat) | fz (xs : List PyData)
inductive Ob where
  | lst (us : List U) | dic (kvs : List (Key × U))
abbrev Sto := List Ob
abbrev En := List (Option U)
/-- an end: a value and the store; an own error, its class by name and its fields; none that is spoken of -/
inductive R (α : Type) where
  | ok (a : α) (M : Sto) | ex (c : Str) (fs : List (Str × PyData)) (M : Sto) | bad
def R.bind {α β : Type} (r : R α) (g : α → Sto → R β) : R β := match r with
  | .ok a M => g a M
  | .ex c fs M => .ex c fs M
  | .bad => .bad
@[simp] theorem R.bind_ok {α β : Type} (a : α) (M : Sto) (g : α → Sto → R β) : (R.ok a M).bind g = g a M := rfl
@[simp] theorem R.bind_ex {α β : Type} (c : Str) (fs : List (Str × PyData)) (M : Sto) (g : α → Sto → R β) : (R.ex c fs M).bind g = .ex c fs M := rfl
@[simp] theorem R.bind_bad {α β : Type} (g : α → Sto → R β) : (R.bad).bind g = .bad := rfl

/-! ### what stands for data -/
mutual
def RepD (K : PySem.W.Frag) (H : Hp) : PyData → V → Prop
  | .none, v => v = .non
  | .bool b, v => v = .bl b
  | .int i, v => v = .int i
  | .str x, v => v = .str x
  | .tuple ds, v => ∃ a vs, v = .ref a ∧ SqT K H a vs ∧ RepDs K H ds vs
  | .list _, _ => False
  | .dict _, _ => False
def RepDs (K : PySem.W.Frag) (H : Hp) : List PyData → List V → Prop
  | [], vs => vs = []
  | d :: ds, vs => ∃ v r, vs = v :: r ∧ RepD K H d v ∧ RepDs K H ds r
end
/-- what no one writes to -/
def imm : HO → Prop
  | .tup _ => True
  | .frz _ _ => True
  | .xd _ => True
  | .ext _ => True
  | _ => False
/-- the tables of the lambdas, if there are any -/
class LT where
  T : List (Addr × Str)
variable [LT]
def nt (o : HO) : Prop := ∀ ps, o ≠ .tbl ps
/-- from a heap, with the addresses of the store's objects, to a later one -/
structure Ext (H : Hp) (ρ : List Addr) (H' : Hp) (ρ' : List Addr) : Prop where
  pre : ∃ τ, ρ' = ρ ++ τ ∧ ∀ a ∈ τ, ∀ o, H a = some o → ¬ nt o
  dom : ∀ a o, H a = some o → nt o → ∃ o', H' a = some o' ∧ nt o'
  keep : ∀ a o, H a = some o → imm o → H' a = some o
  frame : ∀ a o, H a = some o → a ∉ ρ → nt o → H' a = some o
theorem Ext.refl (H : Hp) (ρ : List Addr) : Ext H ρ H ρ := ⟨⟨[], by simp, by simp⟩, fun _ o h n => ⟨o, h, n⟩, fun _ _ h _ => h, fun _ _ h _ _ => h⟩
theorem Ext.trans {H H1 H2 : Hp} {ρ ρ1 ρ2 : List Addr} (a : Ext H ρ H1 ρ1) (b : Ext H1 ρ1 H2 ρ2) : Ext H ρ H2 ρ2 := by
  obtain ⟨τ, rfl, f1⟩ := a.pre
  obtain ⟨υ, rfl, f2⟩ := b.pre
  refine ⟨⟨τ ++ υ, by simp, fun x hx o ho hn => ?_⟩, fun x o h n => ?_, fun x o h i => b.keep x o (a.keep x o h i) i, fun x o h hn ht => ?_⟩
  · rcases List.mem_append.mp hx with h | h
    · exact f1 x h o ho hn
    · obtain ⟨o', e1, n1⟩ := a.dom x o ho hn
      exact f2 x h o' e1 n1
  · obtain ⟨o', e1, n1⟩ := a.dom x o h n
    exact b.dom x o' e1 n1
  · refine b.frame x o (a.frame x o h hn ht) (fun z => ?_) ht
    rcases List.mem_append.mp z with z | z
    · exact hn z
    · exact f1 x z o h ht
/-- a new object that the store does not hold (a tuple) -/
theorem Ext.old {H : Hp} {ρ : List Addr} {p : Addr} {o : HO} (hp : H p = none) : Ext H ρ (upd H p o) ρ :=
  have k : ∀ a x, H a = some x → upd H p o a = some x := fun a x h => by rw [upd_ne (ne_of_none h hp)]; exact h
  ⟨⟨[], by simp, by simp⟩, fun a x h n => ⟨x, k a x h, n⟩, fun a x h _ => k a x h, fun a x h _ _ => k a x h⟩
/-- a new object of the store -/
theorem Ext.new {H : Hp} {ρ : List Addr} {p : Addr} {o : HO} (hp : H p = none) : Ext H ρ (upd H p o) (ρ ++ [p]) :=
  have e := Ext.old (ρ := ρ) (o := o) hp
  ⟨⟨[p], rfl, fun a ha o h => by rw [List.mem_singleton.mp ha, hp] at h; cases h⟩, e.dom, e.keep, e.frame⟩
theorem tab_upd {H : Hp} {p : Addr} {o u : HO} (h : H p = some u) (hu : ¬ imm u) (ht : nt u) {P : Addr} {q : Str} (hT : LamX.TabS H P q) : LamX.TabS (upd H p o) P q := by
  obtain ⟨ps, h1, h2, h3⟩ := hT
  refine ⟨ps, ?_, h2, fun pos cv hc => ?_⟩
  · by_cases e : P = p
    · subst e; rw [h] at h1; cases h1; exact absurd rfl (ht _)
    · rw [upd_ne e]; exact h1
  · obtain ⟨c, e1, e2⟩ := h3 pos cv hc
    refine ⟨c, e1, ?_⟩
    by_cases e : c = p
    · subst e; rw [h] at e2; cases e2; exact absurd trivial hu
    · rw [upd_ne e]; exact e2
/-- an object of the store is written -/
theorem Ext.put {H : Hp} {ρ : List Addr} {p : Addr} {o u : HO} (h : H p = some u) (hm : p ∈ ρ) (hu : ¬ imm u) (ht : nt u) (ho : nt o := by intro ps z; cases z) : Ext H ρ (upd H p o) ρ := by
  refine ⟨⟨[], by simp, by simp⟩, fun a x q n => ?_, fun a x q i => ?_, fun a x q hn _ => ?_⟩
  · by_cases e : a = p
    · subst e; exact ⟨o, upd_same, ho⟩
    · rw [upd_ne e]; exact ⟨x, q, n⟩
  · by_cases e : a = p
    · subst e; rw [h] at q; cases q; exact absurd i hu
    · rw [upd_ne e]; exact q
  · by_cases e : a = p
    · exact absurd (e ▸ hm) hn
    · rw [upd_ne e]; exact q
/-- an own object that came on the way, beside the store, is written -/
theorem Ext.own {H H' : Hp} {ρ ρ' : List Addr} {p : Addr} {o u : HO} (e : Ext H ρ H' ρ') (hp : H p = none) (h : H' p = some u) (hu : ¬ imm u) (ht : nt u) : Ext H ρ (upd H' p o) ρ' := by
  refine ⟨e.pre, fun a x q n => ?_, fun a x q i => ?_, fun a x q hn ht' => ?_⟩
  · rw [upd_ne (ne_of_none q hp)]; exact e.dom a x q n
  · rw [upd_ne (ne_of_none q hp)]; exact e.keep a x q i
  · rw [upd_ne (ne_of_none q hp)]; exact e.frame a x q hn ht'
/-- but the tables all stays -/
theorem Ext.lam {H H' : Hp} (ρ : List Addr) (e : LamX.ExtN H H') : Ext H ρ H' ρ :=
  ⟨⟨[], by simp, by simp⟩, fun a x q n => ⟨x, e a x q n, n⟩, fun a x q i => e a x q (by intro ps z; rw [z] at i; exact i), fun a x q _ n => e a x q n⟩

theorem nodup_at {α : Type} {l : List α} (h : l.Nodup) {i j : Nat} {x : α} (a : l[i]? = some x) (b : l[j]? = some x) : i = j := by
  obtain ⟨h1, e1⟩ := List.getElem?_eq_some_iff.mp a
  obtain ⟨h2, e2⟩ := List.getElem?_eq_some_iff.mp b
  exact (List.getElem_inj h).mp (e1.trans e2.symm)
section
variable {K : PySem.W.Frag} {H H' : Hp} {ρ ρ' : List Addr} {M : Sto}
/-- as much of it as values need -/
structure Ext0 (H : Hp) (ρ : List Addr) (H' : Hp) (ρ' : List Addr) : Prop where
  pre : ∃ τ, ρ' = ρ ++ τ
  keep : ∀ a o, H a = some o → imm o → H' a = some o
theorem Ext.e0 (e : Ext H ρ H' ρ') : Ext0 H ρ H' ρ' := ⟨e.pre.imp fun _ h => h.1, e.keep⟩
/-- a list that is only read: locked, or the top's -/
def SqF (K : PySem.W.Frag) (H : Hp) (a : Addr) (vs : List V) : Prop :=
  (∃ o, H a = some (.frz o (.lst vs))) ∨ ∀ H', SqL K H' a vs
theorem SqF.sq {a : Addr} {vs : List V} (h : SqF K H a vs) : SqL K H a vs := by
  rcases h with ⟨o, h⟩ | h
  · exact .inl (.inr ⟨o, h⟩)
  · exact h H
theorem SqF.ext0 (e : Ext0 H ρ H' ρ') {a : Addr} {vs : List V} (h : SqF K H a vs) : SqF K H' a vs := by
  rcases h with ⟨o, h⟩ | h
  · exact .inl ⟨o, e.keep _ _ h trivial⟩
  · exact .inr h
/-- a value of the layer stands for one of ours -/
def RepU (K : PySem.W.Frag) (H : Hp) (ρ : List Addr) (v : V) : U → Prop
  | .d x => RepD K H x v
  | .r l => ∃ a, ρ[l]? = some a ∧ v = .ref a
  | .fz xs => ∃ a vs, v = .ref a ∧ RepDs K H xs vs ∧ SqF K H a vs
abbrev RepUs (K : PySem.W.Frag) (H : Hp) (ρ : List Addr) : List V → List U → Prop := Paired (RepU K H ρ)
theorem Ext0.sqT (e : Ext0 H ρ H' ρ') {a : Addr} {vs : List V} (h : SqT K H a vs) : SqT K H' a vs := by
  rcases h with (h | ⟨o, h⟩) | h
  · exact .inl (.inl (e.keep _ _ h trivial))
  · exact .inl (.inr ⟨o, e.keep _ _ h trivial⟩)
  · exact .inr h
mutual
theorem RepD.ext0 (e : Ext0 H ρ H' ρ') : ∀ (x : PyData) (v : V), RepD K H x v → RepD K H' x v
  | .none, _, h => h
  | .bool _, _, h => h
  | .int _, _, h => h
  | .str _, _, h => h
  | .tuple ds, v, h => by
    obtain ⟨a, vs, e1, e2, e3⟩ := h
    exact ⟨a, vs, e1, e.sqT e2, RepDs.ext0 e ds vs e3⟩
  | .list _, _, h => h
  | .dict _, _, h => h
theorem RepDs.ext0 (e : Ext0 H ρ H' ρ') : ∀ (xs : List PyData) (vs : List V), RepDs K H xs vs → RepDs K H' xs vs
  | [], _, h => h
  | x :: xs, vs, h => by
    obtain ⟨v, r, e1, e2, e3⟩ := h
    exact ⟨v, r, e1, RepD.ext0 e x v e2, RepDs.ext0 e xs r e3⟩
end
theorem RepU.ext0 (e : Ext0 H ρ H' ρ') {v : V} : ∀ {u : U}, RepU K H ρ v u → RepU K H' ρ' v u
  | .d x, h => RepD.ext0 e x v h
  | .r l, h => by
    obtain ⟨a, e1, e2⟩ := h
    obtain ⟨τ, rfl⟩ := e.pre
    exact ⟨a, by rw [List.getElem?_append_left (List.getElem?_eq_some_iff.mp e1).1]; exact e1, e2⟩
  | .fz xs, h => by
    obtain ⟨a, vs, e1, e2, e3⟩ := h
    exact ⟨a, vs, e1, RepDs.ext0 e xs vs e2, e3.ext0 e⟩
theorem RepUs.ext0 (e : Ext0 H ρ H' ρ') {vs : List V} {us : List U} (h : RepUs K H ρ vs us) : RepUs K H' ρ' vs us := Paired.mapP h fun _ _ q => q.ext0 e
/-- an object of the store -/
def ObR (K : PySem.W.Frag) (H : Hp) (ρ : List Addr) (a : Addr) : Ob → Prop
  | .lst us => ∃ vs, H a = some (.lst vs) ∧ RepUs K H ρ vs us
  | .dic kvs => ∃ kws, H a = some (.dK kws) ∧ Paired (fun (p : Key × V) (q : Key × U) => p.1 = q.1 ∧ RepU K H ρ p.2 q.2) kws kvs
theorem ObR.ext0 (e : Ext0 H ρ H' ρ') {a : Addr} (h' : H' a = H a) : ∀ {o : Ob}, ObR K H ρ a o → ObR K H' ρ' a o
  | .lst us, h => by
    obtain ⟨vs, e1, e2⟩ := h
    exact ⟨vs, h'.trans e1, e2.ext0 e⟩
  | .dic kvs, h => by
    obtain ⟨kws, e1, e2⟩ := h
    exact ⟨kws, h'.trans e1, Paired.mapP e2 fun _ _ q => ⟨q.1, q.2.ext0 e⟩⟩
theorem ObR.mut {a : Addr} : ∀ {o : Ob}, ObR K H ρ a o → ∃ u, H a = some u ∧ ¬ imm u ∧ ∀ ps, u ≠ .tbl ps
  | .lst us, ⟨vs, e1, _⟩ => ⟨_, e1, fun z => z, fun ps z => by cases z⟩
  | .dic kvs, ⟨kws, e1, _⟩ => ⟨_, e1, fun z => z, fun ps z => by cases z⟩
theorem RepD.ext (e : Ext H ρ H' ρ') (x : PyData) (v : V) (h : RepD K H x v) : RepD K H' x v := RepD.ext0 e.e0 x v h
theorem RepDs.ext (e : Ext H ρ H' ρ') (xs : List PyData) (vs : List V) (h : RepDs K H xs vs) : RepDs K H' xs vs := RepDs.ext0 e.e0 xs vs h
theorem RepU.ext (e : Ext H ρ H' ρ') {v : V} {u : U} (h : RepU K H ρ v u) : RepU K H' ρ' v u := RepU.ext0 e.e0 h
theorem RepUs.ext (e : Ext H ρ H' ρ') {vs : List V} {us : List U} (h : RepUs K H ρ vs us) : RepUs K H' ρ' vs us := RepUs.ext0 e.e0 h
theorem ObR.ext (e : Ext H ρ H' ρ') {a : Addr} (h' : H' a = H a) {o : Ob} (h : ObR K H ρ a o) : ObR K H' ρ' a o := ObR.ext0 e.e0 h' h
/-- the store stands in the heap -/
structure Rel (K : PySem.W.Frag) (H : Hp) (ρ : List Addr) (M : Sto) : Prop where
  len : ρ.length = M.length
  nd : ρ.Nodup
  tb : LamX.Tabs LT.T H
  ob : ∀ (l : Nat) (a : Addr) (o : Ob), ρ[l]? = some a → M[l]? = some o → ObR K H ρ a o
theorem Rel.nil (t : LamX.Tabs LT.T H) : Rel K H [] [] := ⟨rfl, List.nodup_nil, t, fun l a o h => by simp at h⟩
theorem Rel.get (r : Rel K H ρ M) {l : Nat} {o : Ob} (h : M[l]? = some o) : ∃ a, ρ[l]? = some a ∧ ObR K H ρ a o := by
  obtain ⟨hl, _⟩ := List.getElem?_eq_some_iff.mp h
  have h2 : l < ρ.length := by rw [r.len]; exact hl
  exact ⟨ρ[l], List.getElem?_eq_getElem h2, r.ob l _ o (List.getElem?_eq_getElem h2) h⟩
theorem Rel.some (r : Rel K H ρ M) {a : Addr} (h : a ∈ ρ) : H a ≠ none := fun z => by
  obtain ⟨l, hl, e⟩ := List.mem_iff_getElem.mp h
  have h2 : l < M.length := by rw [← r.len]; exact hl
  obtain ⟨u, hu, _⟩ := (r.ob l a M[l] (by rw [List.getElem?_eq_getElem hl, e]) (List.getElem?_eq_getElem h2)).mut
  rw [z] at hu; cases hu
/-- beside the store something new -/
theorem Rel.old (r : Rel K H ρ M) {p : Addr} {o : HO} (hp : H p = none) : Rel K (upd H p o) ρ M :=
  ⟨r.len, r.nd, r.tb.ext fun a x h => by rw [upd_ne (ne_of_none h hp)]; exact h, fun l a x h1 h2 => (r.ob l a x h1 h2).ext (Ext.old hp) (upd_ne fun z => r.some (List.mem_of_getElem? h1) (by rw [z]; exact hp))⟩
theorem Rel.new (r : Rel K H ρ M) {p : Addr} {o : HO} {x : Ob} (hp : H p = none) (hx : ObR K (upd H p o) (ρ ++ [p]) p x) : Rel K (upd H p o) (ρ ++ [p]) (M ++ [x]) := by
  refine ⟨by simp [r.len], ?_, r.tb.ext fun a x h => by rw [upd_ne (ne_of_none h hp)]; exact h, fun l a y h1 h2 => ?_⟩
  · rw [List.nodup_append]
    refine ⟨r.nd, by simp, fun a ha b hb z => ?_⟩
    rw [List.mem_singleton.mp hb] at z
    exact r.some ha (by rw [z]; exact hp)
  · by_cases hl : l < ρ.length
    · rw [List.getElem?_append_left hl] at h1
      rw [List.getElem?_append_left (by rw [← r.len]; exact hl)] at h2
      exact (r.ob l a y h1 h2).ext (Ext.new hp) (upd_ne fun z => r.some (List.mem_of_getElem? h1) (by rw [z]; exact hp))
    · rw [List.getElem?_append_right (by omega)] at h1
      rw [List.getElem?_append_right (by rw [← r.len]; omega)] at h2
      rw [← r.len] at h2
      cases q : l - ρ.length with
      | zero =>
        rw [q] at h1 h2
        cases h1; cases h2
        exact hx
      | succ n => rw [q] at h1; simp at h1
theorem Rel.put (r : Rel K H ρ M) {l : Nat} {p : Addr} {o : HO} {y x : Ob} (hp : ρ[l]? = .some p) (hy : M[l]? = .some y) (hx : ObR K (upd H p o) ρ p x) : Rel K (upd H p o) ρ (M.set l x) ∧ Ext H ρ (upd H p o) ρ := by
  obtain ⟨u, hu, hi, ht⟩ := (r.ob l p y hp hy).mut
  have e : Ext H ρ (upd H p o) ρ := Ext.put hu (List.mem_of_getElem? hp) hi ht (by
    obtain ⟨z, hz, _, hn⟩ := hx.mut
    rw [upd_same] at hz
    cases hz
    exact hn)
  refine ⟨⟨by simp [r.len], r.nd, fun q hq => tab_upd hu hi ht (r.tb q hq), fun k a z h1 h2 => ?_⟩, e⟩
  by_cases hk : k = l
  · subst hk
    rw [hp] at h1; cases h1
    rw [List.getElem?_set_self (List.getElem?_eq_some_iff.mp hy).1] at h2
    cases h2
    exact hx
  · rw [List.getElem?_set_ne (Ne.symm hk)] at h2
    refine (r.ob k a z h1 h2).ext e (upd_ne fun q => hk ?_)
    rw [q] at h1
    exact nodup_at r.nd h1 hp
theorem Rel.lam {H H' : Hp} {K : PySem.W.Frag} {ρ : List Addr} {M : Sto} (r : Rel K H ρ M) (e : LamX.ExtN H H') (t : LamX.Tabs LT.T H') : Rel K H' ρ M :=
  ⟨r.len, r.nd, t, fun l a x h1 h2 => by
    have o := r.ob l a x h1 h2
    obtain ⟨u, hu, _, hn⟩ := o.mut
    exact o.ext (Ext.lam ρ e) ((e a u hu hn).trans hu.symm)⟩
end
end RS

end
section
set_option Elab.async false
set_option linter.all false
set_option autoImplicit false
set_option maxRecDepth 100000
set_option maxHeartbeats 4000000
/-! RsExpr: the readings of expressions. -/
namespace RS
open PySem PySem.Spec PyProof.Rows L2
variable [LT]

/-! ### posts -/
/-- an own error, as it is told behind a call: its class by name, its fields -/
def ExR (K : PySem.W.Frag) (H : Hp) (c : Str) (fs : List (Str × PyData)) (cls : Value) (d : Option Addr) : Prop :=
  cls = .ref (He.ga K c) ∧ ((fs = [] ∧ d = none) ∨ ∃ dd kvs, d = some dd ∧ H dd = some (.xd kvs) ∧ ∀ p ∈ fs, ∃ v, kvs.lookup p.1 = some v ∧ RepD K H p.2 v)
section
variable {K : PySem.W.Frag} {H H1 H' : Hp} {ρ ρ1 ρ' : List Addr} {M M1 : Sto} {E : XK}
theorem ExR.ext {c : Str} {fs : List (Str × PyData)} {cls : Value} {d : Option Addr} (e : Ext H ρ H' ρ') (x : ExR K H c fs cls d) : ExR K H' c fs cls d := by
  refine ⟨x.1, x.2.imp id fun ⟨dd, kvs, e1, e2, e3⟩ => ⟨dd, kvs, e1, e.keep _ _ e2 trivial, fun p hp => ?_⟩⟩
  obtain ⟨v, h1, h2⟩ := e3 p hp
  exact ⟨v, h1, RepD.ext e _ _ h2⟩
/-- what is wanted of an end -/
def Pst {α β : Type} (K : PySem.W.Frag) (E : XK) (rep : Hp → List Addr → β → α → Prop) (H : Hp) (ρ : List Addr) (r : R α) (Q : β → Hp → Prop) : Prop := match r with
  | .ok a M => ∀ b H' ρ', Ext H ρ H' ρ' → Rel K H' ρ' M → rep H' ρ' b a → Q b H'
  | .ex c fs M => ∀ cls d H' ρ', Ext H ρ H' ρ' → Rel K H' ρ' M → ExR K H' c fs cls d → E cls d H'
  | .bad => False
section
variable {α β γ δ : Type} {rep : Hp → List Addr → β → α → Prop} {rep2 : Hp → List Addr → δ → γ → Prop} {Q Q' : β → Hp → Prop} {Q2 : δ → Hp → Prop}
theorem Pst.from (e : Ext H ρ H1 ρ1) : ∀ {r : R α}, Pst K E rep H ρ r Q → Pst K E rep H1 ρ1 r Q
  | .ok a M, h => fun b H' ρ' e' => h b H' ρ' (e.trans e')
  | .ex c fs M, h => fun cls d H' ρ' e' => h cls d H' ρ' (e.trans e')
  | .bad, h => h
theorem Pst.mono (m : ∀ b H', Q b H' → Q' b H') : ∀ {r : R α}, Pst K E rep H ρ r Q → Pst K E rep H ρ r Q'
  | .ok a M, h => fun b H' ρ' e' rl rp => m _ _ (h b H' ρ' e' rl rp)
  | .ex c fs M, h => h
  | .bad, h => h
/-- a thing behind another -/
theorem Pst.bind {g : α → Sto → R γ} : ∀ {r : R α}, Pst K E rep2 H ρ (r.bind g) Q2 →
    Pst K E rep H ρ r fun b H1 => ∃ ρ1 M1 a, Ext H ρ H1 ρ1 ∧ Rel K H1 ρ1 M1 ∧ rep H1 ρ1 b a ∧ Pst K E rep2 H1 ρ1 (g a M1) Q2
  | .ok a M, h => fun b H' ρ' e rl rp => ⟨ρ', M, a, e, rl, rp, Pst.from e h⟩
  | .ex c fs M, h => h
  | .bad, h => h
/-- the end of a pure step -/
theorem Pst.here {a : α} {b : β} (h : Pst K E rep H ρ (.ok a M) Q) (rl : Rel K H ρ M) (rp : rep H ρ b a) : Q b H := h b H ρ (Ext.refl _ _) rl rp
theorem Pst.to {a : α} {b : β} (h : Pst K E rep H ρ (.ok a M) Q) (e : Ext H ρ H1 ρ1) (rl : Rel K H1 ρ1 M) (rp : rep H1 ρ1 b a) : Q b H1 := h b H1 ρ1 e rl rp
end

/-- the slots -/
structure EnR (K : PySem.W.Frag) (H : Hp) (ρ : List Addr) (σ : L2.St) (en : En) : Prop where
  len : σ.length = en.length
  at_ : ∀ (i : Nat) (u : U), en[i]? = some (some u) → ∃ v, σ[i]? = some (some v) ∧ RepU K H ρ v u
theorem EnR.ext {σ : L2.St} {en : En} (e : Ext H ρ H' ρ') (h : EnR K H ρ σ en) : EnR K H' ρ' σ en :=
  ⟨h.len, fun i u q => let ⟨v, h1, h2⟩ := h.at_ i u q; ⟨v, h1, h2.ext e⟩⟩
theorem EnR.set {σ : L2.St} {en : En} (h : EnR K H ρ σ en) (i : Nat) {v : V} {u : U} (r : RepU K H ρ v u) : EnR K H ρ (σ.set i (some v)) (en.set i (some u)) := by
  refine ⟨by simp [h.len], fun j w q => ?_⟩
  by_cases e : i = j
  · subst e
    have hi : i < en.length := by
      have := (List.getElem?_eq_some_iff.mp q).1
      simpa using this
    rw [List.getElem?_set_self hi] at q
    cases q
    exact ⟨v, List.getElem?_set_self (by rw [h.len]; exact hi), r⟩
  · rw [List.getElem?_set_ne e] at q
    obtain ⟨x, h1, h2⟩ := h.at_ j w q
    exact ⟨x, by rw [List.getElem?_set_ne e]; exact h1, h2⟩
theorem EnR.forget {σ : L2.St} {en : En} (h : EnR K H ρ σ en) (i : Nat) (x : Option V) : EnR K H ρ (σ.set i x) (en.set i none) := by
  refine ⟨by simp [h.len], fun j w q => ?_⟩
  by_cases e : i = j
  · subst e
    have hi : i < en.length := by
      have := (List.getElem?_eq_some_iff.mp q).1
      simpa using this
    rw [List.getElem?_set_self hi] at q
    cases q
  · rw [List.getElem?_set_ne e] at q
    obtain ⟨y, h1, h2⟩ := h.at_ j w q
    exact ⟨y, by rw [List.getElem?_set_ne e]; exact h1, h2⟩
end

/-! ### the readings -/
def lE (K : PySem.W.Frag) (W : WX) (f : En → Sto → R U) : TE := fun σ H Q => ∃ ρ M en, EnR K H ρ σ en ∧ Rel K H ρ M ∧ Pst K (fun c d H' => W c d σ H') (RepU K) H ρ (f en M) Q
def lT (K : PySem.W.Frag) (W : WX) (f : En → Sto → R Bool) : TT := fun σ H Q => ∃ ρ M en, EnR K H ρ σ en ∧ Rel K H ρ M ∧ Pst K (fun c d H' => W c d σ H') (fun _ _ b a => b = a) H ρ (f en M) Q
def lA (K : PySem.W.Frag) (W : WX) (f : En → Sto → R (List U)) : TA := fun σ H Q => ∃ ρ M en, EnR K H ρ σ en ∧ Rel K H ρ M ∧ Pst K (fun c d H' => W c d σ H') (RepUs K) H ρ (f en M) Q
abbrev SE (X : Cx) (W : WX) (e : Expr) (f : En → Sto → R U) : Prop := PE X e (lE X.K W f)
abbrev ST (X : Cx) (W : WX) (e : Expr) (f : En → Sto → R Bool) : Prop := PT X e (lT X.K W f)
abbrev SA (X : Cx) (W : WX) (es : List Expr) (f : En → Sto → R (List U)) : Prop := PA X es (lA X.K W f)
section
variable {X : Cx} {W : WX}
theorem pe_imp {e : Expr} {t t' : TE} (h : PE X e t) (i : ∀ σ H Q, t' σ H Q → t σ H Q) : PE X e t' := ⟨fun pins s σ H Q I q => h.run pins s σ H Q I (i σ H Q q)⟩
theorem pt_imp {e : Expr} {t t' : TT} (h : PT X e t) (i : ∀ σ H Q, t' σ H Q → t σ H Q) : PT X e t' := ⟨fun pins s σ H Q I q => h.run pins s σ H Q I (i σ H Q q)⟩
theorem pa_imp {e : List Expr} {t t' : TA} (h : PA X e t) (i : ∀ σ H Q, t' σ H Q → t σ H Q) : PA X e t' := ⟨fun pos pins s σ H Q I q => h.run pos pins s σ H Q I (i σ H Q q)⟩

/-! names, constants -/
def eV (i : Nat) (en : En) (M : Sto) : R U := match en[i]? with
  | some (some u) => .ok u M
  | _ => .bad
theorem se_var {i : Nat} {x : Str} {pos : Pos} (hN : X.N[i]? = some x) (hv : Vis X.env.scope x) (hd : (x == ("__debug__" : Str)) = false := by decide) (hcd : (x == ("__classdict__" : Str)) = false := by decide) : SE X W (.Name x pos) (eV i) := by
  refine pe_imp (pe_var hN hv hd hcd) fun σ H Q ⟨ρ, M, en, r, rl, p⟩ => ?_
  unfold eV at p
  split at p
  · rename_i u q
    obtain ⟨v, h1, h2⟩ := r.at_ i u q
    exact ⟨v, h1, p.here rl h2⟩
  · exact p.elim
def eC (d : PyData) (en : En) (M : Sto) : R U := .ok (.d d) M
theorem se_con {e : Expr} {v : V} (d : PyData) (h : PE X e (tC v)) (r : ∀ H, RepD X.K H d v) : SE X W e (eC d) :=
  pe_imp h fun σ H Q ⟨ρ, M, en, _, rl, p⟩ => p.here rl (r H)
theorem se_int {i : Int} {j pos} : SE X W (.Constant (.int i) j pos) (eC (.int i)) := se_con _ pe_int fun _ => rfl
theorem se_bl {b : Bool} {j pos} : SE X W (.Constant (.bool b) j pos) (eC (.bool b)) := se_con _ pe_bl fun _ => rfl
theorem se_non {j pos} : SE X W (.Constant .none j pos) (eC .none) := se_con _ pe_non fun _ => rfl
theorem se_str {x : Str} {j pos} : SE X W (.Constant (.str x) j pos) (eC (.str x)) := se_con _ pe_str fun _ => rfl

/-! operators by values -/
/-- what an operator's rule asks is told by o -/
def OpS (K : PySem.W.Frag) (r : R2) (o : U → U → Sto → R U) : Prop := ∀ (E : XK) (H : Hp) (ρ : List Addr) (M : Sto) (x y : V) (u v : U) (Q : VK), RepU K H ρ x u → RepU K H ρ y v → Rel K H ρ M → Pst K E (RepU K) H ρ (o u v M) Q → r x y H Q
def e2 (o : U → U → Sto → R U) (f g : En → Sto → R U) (en : En) (M : Sto) : R U := (f en M).bind fun u M1 => (g en M1).bind fun v M2 => o u v M2
variable {a b c : Expr} {f g h : En → Sto → R U} {pos : Pos} {r r' : R2} {o o' : U → U → Sto → R U}
theorem two_of {σ : L2.St} {H : Hp} {Q : VK} (hs : OpS X.K r o) (p : lE X.K W (e2 o f g) σ H Q) : tOp r (lE X.K W f) (lE X.K W g) σ H Q := by
  obtain ⟨ρ, M, en, re, rl, p⟩ := p
  refine ⟨ρ, M, en, re, rl, Pst.mono (fun x H1 q => ?_) (Pst.bind p)⟩
  obtain ⟨ρ1, M1, u, e1, rl1, ru, p1⟩ := q
  refine ⟨ρ1, M1, en, re.ext e1, rl1, Pst.mono (fun y H2 q => ?_) (Pst.bind p1)⟩
  obtain ⟨ρ2, M2, v, e2, rl2, rv, p2⟩ := q
  exact hs _ H2 ρ2 M2 x y u v Q (ru.ext e2) rv rl2 p2
theorem se_op {op : Operator} (ho : OpR X (binaryOp op) r) (hs : OpS X.K r o) (ha : SE X W a f) (hb : SE X W b g) : SE X W (.BinOp a op b pos) (e2 o f g) :=
  pe_imp (pe_op ho ha hb) fun _ _ _ p => two_of hs p
theorem se_cmp {op : CmpOp} (ho : OpR X (compareOp op) r) (hs : OpS X.K r o) (ha : SE X W a f) (hb : SE X W b g) (hm : behindInMarks op b = false := by rfl) : SE X W (.Compare a [op] [b] pos) (e2 o f g) :=
  pe_imp (pe_cmpR ho ha hb hm) fun _ _ _ p => two_of hs p
/-- a bool's value, as a test -/
def eB (f : En → Sto → R U) (en : En) (M : Sto) : R Bool := (f en M).bind fun u M1 => match u with
  | .d (.bool b) => .ok b M1
  | _ => .bad
theorem test_of {σ : L2.St} {H : Hp} {Q : Bool → Hp → Prop} (p : lT X.K W (eB f) σ H Q) : lE X.K W f σ H fun x H' => ∃ k, x = .bl k ∧ Q k H' := by
  obtain ⟨ρ, M, en, re, rl, p⟩ := p
  refine ⟨ρ, M, en, re, rl, Pst.mono (fun x H1 q => ?_) (Pst.bind p)⟩
  obtain ⟨ρ1, M1, u, e1, rl1, ru, p1⟩ := q
  split at p1
  · exact ⟨_, ru, p1.here rl1 rfl⟩
  · exact p1.elim
theorem st_cmp {op : CmpOp} (ho : OpR X (compareOp op) r) (hs : OpS X.K r o) (ha : SE X W a f) (hb : SE X W b g) (hm : behindInMarks op b = false := by rfl) : ST X W (.Compare a [op] [b] pos) (eB (e2 o f g)) :=
  pt_imp (pt_cmpR ho ha hb hm) fun _ _ _ p => two_of hs (test_of p)
theorem st_val (ha : SE X W a f) (he : ∀ whole, isTrue a X.env whole = (do let v ← whole; standAt a.pos; holding [v] (truthy v)) := by intro _; rfl) : ST X W a (eB f) :=
  pt_imp (pt_val ha he) fun _ _ _ p => test_of p
/-- a op b op c -/
def e3c (o o' : U → U → Sto → R U) (f g h : En → Sto → R U) (en : En) (M : Sto) : R U := (f en M).bind fun u M1 => (g en M1).bind fun v M2 => (o u v M2).bind fun z M3 => match z with
  | .d (.bool true) => (h en M3).bind fun w M4 => o' v w M4
  | .d (.bool false) => .ok (.d (.bool false)) M3
  | _ => .bad
theorem chain_of {σ : L2.St} {H : Hp} {Q : VK} (hs : OpS X.K r o) (hs' : OpS X.K r' o') (p : lE X.K W (e3c o o' f g h) σ H Q) : tChain r r' (lE X.K W f) (lE X.K W g) (lE X.K W h) σ H Q := by
  obtain ⟨ρ, M, en, re, rl, p⟩ := p
  refine ⟨ρ, M, en, re, rl, Pst.mono (fun x H1 q => ?_) (Pst.bind p)⟩
  obtain ⟨ρ1, M1, u, e1, rl1, ru, p1⟩ := q
  refine ⟨ρ1, M1, en, re.ext e1, rl1, Pst.mono (fun y H2 q => ?_) (Pst.bind p1)⟩
  obtain ⟨ρ2, M2, v, e2, rl2, rv, p2⟩ := q
  refine hs _ H2 ρ2 M2 x y u v _ (ru.ext e2) rv rl2 (Pst.mono (fun z H3 q => ?_) (Pst.bind p2))
  obtain ⟨ρ3, M3, w, e3, rl3, rw', p3⟩ := q
  split at p3
  · refine ⟨true, rw', ?_⟩
    rw [if_pos rfl]
    refine ⟨ρ3, M3, en, (re.ext (e1.trans (e2.trans e3))), rl3, Pst.mono (fun z4 H4 q => ?_) (Pst.bind p3)⟩
    obtain ⟨ρ4, M4, w4, e4, rl4, rw4, p4⟩ := q
    exact hs' _ H4 ρ4 M4 y z4 v w4 Q (rv.ext (e3.trans e4)) rw4 rl4 p4
  · refine ⟨false, rw', ?_⟩
    rw [if_neg Bool.false_ne_true]
    exact p3.here rl3 rfl
  · exact p3.elim
theorem se_chain {op op' : CmpOp} (ho : OpR X (compareOp op) r) (hs : OpS X.K r o) (ho' : OpR X (compareOp op') r') (hs' : OpS X.K r' o') (ha : SE X W a f) (hb : SE X W b g) (hc : SE X W c h) (hm : lastMarks [op, op'] [b, c] = false := by with_unfolding_all rfl) :
    SE X W (.Compare a [op, op'] [b, c] pos) (e3c o o' f g h) := pe_imp (pe_chain ho ho' ha hb hc hm) fun _ _ _ p => chain_of hs hs' p
theorem st_chain {op op' : CmpOp} (ho : OpR X (compareOp op) r) (hs : OpS X.K r o) (ho' : OpR X (compareOp op') r') (hs' : OpS X.K r' o') (ha : SE X W a f) (hb : SE X W b g) (hc : SE X W c h) (hm : lastMarks [op, op'] [b, c] = false := by with_unfolding_all rfl) :
    ST X W (.Compare a [op, op'] [b, c] pos) (eB (e3c o o' f g h)) := pt_imp (pt_chain ho ho' ha hb hc hm) fun _ _ _ p => chain_of hs hs' (test_of p)
end
end RS

end
section
set_option Elab.async false
set_option linter.all false
set_option autoImplicit false
set_option maxRecDepth 100000
set_option maxHeartbeats 4000000
/-! RsMore: and, or, displays, items, slices, calls. -/
namespace RS
open PySem PySem.Spec PyProof.Rows L2
variable [LT]
section
variable {X : Cx} {W : WX} {a b c : Expr} {es : List Expr} {f g h : En → Sto → R U} {pos : Pos}

/-! and, or, not; one or the other -/
variable {p q : En → Sto → R Bool} {rest : List Expr}
def bAnd (p q : En → Sto → R Bool) (en : En) (M : Sto) : R Bool := (p en M).bind fun k M1 => if k = true then q en M1 else .ok false M1
def bOr (p q : En → Sto → R Bool) (en : En) (M : Sto) : R Bool := (p en M).bind fun k M1 => if k = true then .ok true M1 else q en M1
def bNot (p : En → Sto → R Bool) (en : En) (M : Sto) : R Bool := (p en M).bind fun k M1 => .ok (!k) M1
abbrev SW (X : Cx) (W : WX) (e : Expr) (f : En → Sto → R Bool) : Prop := PW X e (lT X.K W f)
theorem pw_imp {e : Expr} {t t' : TT} (h : PW X e t) (i : ∀ σ H Q, t' σ H Q → t σ H Q) : PW X e t' := ⟨fun wh pins s σ H Q I q => h.run wh pins s σ H Q I (i σ H Q q)⟩
theorem and_of {σ : L2.St} {H : Hp} {Q : Bool → Hp → Prop} (z : lT X.K W (bAnd p q) σ H Q) : tAnd (lT X.K W p) (lT X.K W q) σ H Q := by
  obtain ⟨ρ, M, en, re, rl, z⟩ := z
  refine ⟨ρ, M, en, re, rl, Pst.mono (fun k H1 y => ?_) (Pst.bind z)⟩
  obtain ⟨ρ1, M1, k1, e1, rl1, rfl, z1⟩ := y
  cases k with
  | true => rw [if_pos rfl] at z1 ⊢; exact ⟨ρ1, M1, en, re.ext e1, rl1, z1⟩
  | false => rw [if_neg Bool.false_ne_true] at z1 ⊢; exact z1.here rl1 rfl
theorem or_of {σ : L2.St} {H : Hp} {Q : Bool → Hp → Prop} (z : lT X.K W (bOr p q) σ H Q) : tOr (lT X.K W p) (lT X.K W q) σ H Q := by
  obtain ⟨ρ, M, en, re, rl, z⟩ := z
  refine ⟨ρ, M, en, re, rl, Pst.mono (fun k H1 y => ?_) (Pst.bind z)⟩
  obtain ⟨ρ1, M1, k1, e1, rl1, rfl, z1⟩ := y
  cases k with
  | true => rw [if_pos rfl] at z1 ⊢; exact z1.here rl1 rfl
  | false => rw [if_neg Bool.false_ne_true] at z1 ⊢; exact ⟨ρ1, M1, en, re.ext e1, rl1, z1⟩
theorem sw_and1 (ha : ST X W a p) : SW X W (.BoolOp .And [a] pos) p := pw_and1 ha
theorem sw_or1 (ha : ST X W a p) : SW X W (.BoolOp .Or [a] pos) p := pw_or1 ha
theorem sw_and (ha : ST X W a p) (hb : SW X W (.BoolOp .And (b :: rest) pos) q) : SW X W (.BoolOp .And (a :: b :: rest) pos) (bAnd p q) := pw_imp (pw_and ha hb) fun _ _ _ z => and_of z
theorem sw_or (ha : ST X W a p) (hb : SW X W (.BoolOp .Or (b :: rest) pos) q) : SW X W (.BoolOp .Or (a :: b :: rest) pos) (bOr p q) := pw_imp (pw_or ha hb) fun _ _ _ z => or_of z
theorem st_of (h : SW X W a p) : ST X W a p := h.pt
theorem st_not (ha : ST X W a p) : ST X W (.UnaryOp .Not a pos) (bNot p) := pt_imp (pt_not ha) fun σ H Q ⟨ρ, M, en, re, rl, z⟩ =>
  ⟨ρ, M, en, re, rl, Pst.mono (fun k H1 ⟨ρ1, M1, k1, e1, rl1, rk, z1⟩ => by cases rk; exact z1.here rl1 rfl) (Pst.bind z)⟩
/-- as values -/
def vAnd (f g : En → Sto → R U) (en : En) (M : Sto) : R U := (f en M).bind fun u M1 => match u with
  | .d (.bool true) => g en M1
  | .d (.bool false) => .ok (.d (.bool false)) M1
  | _ => .bad
def vOr (f g : En → Sto → R U) (en : En) (M : Sto) : R U := (f en M).bind fun u M1 => match u with
  | .d (.bool true) => .ok (.d (.bool true)) M1
  | .d (.bool false) => g en M1
  | _ => .bad
def vNot (f : En → Sto → R U) (en : En) (M : Sto) : R U := (f en M).bind fun u M1 => match u with
  | .d (.bool k) => .ok (.d (.bool (!k))) M1
  | _ => .bad
theorem se_one {op : BoolOp} (ha : SE X W a f) : SE X W (.BoolOp op [a] pos) f := pe_one ha
theorem se_and (ha : SE X W a f) (hb : SE X W (.BoolOp .And (b :: rest) pos) g) : SE X W (.BoolOp .And (a :: b :: rest) pos) (vAnd f g) :=
  pe_imp (pe_and ha hb) fun σ H Q ⟨ρ, M, en, re, rl, z⟩ => ⟨ρ, M, en, re, rl, Pst.mono (fun x H1 ⟨ρ1, M1, u, e1, rl1, ru, z1⟩ => by
    split at z1
    · exact ⟨true, ru, by rw [if_pos rfl]; exact ⟨ρ1, M1, en, re.ext e1, rl1, z1⟩⟩
    · exact ⟨false, ru, by rw [if_neg Bool.false_ne_true]; exact z1.here rl1 rfl⟩
    · exact z1.elim) (Pst.bind z)⟩
theorem se_or (ha : SE X W a f) (hb : SE X W (.BoolOp .Or (b :: rest) pos) g) : SE X W (.BoolOp .Or (a :: b :: rest) pos) (vOr f g) :=
  pe_imp (pe_or ha hb) fun σ H Q ⟨ρ, M, en, re, rl, z⟩ => ⟨ρ, M, en, re, rl, Pst.mono (fun x H1 ⟨ρ1, M1, u, e1, rl1, ru, z1⟩ => by
    split at z1
    · exact ⟨true, ru, by rw [if_pos rfl]; exact z1.here rl1 rfl⟩
    · exact ⟨false, ru, by rw [if_neg Bool.false_ne_true]; exact ⟨ρ1, M1, en, re.ext e1, rl1, z1⟩⟩
    · exact z1.elim) (Pst.bind z)⟩
theorem se_not (ha : SE X W a f) : SE X W (.UnaryOp .Not a pos) (vNot f) :=
  pe_imp (pe_not ha) fun σ H Q ⟨ρ, M, en, re, rl, z⟩ => ⟨ρ, M, en, re, rl, Pst.mono (fun x H1 ⟨ρ1, M1, u, e1, rl1, ru, z1⟩ => by
    split at z1
    · exact ⟨_, ru, z1.here rl1 rfl⟩
    · exact z1.elim) (Pst.bind z)⟩
def eIf (p : En → Sto → R Bool) (f g : En → Sto → R U) (en : En) (M : Sto) : R U := (p en M).bind fun k M1 => if k = true then f en M1 else g en M1
theorem se_if (hc : ST X W c p) (ha : SE X W a f) (hb : SE X W b g) : SE X W (.IfExp c a b pos) (eIf p f g) :=
  pe_imp (pe_ifExp hc ha hb) fun σ H Q ⟨ρ, M, en, re, rl, z⟩ => ⟨ρ, M, en, re, rl, Pst.mono (fun k H1 ⟨ρ1, M1, k1, e1, rl1, rk, z1⟩ => by
    cases rk
    cases k with
    | true => rw [if_pos rfl] at z1 ⊢; exact ⟨ρ1, M1, en, re.ext e1, rl1, z1⟩
    | false => rw [if_neg Bool.false_ne_true] at z1 ⊢; exact ⟨ρ1, M1, en, re.ext e1, rl1, z1⟩) (Pst.bind z)⟩

/-! argument lists -/
variable {fs : En → Sto → R (List U)}
def aNil (en : En) (M : Sto) : R (List U) := .ok [] M
def aCons (f : En → Sto → R U) (fs : En → Sto → R (List U)) (en : En) (M : Sto) : R (List U) := (f en M).bind fun u M1 => (fs en M1).bind fun us M2 => .ok (u :: us) M2
theorem paired_app {α β : Type} {F : α → β → Prop} : ∀ {xs ys : List α} {us vs : List β}, Paired F xs us → Paired F ys vs → Paired F (xs ++ ys) (us ++ vs)
  | _, _, _, _, .nil, h => h
  | _, _, _, _, .cons a t, h => .cons a (paired_app t h)
theorem paired_take {α β : Type} {F : α → β → Prop} : ∀ {xs : List α} {us : List β} (n : Nat), Paired F xs us → Paired F (xs.take n) (us.take n)
  | _, _, 0, _ => .nil
  | _, _, _ + 1, .nil => .nil
  | _, _, n + 1, .cons a t => .cons a (paired_take n t)
theorem paired_drop {α β : Type} {F : α → β → Prop} : ∀ {xs : List α} {us : List β} (n : Nat), Paired F xs us → Paired F (xs.drop n) (us.drop n)
  | _, _, 0, h => h
  | _, _, _ + 1, .nil => .nil
  | _, _, n + 1, .cons _ t => paired_drop n t
/-- the items of a tuple, of a list -/
def itemsU (M : Sto) : U → Option (List U)
  | .d (.tuple xs) => some (xs.map U.d)
  | .fz xs => some (xs.map U.d)
  | .r l => match M[l]? with
    | some (.lst us) => some us
    | _ => none
  | _ => none
def aStar (f : En → Sto → R U) (fs : En → Sto → R (List U)) (en : En) (M : Sto) : R (List U) := (f en M).bind fun u M1 => match itemsU M1 u with
  | some us => (fs en M1).bind fun vs M2 => .ok (us ++ vs) M2
  | none => .bad
theorem repDs_us {K : PySem.W.Frag} {H : Hp} {ρ : List Addr} : ∀ {xs : List PyData} {vs : List V}, RepDs K H xs vs → RepUs K H ρ vs (xs.map U.d)
  | [], _, h => by cases h; exact .nil
  | x :: xs, _, h => by
    obtain ⟨v, r, rfl, h1, h2⟩ := h
    exact .cons h1 (repDs_us h2)
theorem us_repDs {K : PySem.W.Frag} {H : Hp} {ρ : List Addr} : ∀ {xs : List PyData} {vs : List V}, RepUs K H ρ vs (xs.map U.d) → RepDs K H xs vs
  | [], _, h => by cases h; rfl
  | x :: xs, _, h => by
    cases h with
    | cons h1 h2 => exact ⟨_, _, rfl, h1, us_repDs h2⟩
theorem RepDs.length {K : PySem.W.Frag} {H : Hp} : ∀ {xs : List PyData} {vs : List V}, RepDs K H xs vs → vs.length = xs.length
  | [], _, h => by cases h; rfl
  | x :: xs, _, h => by
    obtain ⟨v, r, rfl, _, h2⟩ := h
    simp [RepDs.length h2]
theorem items_of {K : PySem.W.Frag} {H : Hp} {ρ : List Addr} {M : Sto} {v : V} {u : U} {us : List U} (rl : Rel K H ρ M) (ru : RepU K H ρ v u) (e : itemsU M u = some us) : ∃ p vs, v = .ref p ∧ (SqT K H p vs ∨ SqL K H p vs) ∧ RepUs K H ρ vs us := by
  unfold itemsU at e
  split at e
  · cases e
    obtain ⟨p, vs, e1, e2, e3⟩ := ru
    exact ⟨p, vs, e1, .inl e2, repDs_us e3⟩
  · cases e
    obtain ⟨p, vs, e1, e2, e3⟩ := ru
    exact ⟨p, vs, e1, .inr e3.sq, repDs_us e2⟩
  · split at e
    · rename_i l us' q
      cases e
      obtain ⟨p, e1, e2⟩ := ru
      obtain ⟨vs, e3, e4⟩ := rl.ob _ _ _ e1 q
      exact ⟨p, vs, e2, .inr (SqL.of e3), e4⟩
    · cases e
  · cases e
theorem sa_nil : SA X W [] aNil := pa_imp pa_nil fun σ H Q ⟨ρ, M, en, re, rl, z⟩ => z.here rl .nil
theorem sa_cons (ha : SE X W a f) (hr : SA X W es fs) (hs : starEach (a :: es) X.env = (false, eval a X.env) :: starEach es X.env := by rfl) : SA X W (a :: es) (aCons f fs) :=
  pa_imp (pa_cons ha hr hs) fun σ H Q ⟨ρ, M, en, re, rl, z⟩ => ⟨ρ, M, en, re, rl, Pst.mono (fun x H1 ⟨ρ1, M1, u, e1, rl1, ru, z1⟩ =>
    ⟨ρ1, M1, en, re.ext e1, rl1, Pst.mono (fun xs H2 ⟨ρ2, M2, us, e2, rl2, rus, z2⟩ => z2.here rl2 (.cons (ru.ext e2) rus)) (Pst.bind z1)⟩) (Pst.bind z)⟩
theorem sa_star {p1 : Pos} (ha : SE X W a f) (hr : SA X W es fs) (hs : starEach (.Starred a p1 :: es) X.env = (true, eval a X.env) :: starEach es X.env := by rfl) : SA X W (.Starred a p1 :: es) (aStar f fs) :=
  pa_imp (StX.pa_star ha hr hs) fun σ H Q ⟨ρ, M, en, re, rl, z⟩ => ⟨ρ, M, en, re, rl, Pst.mono (fun x H1 ⟨ρ1, M1, u, e1, rl1, ru, z1⟩ => by
    split at z1
    · rename_i us q
      obtain ⟨p, vs, h1, h2, h3⟩ := items_of rl1 ru q
      exact ⟨p, vs, h1, h2, ρ1, M1, en, re.ext e1, rl1, Pst.mono (fun xs H2 ⟨ρ2, M2, us2, e2, rl2, rus, z2⟩ => z2.here rl2 (paired_app (RepUs.ext e2 h3) rus)) (Pst.bind z1)⟩
    · exact z1.elim) (Pst.bind z)⟩

/-! displays -/
def asDs : List U → Option (List PyData)
  | [] => some []
  | .d x :: r => match asDs r with
    | some xs => some (x :: xs)
    | none => none
  | _ :: _ => none
theorem asDs_map : ∀ xs : List PyData, asDs (xs.map U.d) = some xs
  | [] => rfl
  | x :: xs => by
    show (match asDs (xs.map U.d) with | some ys => some (x :: ys) | none => none) = _
    rw [asDs_map xs]
theorem asDs_eq : ∀ {us : List U} {xs : List PyData}, asDs us = some xs → us = xs.map U.d
  | [], xs, h => by cases h; rfl
  | .d x :: r, xs, h => by
    have h : (match asDs r with | some ys => some (x :: ys) | none => none) = some xs := h
    split at h
    · rename_i ys q
      cases h
      rw [asDs_eq q] <;> rfl
    · cases h
  | .r _ :: _, _, h => by cases h
  | .fz _ :: _, _, h => by cases h
def eTup (fs : En → Sto → R (List U)) (en : En) (M : Sto) : R U := (fs en M).bind fun us M1 => match asDs us with
  | some xs => if xs.length ≤ sizeLine then .ok (.d (.tuple xs)) M1 else .bad
  | none => .bad
def eLst (fs : En → Sto → R (List U)) (en : En) (M : Sto) : R U := (fs en M).bind fun us M1 => if us.length ≤ sizeLine then .ok (.r M1.length) (M1 ++ [.lst us]) else .bad
theorem se_tup {x1} (ha : SA X W es fs) : SE X W (.Tuple es x1 pos) (eTup fs) :=
  pe_imp (pe_tup ha) fun σ H Q ⟨ρ, M, en, re, rl, z⟩ => ⟨ρ, M, en, re, rl, Pst.mono (fun vs H1 ⟨ρ1, M1, us, e1, rl1, rus, z1⟩ => by
    split at z1
    · rename_i xs q
      have := asDs_eq q
      subst this
      have rd := us_repDs rus
      split at z1
      · rename_i hz
        exact ⟨by rw [RepDs.length rd]; exact hz, fun p hp => z1.to (Ext.old hp) (rl1.old hp) ⟨p, vs, rfl, SqT.of upd_same, RepDs.ext (Ext.old (ρ := ρ1) hp) _ _ rd⟩⟩
      · exact z1.elim
    · exact z1.elim) (Pst.bind z)⟩
/-- a new list in the store -/
theorem new_list {K : PySem.W.Frag} {E : XK} {H : Hp} {ρ : List Addr} {M : Sto} {vs : List V} {us : List U} {Q : VK} (rl : Rel K H ρ M) (rus : RepUs K H ρ vs us) (z : Pst K E (RepU K) H ρ (.ok (.r M.length) (M ++ [.lst us])) Q) (p : Addr) (hp : H p = none) : Q (.ref p) (upd H p (.lst vs)) := by
  refine z.to (Ext.new hp) (rl.new hp ⟨vs, upd_same, rus.ext (Ext.new hp)⟩) ⟨p, ?_, rfl⟩
  rw [← rl.len, List.getElem?_append_right (Nat.le_refl _), Nat.sub_self]
  rfl
theorem se_lst (ha : SA X W es fs) : SE X W (.List es pos) (eLst fs) :=
  pe_imp (pe_lst ha) fun σ H Q ⟨ρ, M, en, re, rl, z⟩ => ⟨ρ, M, en, re, rl, Pst.mono (fun vs H1 ⟨ρ1, M1, us, e1, rl1, rus, z1⟩ => by
    split at z1
    · rename_i hz
      exact ⟨by rw [Paired.length rus]; exact hz, new_list rl1 rus z1⟩
    · exact z1.elim) (Pst.bind z)⟩

/-! items -/
theorem repUs_get {K : PySem.W.Frag} {H : Hp} {ρ : List Addr} : ∀ {vs : List V} {us : List U} {i : Nat} {u : U}, RepUs K H ρ vs us → us[i]? = some u → ∃ v, vs[i]? = some v ∧ RepU K H ρ v u
  | _, _, _, _, .nil, e => by simp at e
  | _, _, 0, _, .cons r _, e => by simp at e; subst e; exact ⟨_, rfl, r⟩
  | _, _, i + 1, u, .cons _ t, e => by
    obtain ⟨v, h1, h2⟩ := repUs_get (i := i) (u := u) t (by simpa using e)
    exact ⟨v, by simpa using h1, h2⟩
theorem repUs_at {K : PySem.W.Frag} {H : Hp} {ρ : List Addr} {vs : List V} {us : List U} {i : Int} {u : U} (h : RepUs K H ρ vs us) (e : atI us i = some u) : ∃ v, atI vs i = some v ∧ RepU K H ρ v u := by
  unfold atI at e ⊢
  rw [Paired.length h]
  cases q : ixN us.length i with
  | none => rw [q] at e; cases e
  | some j =>
    rw [q] at e
    exact repUs_get h e
/-- o[i] -/
def ixU (u v : U) (M : Sto) : R U := match u, v with
  | .d (.str z), .d (.int i) => if z.length ≤ sizeLine then (match atI z.cps.toList i with
    | some c => .ok (.d (.str ⟨#[c]⟩)) M
    | none => .bad) else .bad
  | u, .d (.int i) => match itemsU M u with
    | some us => (match atI us i with
      | some w => .ok w M
      | none => .bad)
    | none => .bad
  | _, _ => .bad
theorem ixU_ok (K : PySem.W.Frag) : OpS K (rIx K) ixU := by
  intro E H ρ M x y u v Q ru rv rl z
  unfold ixU at z
  split at z
  · split at z
    · split at z
      · rename_i z0 i hz _ c q
        exact .inr (.inr ⟨z0, i, c, ru, rv, hz, q, z.here rl rfl⟩)
      · exact z.elim
    · exact z.elim
  · rename_i i _
    split at z
    · rename_i us q
      split at z
      · rename_i w qw
        obtain ⟨p, vs, e1, e2, e3⟩ := items_of rl ru q
        obtain ⟨v2, e4, e5⟩ := repUs_at e3 qw
        rcases e2 with e2 | e2
        · exact .inr (.inl ⟨p, vs, i, v2, e1, rv, e2, e4, z.here rl e5⟩)
        · exact .inl ⟨p, vs, i, v2, e1, rv, e2, e4, z.here rl e5⟩
      · exact z.elim
    · exact z.elim
  · exact z.elim
theorem se_ix (ha : SE X W a f) (hb : SE X W b g) (hs : PlainIx b := by intro _ _; rfl) : SE X W (.Subscript a b pos) (e2 ixU f g) :=
  pe_imp (pe_ix ix_seq ha hb hs) fun _ _ _ z => two_of (ixU_ok _) z
end
end RS

end
section
set_option Elab.async false
set_option linter.all false
set_option autoImplicit false
set_option maxRecDepth 100000
set_option maxHeartbeats 4000000
/-! RsCall: slices, calls of defs and of what is built in, methods, comprehensions. -/
namespace RS
open PySem PySem.Spec PyProof.Rows L2
variable [LT]
section
variable {X : Cx} {W : WX} {a b c : Expr} {es : List Expr} {f g h : En → Sto → R U} {fs : En → Sto → R (List U)} {pos : Pos}

/-! slices -/
def lO (K : PySem.W.Frag) (W : WX) (f : En → Sto → R (Option Int)) : TO := fun σ H Q => ∃ ρ M en, EnR K H ρ σ en ∧ Rel K H ρ M ∧ Pst K (fun c d H' => W c d σ H') (fun _ _ b a => b = a) H ρ (f en M) Q
abbrev SO (X : Cx) (W : WX) (e : Option Expr) (f : En → Sto → R (Option Int)) : Prop := PO X e (lO X.K W f)
theorem po_imp {e : Option Expr} {t t' : TO} (h : PO X e t) (i : ∀ σ H Q, t' σ H Q → t σ H Q) : PO X e t' := ⟨fun pins s σ H Q I q => h.run pins s σ H Q I (i σ H Q q)⟩
def oNo (en : En) (M : Sto) : R (Option Int) := .ok none M
def oInt (f : En → Sto → R U) (en : En) (M : Sto) : R (Option Int) := (f en M).bind fun u M1 => match u with
  | .d (.int i) => .ok (some i) M1
  | _ => .bad
theorem so_none : SO X W none oNo := po_imp po_none fun σ H Q ⟨ρ, M, en, re, rl, z⟩ => z.here rl rfl
theorem so_some (ha : SE X W a f) : SO X W (some a) (oInt f) := po_imp (po_some ha) fun σ H Q ⟨ρ, M, en, re, rl, z⟩ => ⟨ρ, M, en, re, rl, Pst.mono (fun x H1 ⟨ρ1, M1, u, e1, rl1, ru, z1⟩ => by
  split at z1
  · exact ⟨_, ru, z1.here rl1 rfl⟩
  · exact z1.elim) (Pst.bind z)⟩
def cutL {α : Type} (xs : List α) (lo hi : Option Int) : List α := (xs.drop (HT.sIx xs.length 0 lo)).take (HT.sIx xs.length xs.length hi - HT.sIx xs.length 0 lo)
theorem cutL_map {α β : Type} (k : α → β) (xs : List α) (lo hi : Option Int) : cutL (xs.map k) lo hi = (cutL xs lo hi).map k := by
  unfold cutL
  rw [List.length_map, List.map_take, List.map_drop]
theorem paired_cut {K : PySem.W.Frag} {H : Hp} {ρ : List Addr} {vs : List V} {us : List U} (h : RepUs K H ρ vs us) (lo hi : Option Int) : RepUs K H ρ (cutV vs lo hi) (cutL us lo hi) := by
  unfold cutV cutL
  rw [Paired.length h]
  exact paired_take _ (paired_drop _ h)
def slU (u : U) (lo hi : Option Int) (M : Sto) : R U := match u with
  | .d (.str z) => if z.length ≤ sizeLine then .ok (.d (.str (cutS z lo hi))) M else .bad
  | .d (.tuple xs) => if HT.sIx xs.length 0 lo = 0 ∧ HT.sIx xs.length xs.length hi = xs.length then .bad else .ok (.d (.tuple (cutL xs lo hi))) M
  | .d _ => .bad
  | .r l => match M[l]? with
    | some (.lst us) => .ok (.r M.length) (M ++ [.lst (cutL us lo hi)])
    | _ => .bad
  | .fz xs => .ok (.r M.length) (M ++ [.lst (cutL (xs.map U.d) lo hi)])
def eSl (f : En → Sto → R U) (l u : En → Sto → R (Option Int)) (en : En) (M : Sto) : R U := (f en M).bind fun x M1 => (l en M1).bind fun lo M2 => (u en M2).bind fun hi M3 => slU x lo hi M3
def rSlA (K : PySem.W.Frag) : V → Option Int → Option Int → Hp → VK → Prop := fun x lo hi H Q => rSlT K x lo hi H Q ∨ (rSlL K x lo hi H Q ∨ rSlS x lo hi H Q)
theorem slU_ok {K : PySem.W.Frag} {E : XK} {H : Hp} {ρ : List Addr} {M : Sto} {x : V} {u : U} {lo hi : Option Int} {Q : VK} (rl : Rel K H ρ M) (ru : RepU K H ρ x u) (z : Pst K E (RepU K) H ρ (slU u lo hi M) Q) : rSlA K x lo hi H Q := by
  unfold slU at z
  split at z
  · split at z
    · rename_i hz
      exact .inr (.inr ⟨_, ru, hz, z.here rl rfl⟩)
    · exact z.elim
  · split at z
    · exact z.elim
    · rename_i xs hw
      obtain ⟨p, vs, e1, e2, e3⟩ := ru
      refine .inl ⟨p, vs, e1, e2, by rw [RepDs.length e3]; exact hw, fun q hq => z.to (Ext.old hq) (rl.old hq) ⟨q, _, rfl, SqT.of upd_same, ?_⟩⟩
      refine us_repDs (ρ := ρ) (RepUs.ext (Ext.old hq) ?_)
      rw [← cutL_map]
      exact paired_cut (repDs_us e3) lo hi
  · exact z.elim
  · split at z
    · rename_i us q
      obtain ⟨p', h1, h2⟩ := ru
      obtain ⟨vs', h5, h6⟩ := rl.ob _ _ _ h1 q
      exact .inr (.inl ⟨p', vs', h2, SqL.of h5, fun q hq => new_list rl (paired_cut h6 lo hi) z q hq⟩)
    · exact z.elim
  · obtain ⟨p', vs', h1, h2, h3⟩ := ru
    exact .inr (.inl ⟨p', vs', h1, h3.sq, fun q hq => new_list rl (paired_cut (repDs_us h2) lo hi) z q hq⟩)
theorem se_sl {lo hi : Option Expr} {l u : En → Sto → R (Option Int)} {p2 : Pos} (ha : SE X W a f) (hl : SO X W lo l) (hu : SO X W hi u) : SE X W (.Subscript a (.Slice lo hi none p2) pos) (eSl f l u) :=
  pe_imp (pe_slice (r := rSlA X.K) (sl_tup.or (sl_list.or sl_str)) ha hl hu) fun σ H Q ⟨ρ, M, en, re, rl, z⟩ => ⟨ρ, M, en, re, rl, Pst.mono (fun x H1 ⟨ρ1, M1, x1, e1, rl1, rx, z1⟩ =>
    ⟨ρ1, M1, en, re.ext e1, rl1, Pst.mono (fun lo H2 ⟨ρ2, M2, lo2, e2, rl2, rlo, z2⟩ =>
      ⟨ρ2, M2, en, re.ext (e1.trans e2), rl2, Pst.mono (fun hi H3 ⟨ρ3, M3, hi3, e3, rl3, rhi, z3⟩ => by
        subst rlo rhi
        exact slU_ok rl3 (rx.ext (e2.trans e3)) z3) (Pst.bind z2)⟩) (Pst.bind z1)⟩) (Pst.bind z)⟩

/-! defs of the text -/
/-- the promise of a def of n parameters: it does as C tells -/
def spF (K : PySem.W.Frag) (n : Nat) (C : List U → Sto → R U) : Sp := fun vs H Q E => vs.length = n ∧ ∃ ρ M us, RepUs K H ρ vs us ∧ Rel K H ρ M ∧ Pst K E (RepU K) H ρ (C us M) Q
def eCall (C : List U → Sto → R U) (fs : En → Sto → R (List U)) (n : Nat) (en : En) (M : Sto) : R U := (fs en M).bind fun us M1 => if us.length = n then C us M1 else .bad
theorem se_call {k n : Nat} {F : Addr} {fd : FuncData} {ps : List Str} {x : Str} {p : Pos} {C : List U → Sto → R U} (hF : FnOk X.prog X.w X.K X.mg X.base (L2.CX X.prog X.w) k F fd ps (spF X.K n C)) (tk : Takes X W) (hr : Room k X.A) (hg : Gl X x) (hm : X.mg x = some (.ref F)) (hk : PySem.W.keepIn X.K (.ref F) = true)
    (hb : Binds X.K fd ps []) (ha : SA X W (a :: es) fs) (hd : (x == ("__debug__" : Str)) = false := by decide) (he : starEach (a :: es) X.env = (false, eval a X.env) :: starEach es X.env := by rfl) (hpl : (backTo pos (starEach es X.env)).any (·.1) = false := by rfl) :
    SE X W (.Call (.Name x p) (a :: es) [] pos) (eCall C fs n) :=
  pe_imp (pe_callS (E := WE W) hF hr hg hm hk hb (passAt tk) ha hd he hpl) fun σ H Q ⟨ρ, M, en, re, rl, z⟩ => ⟨ρ, M, en, re, rl, Pst.mono (fun vs H1 ⟨ρ1, M1, us, e1, rl1, rus, z1⟩ => by
    split at z1
    · rename_i hn
      exact ⟨by rw [Paired.length rus]; exact hn, ρ1, M1, us, rus, rl1, z1⟩
    · exact z1.elim) (Pst.bind z)⟩

/-! what is built in -/
def CaS (K : PySem.W.Frag) (r : List V → Hp → VK → Prop) (o : List U → Sto → R U) : Prop := ∀ (E : XK) (H : Hp) (ρ : List Addr) (M : Sto) (vs : List V) (us : List U) (Q : VK), RepUs K H ρ vs us → Rel K H ρ M → Pst K E (RepU K) H ρ (o us M) Q → r vs H Q
def eB1 (o : List U → Sto → R U) (fs : En → Sto → R (List U)) (en : En) (M : Sto) : R U := (fs en M).bind fun us M1 => o us M1
theorem cb_of {r : List V → Hp → VK → Prop} {o : List U → Sto → R U} {σ : L2.St} {H : Hp} {Q : VK} (hs : CaS X.K r o) (z : lE X.K W (eB1 o fs) σ H Q) : tCB r (lA X.K W fs) σ H Q := by
  obtain ⟨ρ, M, en, re, rl, z⟩ := z
  exact ⟨ρ, M, en, re, rl, Pst.mono (fun vs H1 ⟨ρ1, M1, us, e1, rl1, rus, z1⟩ => hs _ H1 ρ1 M1 vs us Q rus rl1 z1) (Pst.bind z)⟩
theorem se_callB {r : List V → Hp → VK → Prop} {o : List U → Sto → R U} {x : Str} {id : String} {p : Pos} (hc : CallR X (.builtin id) r) (hs : CaS X.K r o) (hg : Gl X x) (hm : X.mg x = none) (hv : bootBuiltins x = some (.builtin id)) (ha : SA X W (a :: es) fs)
    (hn : x ≠ "__name__" := by decide) (hdb : (x == ("__debug__" : Str)) = false := by decide) (he : starEach (a :: es) X.env = (false, eval a X.env) :: starEach es X.env := by rfl) (hpl : (backTo pos (starEach es X.env)).any (·.1) = false := by rfl) :
    SE X W (.Call (.Name x p) (a :: es) [] pos) (eB1 o fs) := pe_imp (pe_callB hc hg hm hv ha hn hdb he hpl) fun _ _ _ z => cb_of hs z
theorem se_callTy {r : List V → Hp → VK → Prop} {o : List U → Sto → R U} {x : Str} {T : String} {p : Pos} (hc : CallR X (.type T) r) (hs : CaS X.K r o) (hg : Gl X x) (hm : X.mg x = none) (hv : bootBuiltins x = some (.type T)) (ha : SA X W (a :: es) fs)
    (hn : x ≠ "__name__" := by decide) (hdb : (x == ("__debug__" : Str)) = false := by decide) (he : starEach (a :: es) X.env = (false, eval a X.env) :: starEach es X.env := by rfl) (hpl : (backTo pos (starEach es X.env)).any (·.1) = false := by rfl) :
    SE X W (.Call (.Name x p) (a :: es) [] pos) (eB1 o fs) := pe_imp (pe_callTy hc hg hm hv ha hn hdb he hpl) fun _ _ _ z => cb_of hs z

/-! methods of lists -/
def MeS (K : PySem.W.Frag) (T : String) (r : V → List V → Hp → VK → Prop) (o : U → List U → Sto → R U) (ty : U → Sto → Bool) : Prop :=
  (∀ (H : Hp) (ρ : List Addr) (M : Sto) (v : V) (u : U), RepU K H ρ v u → Rel K H ρ M → ty u M = true → tyV K T v H) ∧
  ∀ (E : XK) (H : Hp) (ρ : List Addr) (M : Sto) (v : V) (u : U) (vs : List V) (us : List U) (Q : VK), RepU K H ρ v u → RepUs K H ρ vs us → Rel K H ρ M → Pst K E (RepU K) H ρ (o u us M) Q → r v vs H Q
def eM (ty : U → Sto → Bool) (o : U → List U → Sto → R U) (f : En → Sto → R U) (fs : En → Sto → R (List U)) (en : En) (M : Sto) : R U := (f en M).bind fun u M1 => if ty u M1 = true then (fs en M1).bind fun us M2 => o u us M2 else .bad
theorem se_bm {T id : String} {name : Str} {apos : Pos} {r : V → List V → Hp → VK → Prop} {o : U → List U → Sto → R U} {ty : U → Sto → Bool} {ob : Expr} (pa : PlainAttrs T) (slot : Slot T name id) (hty : typeOf (.builtin id) = pure (.type "method_descriptor")) (hm : MtR X id r) (hs : MeS X.K T r o ty) (ho : SE X W ob f) (ha : SA X W (a :: es) fs)
    (hbase : attributeBase ob name X.env (eval ob X.env) = eval ob X.env := by rfl)
    (hfew : ((backTo pos (starEach (a :: es) X.env)).all (fun x => !x.1) && (backToKw pos (keywordEach [] X.env)).all (fun x => x.1.isSome)
      && decide ((a :: es).length + ([] : List Keyword).length + (if ([] : List Keyword).isEmpty then 0 else 1) < 30)) = true := by rfl)
    (hline : (apos.endLine == pos.line) = true := by rfl) (he : starEach (a :: es) X.env = (false, eval a X.env) :: starEach es X.env := by rfl) (hpl : (backTo pos (starEach es X.env)).any (·.1) = false := by rfl) :
    SE X W (.Call (.Attribute ob name apos) (a :: es) [] pos) (eM ty o f fs) :=
  pe_imp (pe_bm pa slot hty hm ho ha hbase hfew hline he hpl) fun σ H Q ⟨ρ, M, en, re, rl, z⟩ => ⟨ρ, M, en, re, rl, Pst.mono (fun v H1 ⟨ρ1, M1, u, e1, rl1, ru, z1⟩ => by
    split at z1
    · rename_i ht
      exact ⟨hs.1 _ _ _ _ _ ru rl1 ht, ρ1, M1, en, re.ext e1, rl1, Pst.mono (fun vs H2 ⟨ρ2, M2, us, e2, rl2, rus, z2⟩ => hs.2 _ _ _ _ _ _ _ _ _ (ru.ext e2) rus rl2 z2) (Pst.bind z1)⟩
    · exact z1.elim) (Pst.bind z)⟩
def eM0 (ty : U → Sto → Bool) (o : U → List U → Sto → R U) (f : En → Sto → R U) (en : En) (M : Sto) : R U := (f en M).bind fun u M1 => if ty u M1 = true then o u [] M1 else .bad
theorem se_bm0 {T id : String} {name : Str} {apos : Pos} {r : V → List V → Hp → VK → Prop} {o : U → List U → Sto → R U} {ty : U → Sto → Bool} {ob : Expr} (pa : PlainAttrs T) (slot : Slot T name id) (hty : typeOf (.builtin id) = pure (.type "method_descriptor")) (hm : MtR X id r) (hs : MeS X.K T r o ty) (ho : SE X W ob f)
    (hbase : attributeBase ob name X.env (eval ob X.env) = eval ob X.env := by rfl) (hline : (apos.endLine == pos.line) = true := by rfl) : SE X W (.Call (.Attribute ob name apos) [] [] pos) (eM0 ty o f) :=
  pe_imp (pe_bm0 pa slot hty hm ho hbase hline) fun σ H Q ⟨ρ, M, en, re, rl, z⟩ => ⟨ρ, M, en, re, rl, Pst.mono (fun v H1 ⟨ρ1, M1, u, e1, rl1, ru, z1⟩ => by
    split at z1
    · rename_i ht
      exact ⟨hs.1 _ _ _ _ _ ru rl1 ht, hs.2 _ _ _ _ _ _ _ _ _ ru .nil rl1 z1⟩
    · exact z1.elim) (Pst.bind z)⟩
end
end RS

end
section
set_option Elab.async false
set_option linter.all false
set_option autoImplicit false
set_option maxRecDepth 100000
set_option maxHeartbeats 4000000
/-! RsOps: operators, comparisons, what is built in, by values. -/
namespace RS
open PySem PySem.Spec PyProof.Rows L2
variable [LT]

/-! ### a tuple once, or not at all -/
theorem tup_once (l : Addr) (items : Array Value) (n : Nat) (dd : Option Addr) (sl : Array (Option Value)) (x : Int) (u : Tok) (hx : x = 1) :
    Meets (Builtin.«tuple.__mul__» ⟨[.ref l, .int x u], []⟩) (fun _ Z s => s.heap.get? l = some { cls := .type "tuple", dict := dd, data := .seq items n, slots := sl } ∧ Z (.ok (.ret (Value.ref l))) s) :=
  .of_wp fun prog w A Z s h => by
    obtain ⟨hp, g, d, tk, os⟩ := s
    obtain ⟨hl, h⟩ := h
    have f1 := AutoSeq1.idx_int
    subst hx
    wp_walk using wpAny_loadPart' hl
    exact ⟨_, rfl, h⟩
theorem tup_never (l : Addr) (items : Array Value) (n : Nat) (dd : Option Addr) (sl : Array (Option Value)) (x : Int) (u : Tok) (c0 : (decide (x < -(2 ^ 63)) || decide (x ≥ 2 ^ 63)) = false) (c1 : (items.isEmpty || x == 1) = false) (c2 : (decide (x ≤ 0) || items.isEmpty) = true) :
    Meets (Builtin.«tuple.__mul__» ⟨[.ref l, .int x u], []⟩) (fun _ Z s => s.heap.get? l = some { cls := .type "tuple", dict := dd, data := .seq items n, slots := sl } ∧
      Z (.ok (.ret (Value.ref s.heap.objs.size))) { s with heap := s.heap.push { cls := Value.type "tuple", data := Data.seq #[] }, toks := s.toks }) :=
  .of_wp fun prog w A Z s h => by
    obtain ⟨hp, g, d, tk, os⟩ := s
    obtain ⟨hl, h⟩ := h
    have f1 := AutoSeq1.idx_int
    wp_walk using wpAny_loadPart' hl
    repeat (first
      | (refine wpAny_ite_false (decide_eq_false (by rw [c0]; exact Bool.false_ne_true)) ?_; wp_walk using wpAny_loadPart' hl)
      | (refine wpAny_ite_false (decide_eq_false (by rw [c1]; exact Bool.false_ne_true)) ?_; wp_walk using wpAny_loadPart' hl)
      | (refine wpAny_ite_true (decide_eq_true (by rw [c2])) ?_; wp_walk using wpAny_loadPart' hl))
    exact ⟨_, rfl, h⟩
/-- t * n by n -/
def rMulT (K : PySem.W.Frag) : R2 := fun x y H Q => ∃ l k xs, x = .ref l ∧ y = .int k ∧ SqT K H l xs ∧ xs ≠ [] ∧ xs.length ≤ 1000 ∧ -(2 ^ 63) ≤ k ∧ k ≤ 1000 ∧ (k = 1 → Q (.ref l) H) ∧ (k ≠ 1 → ∀ p, H p = none → Q (.ref p) (upd H p (.tup (List.replicate k.toNat xs).flatten)))
section
variable {X : Cx}
theorem op_mulT : OpR X (binaryOp .Mult) (rMulT X.K) := by
  intro pins s σ H x y v u Q I rx ry h
  obtain ⟨l, k, xs, rfl, rfl, hT, hne, hz, h1, h2, q1, q2⟩ := h
  by_cases h3 : 2 ≤ k
  · exact op_repT pins s σ H _ _ v u Q I rx ry ⟨l, k, xs, rfl, rfl, hT, hne, h3, h2, hz, q2 (by omega)⟩
  cases rx
  obtain ⟨t, rfl⟩ := ry
  obtain ⟨its, r, ⟨⟨cls, dd, data, sl⟩, ho, hc, n, hd⟩, hs⟩ := I.tuple hT
  simp only at hc hd
  subst hc hd
  have hn : its ≠ [] := fun e => hne (by
    have := r.length
    rw [e] at this
    exact List.eq_nil_of_length_eq_zero this)
  have hi : its.toArray.isEmpty = false := by
    cases its with
    | nil => exact absurd rfl hn
    | cons a b => rfl
  refine wpAny_binaryOp_repeat_ref (T := "tuple") (U := "int") (by decide) ⟨_, ho, rfl⟩ (fun s' => typeIs_int s' k t) noFill_tuple_mul F.fills_int_mul F.slot_int_rmul repeat_tuple F.slot_int_index.lookup
    (call_meets F.slot_int_rmul (typeIs_int s k t) F.entry_int_rmul (F.args_int_rmul_2 _ _) (int_rmul_tuple k t l its.toArray n dd sl) ⟨ho, rfl, ⟨_, ho, rfl⟩, ?_⟩)
  by_cases h4 : k = 1
  · exact call_meets F.slot_tuple_mul ⟨_, ho, rfl⟩ F.entry_tuple_mul (F.args_tuple_mul_2 _ _) (tup_once l its.toArray n dd sl k t h4) ⟨ho, .ref l, H, I, rfl, q1 h4⟩
  · have c0 : (decide (k < -(2 ^ 63)) || decide (k ≥ 2 ^ 63)) = false := by
      rw [decide_eq_false (by omega), decide_eq_false (by omega)] <;> rfl
    have c1 : (its.toArray.isEmpty || k == 1) = false := by
      rw [hi, Bool.false_or]
      exact beq_eq_false_iff_ne.mpr h4
    have c2 : (decide (k ≤ 0) || its.toArray.isEmpty) = true := by
      rw [hi, Bool.or_false]
      exact decide_eq_true (by omega)
    have e0 : (List.replicate k.toNat xs).flatten = [] := by
      have : k.toNat = 0 := by omega
      rw [this] <;> rfl
    refine call_meets F.slot_tuple_mul ⟨_, ho, rfl⟩ F.entry_tuple_mul (F.args_tuple_mul_2 _ _) (tup_never l its.toArray n dd sl k t c0 c1 c2) ⟨ho, ?_⟩
    refine ⟨.ref s.heap.objs.size, _, I.laid (t' := s.toks) (o := .tup (List.replicate k.toNat xs).flatten) (fun b ob q => Heap.get?_push_of_some _ q) (Nat.le_refl _) ?_, rfl, q2 h4 _ (I.hok.fresh (Nat.le_refl _))⟩
    rw [e0]
    exact ⟨Nat.zero_le _, [], .nil, IsTup.new _ _⟩
end

/-! ### arithmetic -/
section
variable {K : PySem.W.Frag} {X : Cx}
def addU (u v : U) (M : Sto) : R U := match u, v with
  | .d (.int i), .d (.int j) => .ok (.d (.int (i + j))) M
  | .d (.str x), .d (.str y) => if x.length + y.length ≤ sizeLine then .ok (.d (.str (x ++ y))) M else .bad
  | .d (.tuple xs), .d (.tuple ys) => if xs ≠ [] ∧ xs.length + ys.length ≤ sizeLine then .ok (.d (.tuple (xs ++ ys))) M else .bad
  | .r l, .r k => match M[l]?, M[k]? with
    | some (.lst us), some (.lst vs) => if us.length + vs.length ≤ sizeLine then .ok (.r M.length) (M ++ [.lst (us ++ vs)]) else .bad
    | _, _ => .bad
  | _, _ => .bad
def rStrAdd : R2 := fun x y H Q => ∃ i j, x = .str i ∧ y = .str j ∧ i.length + j.length ≤ sizeLine ∧ Q (.str (i ++ j)) H
def rAddA (K : PySem.W.Frag) : R2 := fun x y H Q => rI0 (fun i j => .int (i + j)) x y H Q ∨ (rStrAdd x y H Q ∨ (rCatT K x y H Q ∨ rCat x y H Q))
theorem op_addA : OpR X (binaryOp .Add) (rAddA X.K) := op_add.or (OpR.or op_add_str (op_catT.or op_cat))
theorem addU_ok : OpS K (rAddA K) addU := by
  intro E H ρ M x y u v Q ru rv rl z
  unfold addU at z
  split at z
  · exact .inl ⟨_, _, ru, rv, z.here rl rfl⟩
  · split at z
    · rename_i hz
      exact .inr (.inl ⟨_, _, ru, rv, hz, z.here rl rfl⟩)
    · exact z.elim
  · split at z
    · rename_i xs ys hz
      obtain ⟨p, vs, e1, e2, e3⟩ := ru
      obtain ⟨q, ws, e4, e5, e6⟩ := rv
      have l1 := RepDs.length e3
      have l2 := RepDs.length e6
      have ht : RepDs K H (xs ++ ys) (vs ++ ws) := us_repDs (ρ := ρ) (by rw [List.map_append]; exact paired_app (repDs_us e3) (repDs_us e6))
      refine .inr (.inr (.inl ⟨p, q, vs, ws, e1, e4, e2, e5, fun e => hz.1 ?_, by omega, fun e => ?_, fun _ p' hp => z.to (Ext.old hp) (rl.old hp) ⟨p', _, rfl, SqT.of upd_same, RepDs.ext (Ext.old (ρ := ρ) hp) _ _ ht⟩⟩))
      · rw [e] at l1; exact List.eq_nil_of_length_eq_zero l1.symm
      · have : ys = [] := by rw [e] at l2; exact List.eq_nil_of_length_eq_zero l2.symm
        subst this
        subst e
        refine z.here rl ⟨p, vs, rfl, e2, ?_⟩
        rw [List.append_nil]
        exact e3
    · exact z.elim
  · split at z
    · rename_i h1 h2
      split at z
      · rename_i hz
        obtain ⟨p, e1, e2⟩ := ru
        obtain ⟨q, e4, e5⟩ := rv
        obtain ⟨vs, e6, e7⟩ := rl.ob _ _ _ e1 h1
        obtain ⟨ws, e8, e9⟩ := rl.ob _ _ _ e4 h2
        have l1 := Paired.length e7
        have l2 := Paired.length e9
        exact .inr (.inr (.inr ⟨p, q, vs, ws, e2, e5, e6, e8, by omega, fun p' hp => new_list rl (paired_app e7 e9) z p' hp⟩))
      · exact z.elim
    · exact z.elim
  · exact z.elim
/-- of two ints -/
def intU (C : Int → Int → Bool) (g : Int → Int → PyData) (u v : U) (M : Sto) : R U := match u, v with
  | .d (.int i), .d (.int j) => if C i j = true then .ok (.d (g i j)) M else .bad
  | _, _ => .bad
theorem intU_ok {C : Int → Int → Bool} {CP : Int → Int → Prop} {g : Int → Int → PyData} {gV : Int → Int → V} (hC : ∀ i j, C i j = true → CP i j) (hg : ∀ H i j, RepD K H (g i j) (gV i j)) : OpS K (rI CP gV) (intU C g) := by
  intro E H ρ M x y u v Q ru rv rl z
  unfold intU at z
  split at z
  · split at z
    · rename_i hz
      exact ⟨_, _, ru, rv, hC _ _ hz, z.here rl (hg _ _ _)⟩
    · exact z.elim
  · exact z.elim
def intU0 (g : Int → Int → PyData) (u v : U) (M : Sto) : R U := match u, v with
  | .d (.int i), .d (.int j) => .ok (.d (g i j)) M
  | _, _ => .bad
theorem intU0_ok {g : Int → Int → PyData} {gV : Int → Int → V} (hg : ∀ H i j, RepD K H (g i j) (gV i j)) : OpS K (rI0 gV) (intU0 g) := by
  intro E H ρ M x y u v Q ru rv rl z
  unfold intU0 at z
  split at z
  · exact ⟨_, _, ru, rv, z.here rl (hg _ _ _)⟩
  · exact z.elim
abbrev subU : U → U → Sto → R U := intU0 fun i j => .int (i - j)
abbrev fdivU : U → U → Sto → R U := intU (fun i j => j != 0 && decide (j.natAbs < 1073741824)) fun i j => .int (i.fdiv j)
abbrev modU : U → U → Sto → R U := intU (fun i j => j != 0) fun i j => .int (i.fmod j)
abbrev powU : U → U → Sto → R U := intU (fun i j => decide (0 ≤ j) && (decide (j ≤ 1000000) && decide (i.natAbs < 2 ^ 64))) fun i j => .int (i ^ j.toNat)
theorem subU_ok : OpS K (rI0 fun i j => .int (i - j)) subU := intU0_ok fun _ _ _ => rfl
theorem fdivU_ok : OpS K (rI CDivN fun i j => .int (i.fdiv j)) fdivU := intU_ok (fun i j h => by simpa [CDivN] using h) fun _ _ _ => rfl
theorem modU_ok : OpS K (rI (fun _ j => j ≠ 0) fun i j => .int (i.fmod j)) modU := intU_ok (fun i j h => by simpa using h) fun _ _ _ => rfl
theorem powU_ok : OpS K (rI CPow fun i j => .int (i ^ j.toNat)) powU := intU_ok (fun i j h => by simpa [CPow] using h) fun _ _ _ => rfl
def small64 (i : Int) : Bool := decide (-(2 ^ 64) < i) && decide (i < 2 ^ 64)
def mulU (u v : U) (M : Sto) : R U := match u, v with
  | .d (.int i), .d (.int j) => if (small64 i || small64 j) = true then .ok (.d (.int (i * j))) M else .bad
  | .d (.tuple xs), .d (.int k) => if xs ≠ [] ∧ xs.length ≤ 1000 ∧ -1000 ≤ k ∧ k ≤ 1000 then .ok (.d (.tuple (List.replicate k.toNat xs).flatten)) M else .bad
  | .r l, .d (.int k) => match M[l]? with
    | some (.lst us) => if -1000 ≤ k ∧ k ≤ 1000 ∧ us.length ≤ 1000 then .ok (.r M.length) (M ++ [.lst (List.replicate k.toNat us).flatten]) else .bad
    | _ => .bad
  | _, _ => .bad
def rMulA (K : PySem.W.Frag) : R2 := fun x y H Q => rI CMul (fun i j => .int (i * j)) x y H Q ∨ (rMulT K x y H Q ∨ rRep x y H Q)
theorem op_mulA : OpR X (binaryOp .Mult) (rMulA X.K) := op_mul.or (op_mulT.or op_rep)
theorem paired_rep {α β : Type} {F : α → β → Prop} {xs : List α} {us : List β} (h : Paired F xs us) : ∀ k : Nat, Paired F (List.replicate k xs).flatten (List.replicate k us).flatten
  | 0 => .nil
  | k + 1 => by
    rw [List.replicate_succ, List.replicate_succ, List.flatten_cons, List.flatten_cons]
    exact paired_app h (paired_rep h k)
theorem mulU_ok : OpS K (rMulA K) mulU := by
  intro E H ρ M x y u v Q ru rv rl z
  unfold mulU at z
  split at z
  · split at z
    · rename_i hz
      refine .inl ⟨_, _, ru, rv, ?_, z.here rl rfl⟩
      simpa [small64, CMul] using hz
    · exact z.elim
  · split at z
    · rename_i xs k hz
      obtain ⟨p, vs, e1, e2, e3⟩ := ru
      have l1 := RepDs.length e3
      have hr : RepDs K H (List.replicate k.toNat xs).flatten (List.replicate k.toNat vs).flatten := us_repDs (ρ := ρ) (by
        have := paired_rep (repDs_us (ρ := ρ) e3) k.toNat
        rw [← List.map_replicate, ← List.map_flatten] at this
        exact this)
      refine .inr (.inl ⟨p, k, vs, e1, rv, e2, fun e => hz.1 ?_, by omega, by omega, by omega, fun e => ?_, fun _ p' hp => z.to (Ext.old hp) (rl.old hp) ⟨p', _, rfl, SqT.of upd_same, RepDs.ext (Ext.old (ρ := ρ) hp) _ _ hr⟩⟩)
      · rw [e] at l1; exact List.eq_nil_of_length_eq_zero l1.symm
      · subst e
        have h1 : (List.replicate (1 : Int).toNat vs).flatten = vs := by simp
        rw [h1] at hr
        exact z.here rl ⟨p, vs, rfl, e2, hr⟩
    · exact z.elim
  · split at z
    · rename_i h1
      split at z
      · rename_i hz
        obtain ⟨p, e1, e2⟩ := ru
        obtain ⟨vs, e6, e7⟩ := rl.ob _ _ _ e1 h1
        have l1 := Paired.length e7
        refine .inr (.inr ⟨p, _, vs, e2, rv, e6, by omega, by omega, ?_, fun p' hp => new_list rl (paired_rep e7 _) z p' hp⟩)
        rw [l1, sizeLine_eq]
        refine Nat.le_trans (Nat.mul_le_mul hz.2.2 (Int.toNat_le.mpr hz.2.1)) (by decide)
      · exact z.elim
    · exact z.elim
  · exact z.elim
def negU (u : U) (M : Sto) : R U := match u with
  | .d (.int i) => .ok (.d (.int (-i))) M
  | _ => .bad
def e1 (o : U → Sto → R U) (f : En → Sto → R U) (en : En) (M : Sto) : R U := (f en M).bind fun u M1 => o u M1
theorem se_neg {W : WX} {a : Expr} {f : En → Sto → R U} {pos : Pos} (ha : SE X W a f) : SE X W (.UnaryOp .USub a pos) (e1 negU f) :=
  pe_imp (pe_un un_neg ha) fun σ H Q ⟨ρ, M, en, re, rl, z⟩ => ⟨ρ, M, en, re, rl, Pst.mono (fun x H1 ⟨ρ1, M1, u, e1, rl1, ru, z1⟩ => by
    unfold negU at z1
    split at z1
    · exact ⟨_, ru, z1.here rl1 rfl⟩
    · exact z1.elim) (Pst.bind z)⟩

/-! ### comparisons -/
abbrev ltU : U → U → Sto → R U := intU0 fun i j => .bool (decide (i < j))
abbrev leU : U → U → Sto → R U := intU0 fun i j => .bool (decide (i ≤ j))
abbrev gtU : U → U → Sto → R U := intU0 fun i j => .bool (decide (j < i))
abbrev geU : U → U → Sto → R U := intU0 fun i j => .bool (decide (j ≤ i))
theorem ltU_ok : OpS K (rI0 fun i j => .bl (decide (i < j))) ltU := intU0_ok fun _ _ _ => rfl
theorem leU_ok : OpS K (rI0 fun i j => .bl (decide (i ≤ j))) leU := intU0_ok fun _ _ _ => rfl
theorem gtU_ok : OpS K (rI0 fun i j => .bl (decide (j < i))) gtU := intU0_ok fun _ _ _ => rfl
theorem geU_ok : OpS K (rI0 fun i j => .bl (decide (j ≤ i))) geU := intU0_ok fun _ _ _ => rfl
/-- a value as data, its lists as they stand -/
def snap : Nat → Sto → U → Option PyData
  | _, _, .d x => some x
  | _, _, .fz xs => some (.list xs)
  | 0, _, .r _ => none
  | n + 1, M, .r l => match M[l]? with
    | some (.lst us) => (us.mapM (snap n M)).map .list
    | _ => none
mutual
theorem RepD.dp {H : Hp} : ∀ (x : PyData) (v : V), RepD K H x v → Dp K H v x
  | .none, _, h => by cases h; exact .non
  | .bool _, _, h => by cases h; exact .bl _
  | .int _, _, h => by cases h; exact .int _
  | .str _, _, h => by cases h; exact .str _
  | .tuple ds, v, h => by
    obtain ⟨a, vs, rfl, e2, e3⟩ := h
    exact .tup e2 (RepDs.dp ds vs e3)
  | .list _, _, h => h.elim
  | .dict _, _, h => h.elim
theorem RepDs.dp {H : Hp} : ∀ (xs : List PyData) (vs : List V), RepDs K H xs vs → DpAll K H vs xs
  | [], _, h => by cases h; exact .nil
  | x :: xs, vs, h => by
    obtain ⟨v, r, rfl, e2, e3⟩ := h
    exact .cons (RepD.dp x v e2) (RepDs.dp xs r e3)
end
theorem mapM_dp {H : Hp} {ρ : List Addr} {g : U → Option PyData} (hg : ∀ v u x, RepU K H ρ v u → g u = some x → Dp K H v x) : ∀ {vs : List V} {us : List U} {xs : List PyData}, RepUs K H ρ vs us → us.mapM g = some xs → DpAll K H vs xs
  | _, _, _, .nil, h => by
    simp at h
    subst h
    exact .nil
  | v :: vs, u :: us, xs, .cons r t, h => by
    rw [List.mapM_cons] at h
    cases q : g u with
    | none => rw [q] at h; cases h
    | some x =>
      rw [q] at h
      cases q2 : us.mapM g with
      | none =>
        rw [q2] at h
        cases h
      | some ys =>
        rw [q2] at h
        have h : some (x :: ys) = some xs := h
        cases h
        exact .cons (hg v u x r q) (mapM_dp hg t q2)
theorem snap_ok {H : Hp} {ρ : List Addr} {M : Sto} (rl : Rel K H ρ M) : ∀ (n : Nat) (v : V) (u : U) (x : PyData), RepU K H ρ v u → snap n M u = some x → Dp K H v x
  | _, v, .d y, x, r, h => by
    cases (show some y = some x by unfold snap at h; exact h)
    exact RepD.dp _ _ r
  | _, v, .fz ys, x, r, h => by
    cases (show some (PyData.list ys) = some x by unfold snap at h; exact h)
    obtain ⟨a, vs, rfl, e2, e3⟩ := r
    exact .lst e3.sq (RepDs.dp _ _ e2)
  | 0, v, .r l, x, r, h => by cases h
  | n + 1, v, .r l, x, r, h => by
    unfold snap at h
    split at h
    · rename_i us q
      obtain ⟨a, e1, rfl⟩ := r
      obtain ⟨vs, e3, e4⟩ := rl.ob _ _ _ e1 q
      cases q2 : us.mapM (snap n M) with
      | none => rw [q2] at h; cases h
      | some xs =>
        rw [q2] at h
        have h : some (PyData.list xs) = some x := h
        cases h
        exact .lst (SqL.of e3) (mapM_dp (fun v u x r q => snap_ok rl n v u x r q) e4 q2)
    · cases h
def eqU' (neg : Bool) (u v : U) (M : Sto) : R U := match snap 4 M u, snap 4 M v with
  | some x, some y => if (SeqAt.shaped x && SeqAt.shaped y) = true then .ok (.d (.bool (if neg = true then !PyData.eqv x y else PyData.eqv x y))) M else .bad
  | _, _ => .bad
theorem eqU_ok : OpS K (rEqD K) (eqU' false) := by
  intro E H ρ M x y u v Q ru rv rl z
  unfold eqU' at z
  split at z
  · rename_i a b h1 h2
    split at z
    · rename_i hz
      rw [Bool.and_eq_true] at hz
      exact ⟨a, b, snap_ok rl _ _ _ _ ru h1, snap_ok rl _ _ _ _ rv h2, hz.1, hz.2, z.here rl rfl⟩
    · exact z.elim
  · exact z.elim
theorem neU_ok : OpS K (rNeD K) (eqU' true) := by
  intro E H ρ M x y u v Q ru rv rl z
  unfold eqU' at z
  split at z
  · rename_i a b h1 h2
    split at z
    · rename_i hz
      rw [Bool.and_eq_true] at hz
      exact ⟨a, b, snap_ok rl _ _ _ _ ru h1, snap_ok rl _ _ _ _ rv h2, hz.1, hz.2, z.here rl rfl⟩
    · exact z.elim
  · exact z.elim
/-- is None -/
def isNone : U → Bool
  | .d .none => true
  | _ => false
def isU (neg : Bool) (u v : U) (M : Sto) : R U := match v with
  | .d .none => .ok (.d (.bool (if neg = true then !isNone u else isNone u))) M
  | _ => .bad
theorem isNone_ok {H : Hp} {ρ : List Addr} {v : V} : ∀ {u : U}, RepU K H ρ v u → isNone u = decide (v = .non)
  | .d .none, h => by cases h; rfl
  | .d (.bool _), h => by cases h; rfl
  | .d (.int _), h => by cases h; rfl
  | .d (.str _), h => by cases h; rfl
  | .d (.tuple _), h => by obtain ⟨_, _, rfl, _⟩ := h; rfl
  | .d (.list _), h => h.elim
  | .d (.dict _), h => h.elim
  | .r _, h => by obtain ⟨_, _, rfl⟩ := h; rfl
  | .fz _, h => by obtain ⟨_, _, rfl, _⟩ := h; rfl
theorem isU_ok : OpS K (fun x y H Q => y = .non ∧ Q (.bl (decide (x = .non))) H) (isU false) := by
  intro E H ρ M x y u v Q ru rv rl z
  unfold isU at z
  split at z
  · exact ⟨rv, by rw [← isNone_ok ru]; exact z.here rl rfl⟩
  · exact z.elim
theorem notU_ok : OpS K (fun x y H Q => y = .non ∧ Q (.bl (!decide (x = .non))) H) (isU true) := by
  intro E H ρ M x y u v Q ru rv rl z
  unfold isU at z
  split at z
  · exact ⟨rv, by rw [← isNone_ok ru]; exact z.here rl rfl⟩
  · exact z.elim
/-- in a tuple or list of flat things -/
def flatD : PyData → Bool
  | .none | .bool _ | .int _ | .str _ => true
  | _ => false
def inU (neg : Bool) (u v : U) (M : Sto) : R U := match u, itemsU M v with
  | .d x, some us => match asDs us with
    | some xs => if (flatD x && xs.all flatD) = true then .ok (.d (.bool (if neg = true then !xs.any (fun y => PyData.eqv y x) else xs.any (fun y => PyData.eqv y x)))) M else .bad
    | none => .bad
  | _, _ => .bad
theorem flat_rep {H : Hp} {v : V} : ∀ {x : PyData}, RepD K H x v → flatD x = true → flatV v = true
  | .none, h, _ => by cases h; rfl
  | .bool _, h, _ => by cases h; rfl
  | .int _, h, _ => by cases h; rfl
  | .str _, h, _ => by cases h; rfl
  | .tuple _, _, h => by cases h
  | .list _, h, _ => h.elim
  | .dict _, h, _ => h.elim
theorem eqV_eqv {H : Hp} {v w : V} : ∀ {x y : PyData}, RepD K H x v → RepD K H y w → flatD x = true → flatD y = true → eqV v w = PyData.eqv x y := by
  intro x y hx hy fx fy
  cases x <;> (first | cases fx | skip) <;> cases y <;> (first | cases fy | skip) <;> cases hx <;> cases hy <;> simp [eqV, PyData.eqv]
theorem any_rep {H : Hp} {w : V} {y : PyData} (hy : RepD K H y w) (fy : flatD y = true) : ∀ {xs : List PyData} {vs : List V}, RepDs K H xs vs → xs.all flatD = true → vs.all flatV = true ∧ inV w vs = xs.any (fun x => PyData.eqv x y)
  | [], _, h, _ => by cases h; exact ⟨rfl, rfl⟩
  | x :: xs, _, h, f => by
    obtain ⟨v, r, rfl, h1, h2⟩ := h
    rw [List.all_cons, Bool.and_eq_true] at f
    obtain ⟨a1, a2⟩ := any_rep hy fy h2 f.2
    unfold inV at a2 ⊢
    rw [List.all_cons, List.any_cons, List.any_cons, a1, a2, flat_rep h1 f.1, eqV_eqv h1 hy f.1 fy]
    exact ⟨rfl, rfl⟩
theorem inU_all (neg : Bool) : OpS K (rIn K neg) (inU neg) := by
  intro E H ρ M x y u v Q ru rv rl z
  unfold inU at z
  split at z
  · rename_i d us h1
    split at z
    · rename_i xs h2
      have := asDs_eq h2
      subst this
      split at z
      · rename_i hz
        rw [Bool.and_eq_true] at hz
        obtain ⟨p, vs, e1, e2, e3⟩ := items_of rl rv h1
        obtain ⟨a1, a2⟩ := any_rep ru hz.1 (us_repDs e3) hz.2
        exact ⟨p, vs, e1, e2.symm, flat_rep ru hz.1, a1, by rw [a2]; exact z.here rl rfl⟩
      · exact z.elim
    · exact z.elim
  · exact z.elim
end
end RS

end
section
set_option Elab.async false
set_option linter.all false
set_option autoImplicit false
set_option maxRecDepth 100000
set_option maxHeartbeats 4000000
/-! RsBlt: what is built in. -/
namespace RS
open PySem PySem.Spec PyProof.Rows L2
variable [LT]
section
variable {K : PySem.W.Frag} {X : Cx}
theorem repUs1 {H : Hp} {ρ : List Addr} {vs : List V} {u : U} (h : RepUs K H ρ vs [u]) : ∃ v, vs = [v] ∧ RepU K H ρ v u := by
  cases h with
  | cons a t => cases t; exact ⟨_, rfl, a⟩
theorem repUs2 {H : Hp} {ρ : List Addr} {vs : List V} {u w : U} (h : RepUs K H ρ vs [u, w]) : ∃ v x, vs = [v, x] ∧ RepU K H ρ v u ∧ RepU K H ρ x w := by
  cases h with
  | cons a t =>
    obtain ⟨x, rfl, b⟩ := repUs1 t
    exact ⟨_, _, rfl, a, b⟩
def absB (us : List U) (M : Sto) : R U := match us with
  | [.d (.int i)] => .ok (.d (.int (if i < 0 then -i else i))) M
  | _ => .bad
theorem absB_ok : CaS K (fun xs H Q => ∃ i, xs = [.int i] ∧ Q (.int (if i < 0 then -i else i)) H) absB := by
  intro E H ρ M vs us Q rus rl z
  unfold absB at z
  split at z
  · obtain ⟨v, rfl, rv⟩ := repUs1 rus
    cases rv
    exact ⟨_, rfl, z.here rl rfl⟩
  · exact z.elim
def intB (us : List U) (M : Sto) : R U := match us with
  | [.d (.int i)] => .ok (.d (.int i)) M
  | [.d (.bool k)] => .ok (.d (.int (if k then 1 else 0))) M
  | _ => .bad
theorem intB_ok : CaS K (fun xs H Q => (∃ i, xs = [.int i] ∧ Q (.int i) H) ∨ ∃ k, xs = [.bl k] ∧ Q (.int (if k then 1 else 0)) H) intB := by
  intro E H ρ M vs us Q rus rl z
  unfold intB at z
  split at z
  · obtain ⟨v, rfl, rv⟩ := repUs1 rus
    cases rv
    exact .inl ⟨_, rfl, z.here rl rfl⟩
  · obtain ⟨v, rfl, rv⟩ := repUs1 rus
    cases rv
    exact .inr ⟨_, rfl, z.here rl rfl⟩
  · exact z.elim
def minB (us : List U) (M : Sto) : R U := match us with
  | [.d (.int i), .d (.int j)] => .ok (.d (.int (if j < i then j else i))) M
  | _ => .bad
theorem minB_ok : CaS K (fun xs H Q => ∃ i j, xs = [.int i, .int j] ∧ Q (.int (if j < i then j else i)) H) minB := by
  intro E H ρ M vs us Q rus rl z
  unfold minB at z
  split at z
  · obtain ⟨v, w, rfl, rv, rw'⟩ := repUs2 rus
    cases rv
    cases rw'
    exact ⟨_, _, rfl, z.here rl rfl⟩
  · exact z.elim
def maxB (us : List U) (M : Sto) : R U := match us with
  | [.d (.int i), .d (.int j)] => .ok (.d (.int (if j > i then j else i))) M
  | _ => .bad
theorem maxB_ok : CaS K (fun xs H Q => ∃ i j, xs = [.int i, .int j] ∧ Q (.int (if j > i then j else i)) H) maxB := by
  intro E H ρ M vs us Q rus rl z
  unfold maxB at z
  split at z
  · obtain ⟨v, w, rfl, rv, rw'⟩ := repUs2 rus
    cases rv
    cases rw'
    exact ⟨_, _, rfl, z.here rl rfl⟩
  · exact z.elim
/-- len -/
def lenB (us : List U) (M : Sto) : R U := match us with
  | [.d (.str z)] => if z.length ≤ sizeLine then .ok (.d (.int z.length)) M else .bad
  | [u] => match itemsU M u with
    | some vs => .ok (.d (.int vs.length)) M
    | none => .bad
  | _ => .bad
def rLenA (K : PySem.W.Frag) : List V → Hp → VK → Prop := fun xs H Q => (∃ p ys, xs = [.ref p] ∧ (SqL K H p ys ∨ SqT K H p ys) ∧ Q (.int ys.length) H) ∨ ∃ z, xs = [.str z] ∧ z.length ≤ sizeLine ∧ Q (.int z.length) H
theorem call_lenA : CallR X (.builtin "len") (rLenA X.K) := call_len_seq.or call_len_str
theorem lenB_ok : CaS K (rLenA K) lenB := by
  intro E H ρ M vs us Q rus rl z
  unfold lenB at z
  split at z
  · split at z
    · rename_i hz
      obtain ⟨v, rfl, rv⟩ := repUs1 rus
      cases rv
      exact .inr ⟨_, rfl, hz, z.here rl rfl⟩
    · exact z.elim
  · split at z
    · rename_i h1
      obtain ⟨v, rfl, rv⟩ := repUs1 rus
      obtain ⟨p, ws, rfl, e2, e3⟩ := items_of rl rv h1
      exact .inl ⟨p, ws, rfl, e2.symm, by rw [Paired.length e3]; exact z.here rl rfl⟩
    · exact z.elim
  · exact z.elim
/-- list(..), tuple(..) -/
def listB (us : List U) (M : Sto) : R U := match us with
  | [u] => match itemsU M u with
    | some vs => .ok (.r M.length) (M ++ [.lst vs])
    | none => .bad
  | _ => .bad
theorem listB_ok : CaS K (fun xs H Q => ∃ p ys, xs = [.ref p] ∧ (SqL K H p ys ∨ SqT K H p ys) ∧ ∀ l, H l = none → Q (.ref l) (upd H l (.lst ys))) listB := by
  intro E H ρ M vs us Q rus rl z
  unfold listB at z
  split at z
  · split at z
    · rename_i h1
      obtain ⟨v, rfl, rv⟩ := repUs1 rus
      obtain ⟨p, ws, rfl, e2, e3⟩ := items_of rl rv h1
      exact ⟨p, ws, rfl, e2.symm, fun l hl => new_list rl e3 z l hl⟩
    · exact z.elim
  · exact z.elim
def tupleB (us : List U) (M : Sto) : R U := match us with
  | [.d (.tuple xs)] => .ok (.d (.tuple xs)) M
  | [.d _] => .bad
  | [u] => match itemsU M u with
    | some vs => (match asDs vs with
      | some xs => .ok (.d (.tuple xs)) M
      | none => .bad)
    | none => .bad
  | _ => .bad
theorem new_tup {E : XK} {H : Hp} {ρ : List Addr} {M : Sto} {vs : List V} {xs : List PyData} {Q : VK} (rl : Rel K H ρ M) (rd : RepDs K H xs vs) (z : Pst K E (RepU K) H ρ (.ok (.d (.tuple xs)) M) Q) (p : Addr) (hp : H p = none) : Q (.ref p) (upd H p (.tup vs)) :=
  z.to (Ext.old hp) (rl.old hp) ⟨p, vs, rfl, SqT.of upd_same, RepDs.ext (Ext.old (ρ := ρ) hp) _ _ rd⟩
theorem tupleB_ok : CaS K (fun xs H Q => ∃ p ys, xs = [.ref p] ∧ ((SqL K H p ys ∧ ∀ l, H l = none → Q (.ref l) (upd H l (.tup ys))) ∨ (SqT K H p ys ∧ Q (.ref p) H))) tupleB := by
  intro E H ρ M vs us Q rus rl z
  unfold tupleB at z
  split at z
  · obtain ⟨v, rfl, rv⟩ := repUs1 rus
    obtain ⟨p, ws, rfl, e2, e3⟩ := rv
    exact ⟨p, ws, rfl, .inr ⟨e2, z.here rl ⟨p, ws, rfl, e2, e3⟩⟩⟩
  · exact z.elim
  · rename_i u nt nd
    split at z
    · rename_i h1
      split at z
      · rename_i xs h2
        have := asDs_eq h2
        subst this
        obtain ⟨v, rfl, rv⟩ := repUs1 rus
        cases u with
        | d y => exact absurd rfl (nd y)
        | fz ys =>
          obtain ⟨p, ws, rfl, e2, e3⟩ := rv
          have e : ys = xs := by
            have h1 : some (ys.map U.d) = some (xs.map U.d) := h1
            have := Option.some.inj h1
            have z2 := asDs_map ys
            rw [this, asDs_map] at z2
            exact (Option.some.inj z2).symm
          subst e
          exact ⟨p, ws, rfl, .inl ⟨e3.sq, fun l hl => new_tup rl e2 z l hl⟩⟩
        | r l =>
          obtain ⟨p, e1, rfl⟩ := rv
          have h1 : (match M[l]? with | some (.lst us) => some us | _ => none) = some (xs.map U.d) := h1
          split at h1
          · rename_i h3
            cases h1
            obtain ⟨ws, e4, e5⟩ := rl.ob _ _ _ e1 h3
            exact ⟨p, ws, rfl, .inl ⟨SqL.of e4, fun l hl => new_tup rl (us_repDs e5) z l hl⟩⟩
          · cases h1
      · exact z.elim
    · exact z.elim
  · exact z.elim
/-- all, any of bools -/
def asBs : List U → Option (List Bool)
  | [] => some []
  | .d (.bool k) :: r => match asBs r with
    | some ks => some (k :: ks)
    | none => none
  | _ :: _ => none
theorem asBs_rep {H : Hp} {ρ : List Addr} : ∀ {us : List U} {vs : List V} {ks : List Bool}, RepUs K H ρ vs us → asBs us = some ks → vs = ks.map V.bl
  | [], _, ks, h, e => by cases h; cases e; rfl
  | .d (.bool k) :: r, _, ks, h, e => by
    cases h with
    | cons a t =>
      have e : (match asBs r with | some ks => some (k :: ks) | none => none) = some ks := e
      split at e
      · rename_i q
        cases e
        cases a
        rw [asBs_rep t q] <;> rfl
      · cases e
  | .d .none :: _, _, _, _, e => by cases e
  | .d (.int _) :: _, _, _, _, e => by cases e
  | .d (.str _) :: _, _, _, _, e => by cases e
  | .d (.tuple _) :: _, _, _, _, e => by cases e
  | .d (.list _) :: _, _, _, _, e => by cases e
  | .d (.dict _) :: _, _, _, _, e => by cases e
  | .r _ :: _, _, _, _, e => by cases e
  | .fz _ :: _, _, _, _, e => by cases e
def boolsB (g : List Bool → Bool) (us : List U) (M : Sto) : R U := match us with
  | [.r l] => match M[l]? with
    | some (.lst vs) => (match asBs vs with
      | some ks => .ok (.d (.bool (g ks))) M
      | none => .bad)
    | _ => .bad
  | _ => .bad
theorem boolsB_ok (g : List Bool → Bool) : CaS K (fun vs H Q => ∃ (a : Addr) (bs : List Bool), vs = [V.ref a] ∧ SqL K H a (bs.map V.bl) ∧ Q (.bl (g bs)) H) (boolsB g) := by
  intro E H ρ M vs us Q rus rl z
  unfold boolsB at z
  split at z
  · split at z
    · rename_i h1
      split at z
      · rename_i ks h2
        obtain ⟨v, rfl, rv⟩ := repUs1 rus
        obtain ⟨p, e1, rfl⟩ := rv
        obtain ⟨ws, e4, e5⟩ := rl.ob _ _ _ e1 h1
        have := asBs_rep e5 h2
        subst this
        exact ⟨p, ks, rfl, SqL.of e4, z.here rl rfl⟩
      · exact z.elim
    · exact z.elim
  · exact z.elim
theorem allB_ok : CaS K (rAll K) (boolsB fun ks => ks.all id) := boolsB_ok _
theorem anyB_ok : CaS K (rAny K) (boolsB fun ks => ks.any id) := boolsB_ok _
/-- methods -/
def isL (u : U) (M : Sto) : Bool := match u with
  | .r l => (match M[l]? with
    | some (.lst _) => true
    | _ => false)
  | _ => false
theorem isL_ok {H : Hp} {ρ : List Addr} {M : Sto} {v : V} {u : U} (rv : RepU K H ρ v u) (rl : Rel K H ρ M) (h : isL u M = true) : tyV K "list" v H := by
  unfold isL at h
  split at h
  · split at h
    · rename_i h1
      obtain ⟨p, e1, rfl⟩ := rv
      obtain ⟨ws, e4, e5⟩ := rl.ob _ _ _ e1 h1
      exact .inl ⟨rfl, ws, SqL.of e4⟩
    · cases h
  · cases h
def appU (u : U) (us : List U) (M : Sto) : R U := match u, us with
  | .r l, [w] => match M[l]? with
    | some (.lst vs) => if vs.length < sizeLine then .ok (.d .none) (M.set l (.lst (vs ++ [w]))) else .bad
    | _ => .bad
  | _, _ => .bad
theorem put_list {E : XK} {H : Hp} {ρ : List Addr} {M : Sto} {l : Nat} {p : Addr} {o : Ob} {ws : List V} {us : List U} {w : U} {x : V} {Q : VK} (rl : Rel K H ρ M) (hp : ρ[l]? = some p) (ho : M[l]? = some o) (hu : RepUs K H ρ ws us) (z : Pst K E (RepU K) H ρ (.ok w (M.set l (.lst us))) Q)
    (hx : ∀ H', Ext H ρ H' ρ → RepU K H' ρ x w) : Q x (upd H p (.lst ws)) := by
  obtain ⟨u, hu1, hi, ht⟩ := (rl.ob l p o hp ho).mut
  have e := Ext.put (o := .lst ws) hu1 (List.mem_of_getElem? hp) hi ht
  obtain ⟨r1, r2⟩ := rl.put (o := .lst ws) (x := .lst us) hp ho ⟨ws, upd_same, hu.ext e⟩
  exact z.to r2 r1 (hx _ r2)
theorem append_ok : MeS K "list" rAppend appU isL := by
  refine ⟨fun H ρ M v u rv rl h => isL_ok rv rl h, ?_⟩
  intro E H ρ M v u vs us Q ru rus rl z
  unfold appU at z
  split at z
  · split at z
    · rename_i h1
      split at z
      · rename_i hz
        obtain ⟨y, rfl, ry⟩ := repUs1 rus
        obtain ⟨p, e1, rfl⟩ := ru
        obtain ⟨ws, e4, e5⟩ := rl.ob _ _ _ e1 h1
        refine ⟨p, ws, y, rfl, rfl, e4, by rw [Paired.length e5]; exact hz, ?_⟩
        exact put_list rl e1 h1 (paired_app e5 (.cons ry .nil)) z fun _ _ => rfl
      · exact z.elim
    · exact z.elim
  · exact z.elim
def popU (u : U) (us : List U) (M : Sto) : R U := match u, us with
  | .r l, [] => match M[l]? with
    | some (.lst vs) => (match vs[vs.length - 1]? with
      | some w => .ok w (M.set l (.lst vs.dropLast))
      | none => .bad)
    | _ => .bad
  | _, _ => .bad
theorem paired_dropLast {α β : Type} {F : α → β → Prop} {xs : List α} {us : List β} (h : Paired F xs us) : Paired F xs.dropLast us.dropLast := by
  rw [List.dropLast_eq_take, List.dropLast_eq_take, Paired.length h]
  exact paired_take _ h
theorem pop_ok : MeS K "list" rPop popU isL := by
  refine ⟨fun H ρ M v u rv rl h => isL_ok rv rl h, ?_⟩
  intro E H ρ M v u vs us Q ru rus rl z
  unfold popU at z
  split at z
  · split at z
    · rename_i h1
      split at z
      · rename_i w hw
        cases rus
        obtain ⟨p, e1, rfl⟩ := ru
        obtain ⟨ws, e4, e5⟩ := rl.ob _ _ _ e1 h1
        rw [← Paired.length e5] at hw
        obtain ⟨y, hy, ry⟩ := repUs_get e5 hw
        refine ⟨p, ws, y, rfl, rfl, e4, hy, ?_⟩
        exact put_list rl e1 h1 (paired_dropLast e5) z fun _ e => ry.ext e
      · exact z.elim
    · exact z.elim
  · exact z.elim
/-- sorted of ints: a list in order, of just the same -/
def asIs : List U → Option (List Int)
  | [] => some []
  | .d (.int k) :: r => match asIs r with
    | some ks => some (k :: ks)
    | none => none
  | _ :: _ => none
theorem asIs_rep {H : Hp} {ρ : List Addr} : ∀ {us : List U} {vs : List V} {ks : List Int}, RepUs K H ρ vs us → asIs us = some ks → vs = ks.map V.int
  | [], _, ks, h, e => by cases h; cases e; rfl
  | .d (.int k) :: r, _, ks, h, e => by
    cases h with
    | cons a t =>
      have e : (match asIs r with | some ks => some (k :: ks) | none => none) = some ks := e
      split at e
      · rename_i q
        cases e
        cases a
        rw [asIs_rep t q] <;> rfl
      · cases e
  | .d .none :: _, _, _, _, e => by cases e
  | .d (.bool _) :: _, _, _, _, e => by cases e
  | .d (.str _) :: _, _, _, _, e => by cases e
  | .d (.tuple _) :: _, _, _, _, e => by cases e
  | .d (.list _) :: _, _, _, _, e => by cases e
  | .d (.dict _) :: _, _, _, _, e => by cases e
  | .r _ :: _, _, _, _, e => by cases e
  | .fz _ :: _, _, _, _, e => by cases e
end
end RS

end
section
set_option Elab.async false
set_option linter.all false
set_option autoImplicit false
set_option maxRecDepth 100000
set_option maxHeartbeats 4000000
/-! RsSort: sorted of ints. -/
namespace RS
open PySem PySem.Spec PyProof.Rows L2
variable [LT]
def insI (x : Int) : List Int → List Int
  | [] => [x]
  | y :: r => if x ≤ y then x :: y :: r else y :: insI x r
def sortI : List Int → List Int
  | [] => []
  | x :: r => insI x (sortI r)
theorem insI_perm (x : Int) : ∀ l : List Int, (insI x l).Perm (x :: l)
  | [] => .refl _
  | y :: r => by
    unfold insI
    split
    · exact .refl _
    · exact ((insI_perm x r).cons y).trans (.swap x y r)
theorem sortI_perm : ∀ l : List Int, (sortI l).Perm l
  | [] => .refl _
  | x :: r => (insI_perm x (sortI r)).trans ((sortI_perm r).cons x)
theorem insI_sorted (x : Int) : ∀ l : List Int, l.Pairwise (· ≤ ·) → (insI x l).Pairwise (· ≤ ·)
  | [], _ => by simp [insI]
  | y :: r, h => by
    unfold insI
    obtain ⟨h1, h2⟩ := List.pairwise_cons.mp h
    split
    · rename_i hxy
      exact List.pairwise_cons.mpr ⟨fun z hz => by
        rcases List.mem_cons.mp hz with rfl | hz
        · exact hxy
        · exact Int.le_trans hxy (h1 z hz), h⟩
    · rename_i hxy
      refine List.pairwise_cons.mpr ⟨fun z hz => ?_, insI_sorted x r h2⟩
      rcases List.mem_cons.mp ((insI_perm x r).mem_iff.mp hz) with rfl | hz
      · omega
      · exact h1 z hz
theorem sortI_sorted : ∀ l : List Int, (sortI l).Pairwise (· ≤ ·)
  | [] => .nil
  | x :: r => insI_sorted x _ (sortI_sorted r)
theorem sorted_one : ∀ {a b : List Int}, a.Perm b → a.Pairwise (· ≤ ·) → b.Pairwise (· ≤ ·) → a = b
  | [], b, h, _, _ => (List.Perm.nil_eq h)
  | x :: a, [], h, _, _ => by have := h.length_eq; simp at this
  | x :: a, y :: b, h, ha, hb => by
    obtain ⟨a1, a2⟩ := List.pairwise_cons.mp ha
    obtain ⟨b1, b2⟩ := List.pairwise_cons.mp hb
    have e : x = y := by
      have h1 : x ∈ y :: b := h.mem_iff.mp List.mem_cons_self
      have h2 : y ∈ x :: a := h.mem_iff.mpr List.mem_cons_self
      rcases List.mem_cons.mp h1 with e | h1
      · exact e
      · rcases List.mem_cons.mp h2 with e | h2
        · exact e.symm
        · have := b1 x h1
          have := a1 y h2
          omega
    subst e
    rw [sorted_one (List.Perm.cons_inv h) a2 b2]
section
variable {X : Cx} {K : PySem.W.Frag}
def rSortA (K : PySem.W.Frag) : List V → Hp → VK → Prop := fun vs H Q => ∃ (a : Addr) (ns : List Int), vs = [V.ref a] ∧ (SqL K H a (ns.map V.int) ∨ SqT K H a (ns.map V.int)) ∧ ns.length < 64 ∧ ∀ p, H p = none → Q (.ref p) (upd H p (.lst ((sortI ns).map V.int)))
theorem call_sortA : CallR X (.builtin "sorted") (rSortA X.K) := by
  intro pins s σ H vs us Q I r h
  obtain ⟨a, ns, rfl, hs, h64, q⟩ := h
  rcases hs with hs | hs
  · refine cr_sorted pins s σ H _ us Q I r ⟨a, ns, rfl, hs, h64, fun ns' p h1 h2 hp => ?_⟩
    rw [sorted_one (h1.trans (sortI_perm ns).symm) h2 (sortI_sorted ns)]
    exact q p hp
  obtain ⟨its, rv, ⟨o, ho, hc, n, hd⟩, _⟩ := I.tuple hs
  rw [Vals.ref1 r]
  have hi := rv.ints
  have hl : its.length < 64 := by rw [hi.length]; exact h64
  refine Calls.call_function_entry kind_sorted plain_sorted entry_sorted (args_sorted1 _) ?_
  unfold Builtin.«sorted»
  refine wpAny_bind (m := checkCount "sorted" 1 1 _) (wpAny_pure (wpAny_bind ?_))
  refine wpAny_collect_seq a (.inr rfl) ho hc hd (fun h' kh => ?_) (by simpa using L2.small64 hl)
  rw [List.toList_toArray]
  refine wpAny_bind (wpAny_newList ?_)
  have hoL : (h'.push (seqObj "list" its.toArray 0)).get? h'.objs.size = some (seqObj "list" its.toArray 0) := Heap.get?_push_size _ rfl
  show wpAny _ _ _ _ _ { s with heap := h'.push (seqObj "list" its.toArray 0) }
  refine wpAny_bind (wpAny_holding (wpAny_call_entry slot_list_sort ⟨_, hoL, rfl⟩ entry_list_sort (list_sort_tree hoL hi hl fun out ns' a1 a2 a3 => ⟨_, rfl, ?_⟩) (args_list_sort _)))
  refine wpAny_pure ⟨_, rfl, ?_⟩
  obtain ⟨ep, he'⟩ := sortedHeap_at (vs := its) (out := out) hoL
  have hlen : (ns'.map V.int).length ≤ sizeLine := by rw [List.length_map, a2.length_eq]; exact L2.small64 h64
  have e : ns' = sortI ns := sorted_one (a2.trans (sortI_perm ns).symm) a3 (sortI_sorted ns)
  subst e
  have I1 : Inv X pins σ H { s with heap := h' } := I.kept (t' := s.toks) kh
  refine ⟨.ref _, upd H h'.objs.size (.lst ((sortI ns).map V.int)), I1.laid (t' := s.toks) (fun b ob h3 => ?_) (Nat.le_refl _) ⟨hlen, out.toList, ep, vals_of_ints a1, he'⟩, rfl, q _ (I1.hok.fresh (Nat.le_refl _))⟩
  rw [sortedHeap_old (Nat.ne_of_lt (Heap.lt_size h3)) (by rw [size_push']; exact Nat.lt_succ_of_lt (Heap.lt_size h3))]
  exact Heap.get?_push_of_some _ h3
/-- sorted of ints -/
def sortB (us : List U) (M : Sto) : R U := match us with
  | [u] => match itemsU M u with
    | some vs => (match asIs vs with
      | some ns => if ns.length < 64 then .ok (.r M.length) (M ++ [.lst ((sortI ns).map fun i => U.d (.int i))]) else .bad
      | none => .bad)
    | none => .bad
  | _ => .bad
theorem ints_rep {H : Hp} {ρ : List Addr} : ∀ ns : List Int, RepUs K H ρ (ns.map V.int) (ns.map fun i => U.d (.int i))
  | [] => .nil
  | n :: ns => .cons rfl (ints_rep ns)
theorem sortB_ok : CaS K (rSortA K) sortB := by
  intro E H ρ M vs us Q rus rl z
  unfold sortB at z
  split at z
  · split at z
    · rename_i h1
      split at z
      · rename_i h2
        split at z
        · rename_i h64
          obtain ⟨v, rfl, rv⟩ := repUs1 rus
          obtain ⟨p, ws, rfl, e2, e3⟩ := items_of rl rv h1
          have := asIs_rep e3 h2
          subst this
          exact ⟨p, _, rfl, e2.symm, h64, fun l hl => new_list rl (ints_rep _) z l hl⟩
        · exact z.elim
      · exact z.elim
    · exact z.elim
  · exact z.elim
end
end RS

end
section
set_option Elab.async false
set_option linter.all false
set_option autoImplicit false
set_option maxRecDepth 100000
set_option maxHeartbeats 4000000
/-! RsComp: what is walked; targets; comprehensions. -/
namespace RS
open PySem PySem.Spec PyProof.Rows L2
variable [LT]

/-! ### what is walked -/
/-- the items of a value as they stand at each turn; a range -/
inductive Wk where
  | seq (u : U) | rng (lo : Int) (n : Nat)
def Wk.at (j : Wk) (i : Nat) (M : Sto) : Option (Option U) := match j with
  | .seq u => match itemsU M u with
    | some us => some us[i]?
    | none => none
  | .rng lo n => if i < n then some (some (.d (.int (lo + i)))) else some none
theorem Wk.at_none {u : U} {i : Nat} {M : Sto} (q : itemsU M u = none) : (Wk.seq u).at i M = none := by
  unfold Wk.at
  simp only [q]
theorem Wk.at_some {u : U} {i : Nat} {M : Sto} {us : List U} (q : itemsU M u = some us) : (Wk.seq u).at i M = some us[i]? := by
  unfold Wk.at
  simp only [q]
def Wk.many (j : Wk) (M : Sto) : Nat := match j with
  | .seq u => match itemsU M u with
    | some us => us.length + 1
    | none => 0
  | .rng _ n => n + 1
def WkR (K : PySem.W.Frag) (H : Hp) (ρ : List Addr) (J : It) (j : Wk) : Prop := ∀ (i : Nat) (H' : Hp) (ρ' : List Addr) (M' : Sto), Ext H ρ H' ρ' → Rel K H' ρ' M' → match j.at i M' with
  | some (some x) => J.go i H' ∧ ∀ v H2, J.yld i H' v H2 → ∃ ρ2, Ext H' ρ' H2 ρ2 ∧ Rel K H2 ρ2 M' ∧ RepU K H2 ρ2 v x
  | some none => J.stop i H'
  | none => True
def lI (K : PySem.W.Frag) (W : WX) (f : En → Sto → R Wk) : TI := fun σ H Q => ∃ ρ M en, EnR K H ρ σ en ∧ Rel K H ρ M ∧ Pst K (fun c d H' => W c d σ H') (WkR K) H ρ (f en M) Q
abbrev SI (X : Cx) (W : WX) (tg e : Expr) (f : En → Sto → R Wk) : Prop := PI X tg e (lI X.K W f)
section
variable {X : Cx} {W : WX} {tg a b : Expr} {f : En → Sto → R U} {fs : En → Sto → R (List U)}
theorem pi_imp {e : Expr} {t t' : TI} (h : PI X tg e t) (i : ∀ σ H Q, t' σ H Q → t σ H Q) : PI X tg e t' := ⟨fun pins s σ H Q I q => h.run pins s σ H Q I (i σ H Q q)⟩
def isD : U → Bool
  | .d _ => true
  | _ => false
/-- over a list -/
def wL (f : En → Sto → R U) (en : En) (M : Sto) : R Wk := (f en M).bind fun u M1 => if isD u then .bad else match itemsU M1 u with
  | some _ => .ok (.seq u) M1
  | none => .bad
/-- over a tuple -/
def wT (f : En → Sto → R U) (en : En) (M : Sto) : R Wk := (f en M).bind fun u M1 => match u with
  | .d (.tuple xs) => .ok (.seq (.d (.tuple xs))) M1
  | _ => .bad
theorem items_lst {K : PySem.W.Frag} {H : Hp} {ρ : List Addr} {M : Sto} {v : V} {u : U} {us : List U} (rl : Rel K H ρ M) (ru : RepU K H ρ v u) (e : itemsU M u = some us) (n : isD u = false) : ∃ p vs, v = .ref p ∧ SqL K H p vs ∧ RepUs K H ρ vs us := by
  cases u with
  | d y => cases n
  | r l =>
    have e : (match M[l]? with | some (.lst us) => some us | _ => none) = some us := e
    split at e
    · rename_i us' q
      cases e
      obtain ⟨p, e1, e2⟩ := ru
      obtain ⟨vs, e3, e4⟩ := rl.ob _ _ _ e1 q
      exact ⟨p, vs, e2, SqL.of e3, e4⟩
    · cases e
  | fz xs =>
    cases e
    obtain ⟨p, vs, e1, e2, e3⟩ := ru
    exact ⟨p, vs, e1, e3.sq, repDs_us e2⟩
theorem wkr_list {K : PySem.W.Frag} {H : Hp} {ρ : List Addr} {p : Addr} {u : U} (ru : RepU K H ρ (.ref p) u) (n : isD u = false) : WkR K H ρ (Itl K p) (.seq u) := by
  intro i H' ρ' M' e rl
  cases q : itemsU M' u with
  | none => rw [Wk.at_none q]; trivial
  | some us =>
    obtain ⟨p', vs, e1, e2, e3⟩ := items_lst rl (ru.ext e) q n
    cases e1
    rw [Wk.at_some q]
    cases q2 : us[i]? with
    | none => exact ⟨vs, e2, by rw [Paired.length e3]; exact List.getElem?_eq_none_iff.mp q2⟩
    | some x =>
      obtain ⟨v, h1, h2⟩ := repUs_get e3 q2
      refine ⟨⟨vs, v, e2, h1⟩, fun v' H2 y => ?_⟩
      obtain ⟨rfl, y⟩ := y
      have := y vs e2
      rw [h1] at this
      cases this
      exact ⟨ρ', Ext.refl _ _, rl, h2⟩
theorem wkr_tup {K : PySem.W.Frag} {H : Hp} {ρ : List Addr} {p : Addr} {xs : List PyData} (ru : RepU K H ρ (.ref p) (.d (.tuple xs))) : WkR K H ρ (Itt K p) (.seq (.d (.tuple xs))) := by
  intro i H' ρ' M' e rl
  obtain ⟨p', vs, e1, e2, e3⟩ := ru.ext e
  cases e1
  have e3 := repDs_us (ρ := ρ') e3
  show (match some (xs.map U.d)[i]? with | some (some x) => _ | some none => _ | none => True)
  cases q2 : (xs.map U.d)[i]? with
  | none => exact ⟨vs, e2, by rw [Paired.length e3]; exact List.getElem?_eq_none_iff.mp q2⟩
  | some x =>
    obtain ⟨v, h1, h2⟩ := repUs_get e3 q2
    refine ⟨⟨vs, v, e2, h1⟩, fun v' H2 y => ?_⟩
    obtain ⟨rfl, y⟩ := y
    have := y vs e2
    rw [h1] at this
    cases this
    exact ⟨ρ', Ext.refl _ _, rl, h2⟩
theorem si_list (ha : SE X W a f) : SI X W tg a (wL f) :=
  pi_imp (pi_list ha) fun σ H Q ⟨ρ, M, en, re, rl, z⟩ => ⟨ρ, M, en, re, rl, Pst.mono (fun x H1 ⟨ρ1, M1, u, e1, rl1, ru, z1⟩ => by
    cases hn : isD u with
    | true => rw [if_pos hn] at z1; exact z1.elim
    | false =>
      rw [if_neg (by rw [hn]; exact Bool.false_ne_true)] at z1
      split at z1
      · rename_i us q
        obtain ⟨p, vs, rfl, h2, h3⟩ := items_lst rl1 ru q hn
        exact ⟨p, rfl, ⟨vs, h2⟩, z1.here rl1 (wkr_list ru hn)⟩
      · exact z1.elim) (Pst.bind z)⟩
theorem si_tup (ha : SE X W a f) : SI X W tg a (wT f) :=
  pi_imp (pi_tup ha) fun σ H Q ⟨ρ, M, en, re, rl, z⟩ => ⟨ρ, M, en, re, rl, Pst.mono (fun x H1 ⟨ρ1, M1, u, e1, rl1, ru, z1⟩ => by
    split at z1
    · obtain ⟨p, vs, rfl, h2, h3⟩ := id ru
      exact ⟨p, rfl, ⟨vs, h2⟩, z1.here rl1 (wkr_tup ru)⟩
    · exact z1.elim) (Pst.bind z)⟩
/-- over a range -/
def wR1 (fs : En → Sto → R (List U)) (en : En) (M : Sto) : R Wk := (fs en M).bind fun us M1 => match us with
  | [.d (.int j)] => if -1000000 ≤ j ∧ j ≤ 1000000 then .ok (.rng 0 j.toNat) M1 else .bad
  | _ => .bad
def wR2 (fs : En → Sto → R (List U)) (en : En) (M : Sto) : R Wk := (fs en M).bind fun us M1 => match us with
  | [.d (.int i), .d (.int j)] => if -1000000 ≤ i ∧ i ≤ 1000000 ∧ -1000000 ≤ j ∧ j ≤ 1000000 then .ok (.rng i (j - i).toNat) M1 else .bad
  | _ => .bad
theorem wkr_rng {K : PySem.W.Frag} {H : Hp} {ρ : List Addr} (lo : Int) (n : Nat) : WkR K H ρ (Itr lo n) (.rng lo n) := by
  intro i H' ρ' M' e rl
  unfold Wk.at
  by_cases h : i < n
  · simp only [if_pos h]
    refine ⟨h, fun v H2 y => ?_⟩
    obtain ⟨rfl, rfl⟩ := y
    exact ⟨ρ', Ext.refl _ _, rl, rfl⟩
  · simp only [if_neg h]
    show n ≤ i
    omega
variable {p pos : Pos}
theorem si_range1 (hg : Gl X "range") (hm : X.mg "range" = none) (ha : SA X W [a] fs) (hs : starEach [a] X.env = [(false, eval a X.env)] := by rfl) : SI X W tg (.Call (.Name "range" p) [a] [] pos) (wR1 fs) :=
  pi_imp (pi_range1 hg hm ha hs) fun σ H Q ⟨ρ, M, en, re, rl, z⟩ => ⟨ρ, M, en, re, rl, Pst.mono (fun vs H1 ⟨ρ1, M1, us, e1, rl1, rus, z1⟩ => by
    split at z1
    · split at z1
      · rename_i h
        obtain ⟨v, rfl, rv⟩ := repUs1 rus
        cases rv
        exact ⟨_, rfl, by omega, by omega, z1.here rl1 (wkr_rng _ _)⟩
      · exact z1.elim
    · exact z1.elim) (Pst.bind z)⟩
theorem si_range2 (hg : Gl X "range") (hm : X.mg "range" = none) (ha : SA X W [a, b] fs) (hs : starEach [a, b] X.env = [(false, eval a X.env), (false, eval b X.env)] := by rfl) (hs2 : starEach [b] X.env = [(false, eval b X.env)] := by rfl) : SI X W tg (.Call (.Name "range" p) [a, b] [] pos) (wR2 fs) :=
  pi_imp (pi_range2 hg hm ha hs hs2) fun σ H Q ⟨ρ, M, en, re, rl, z⟩ => ⟨ρ, M, en, re, rl, Pst.mono (fun vs H1 ⟨ρ1, M1, us, e1, rl1, rus, z1⟩ => by
    split at z1
    · split at z1
      · rename_i h
        obtain ⟨v1, v2, rfl, r1, r2⟩ := repUs2 rus
        cases r1; cases r2
        exact ⟨_, _, rfl, ⟨by omega, by omega, by omega, by omega⟩, z1.here rl1 (wkr_rng _ _)⟩
      · exact z1.elim
    · exact z1.elim) (Pst.bind z)⟩
/-! ### targets -/
theorem wipe_in {σ : L2.St} {i : Nat} : ∀ {vs : List Nat}, i ∈ vs → (wipe σ vs)[i]? = if i < σ.length then some none else none
  | [], h => by cases h
  | v :: vs, h => by
    unfold wipe
    by_cases e : v = i
    · subst e
      by_cases hl : v < σ.length
      · rw [if_pos hl]; exact List.getElem?_set_self (by rw [wipe_length]; exact hl)
      · rw [if_neg hl]; exact List.getElem?_eq_none_iff.mpr (by rw [List.length_set, wipe_length]; omega)
    · rw [List.getElem?_set_ne e]
      exact wipe_in ((List.mem_cons.mp h).resolve_left fun z => e z.symm)
theorem wipe_set_in {σ : L2.St} {i : Nat} {x : Option V} {ns : List Nat} (h : i ∈ ns) : wipe (σ.set i x) ns = wipe σ ns := by
  apply List.ext_getElem?
  intro j
  by_cases hj : j ∈ ns
  · rw [wipe_in hj, wipe_in hj, List.length_set]
  · rw [wipe_out hj, wipe_out hj, List.getElem?_set_ne (fun (z : i = j) => hj (by rw [← z]; exact h))]
theorem wipe_idem (σ : L2.St) (ns : List Nat) : wipe (wipe σ ns) ns = wipe σ ns := by
  apply List.ext_getElem?
  intro j
  by_cases hj : j ∈ ns
  · rw [wipe_in hj, wipe_in hj, wipe_length]
  · rw [wipe_out hj]
def wipeE (en : En) : List Nat → En
  | [] => en
  | v :: vs => (wipeE en vs).set v none
theorem EnR.wipe {K : PySem.W.Frag} {H : Hp} {ρ : List Addr} {σ : L2.St} {en : En} (h : EnR K H ρ σ en) : ∀ vs : List Nat, EnR K H ρ (wipe σ vs) (wipeE en vs)
  | [] => h
  | v :: vs => (h.wipe vs).forget v none
inductive Tg where
  | nm (i : Nat) | tp (is : List Nat)
def setAll : En → List Nat → List U → En
  | en, i :: is, u :: us => setAll (en.set i (some u)) is us
  | en, _, _ => en
def Tg.en (g : Tg) (u : U) (en : En) : Option En := match g with
  | .nm i => some (en.set i (some u))
  | .tp is => match u with
    | .d (.tuple xs) => if xs.length = is.length then some (setAll en is (xs.map .d)) else none
    | _ => none
def gAll : List Nat → TGs
  | [] => gNil
  | i :: is => gCons (gName i) (gAll is)
def tgOf (K : PySem.W.Frag) : Tg → TG
  | .nm i => gName i
  | .tp is => gTup K is.length (gAll is)
def Tg.is : Tg → List Nat
  | .nm i => [i]
  | .tp is => is
section
variable {K : PySem.W.Frag} {H : Hp} {ρ : List Addr}
theorem gAll_ok : ∀ {is : List Nat} {us : List U} {vs : List V} {σ : L2.St} {en : En} {Q : L2.St → Hp → Prop}, RepUs K H ρ vs us → us.length = is.length → EnR K H ρ σ en →
    (∀ σ', EnR K H ρ σ' (setAll en is us) → (∀ ns : List Nat, (∀ i ∈ is, i ∈ ns) → wipe σ' ns = wipe σ ns) → Q σ' H) → gAll is vs σ H Q
  | [], [], vs, σ, en, Q, r, l, re, q => by
    cases r
    exact ⟨rfl, q σ re fun _ _ => rfl⟩
  | i :: is, u :: us, vs, σ, en, Q, r, l, re, q => by
    cases r with
    | cons r rr =>
      refine ⟨_, _, rfl, gAll_ok rr (by simpa using l) (re.set i r) fun σ' h1 h2 => q σ' h1 fun ns hn => ?_⟩
      rw [h2 ns fun j hj => hn j (List.mem_cons_of_mem _ hj)]
      exact wipe_set_in (hn i List.mem_cons_self)
  | [], _ :: _, _, _, _, _, _, l, _, _ => by simp at l
  | _ :: _, [], _, _, _, _, _, l, _, _ => by simp at l
theorem tg_ok {g : Tg} {u : U} {v : V} {σ : L2.St} {en en' : En} {Q : L2.St → Hp → Prop} (e : g.en u en = some en') (r : RepU K H ρ v u) (re : EnR K H ρ σ en)
    (q : ∀ σ', EnR K H ρ σ' en' → (∀ ns : List Nat, (∀ i ∈ g.is, i ∈ ns) → wipe σ' ns = wipe σ ns) → Q σ' H) : tgOf K g v σ H Q := by
  cases g with
  | nm i =>
    cases e
    exact q _ (re.set i r) fun ns hn => wipe_set_in (hn i List.mem_cons_self)
  | tp is =>
    unfold Tg.en at e
    dsimp only at e
    split at e
    · split at e
      · rename_i xs hl
        cases e
        obtain ⟨a, vs, rfl, h2, h3⟩ := r
        have h3 := repDs_us (ρ := ρ) h3
        exact ⟨a, vs, rfl, h2, by rw [Paired.length h3]; simpa using hl, gAll_ok h3 (by simpa using hl) re q⟩
      · cases e
    · cases e
end
end
end RS

end
section
set_option Elab.async false
set_option linter.all false
set_option autoImplicit false
set_option maxRecDepth 100000
set_option maxHeartbeats 4000000
/-! RsLc: comprehensions. -/
namespace RS
open PySem PySem.Spec PyProof.Rows L2
variable [LT]
def R.bindN {α β : Type} (r : R α) (g : α → Sto → R β) : R β := match r with
  | .ok a M => g a M
  | _ => .bad
def cLoop (j : Wk) (g : Tg) (ft : En → Sto → R Bool) (fe : En → Sto → R U) (en0 : En) : Nat → Nat → List U → Sto → R (List U)
  | 0, _, _, _ => .bad
  | m + 1, i, acc, M => match j.at i M with
    | some none => .ok acc M
    | none => .bad
    | some (some x) => match g.en x en0 with
      | none => .bad
      | some en => (ft en M).bindN fun b M2 => if b then (fe en M2).bindN fun y M3 => if acc.length < sizeLine then cLoop j g ft fe en0 m (i + 1) (acc ++ [y]) M3 else .bad
        else cLoop j g ft fe en0 m (i + 1) acc M2
def eComp (own : List Nat) (fi : En → Sto → R Wk) (g : Tg) (ft : En → Sto → R Bool) (fe : En → Sto → R U) (en : En) (M : Sto) : R U :=
  (fi en M).bind fun j M1 => (cLoop j g ft fe (wipeE en own) (j.many M1) 0 [] M1).bindN fun us M2 => .ok (.r M2.length) (M2 ++ [.lst us])
/-- no condition -/
def cTrue (_ : En) (M : Sto) : R Bool := .ok true M
section
variable {K : PySem.W.Frag} {H H1 H' : Hp} {ρ ρ1 ρ' : List Addr} {M M1 : Sto}
theorem Rel.add (r : Rel K H ρ M) {p : Addr} {x : Ob} (hp : p ∉ ρ) (hx : ObR K H (ρ ++ [p]) p x) : Rel K H (ρ ++ [p]) (M ++ [x]) := by
  refine ⟨by simp [r.len], ?_, r.tb, fun l a y h1 h2 => ?_⟩
  · rw [List.nodup_append]
    refine ⟨r.nd, by simp, fun a ha b hb z => ?_⟩
    rw [List.mem_singleton.mp hb] at z
    exact hp (z ▸ ha)
  · by_cases hl : l < ρ.length
    · rw [List.getElem?_append_left hl] at h1
      rw [List.getElem?_append_left (by rw [← r.len]; exact hl)] at h2
      exact (r.ob l a y h1 h2).ext0 ⟨⟨[p], rfl⟩, fun _ _ h _ => h⟩ rfl
    · rw [List.getElem?_append_right (by omega)] at h1
      rw [List.getElem?_append_right (by rw [← r.len]; omega)] at h2
      rw [← r.len] at h2
      cases q : l - ρ.length with
      | zero =>
        rw [q] at h1 h2
        cases h1; cases h2
        exact hx
      | succ n => rw [q] at h1; simp at h1
/-- beside the store something is written -/
theorem upd_e0 {p : Addr} {o u : HO} (h : H p = some u) (hu : ¬ imm u) : Ext0 H ρ (upd H p o) ρ :=
  ⟨⟨[], by simp⟩, fun a x q i => by
    by_cases z : a = p
    · subst z; rw [h] at q; cases q; exact absurd i hu
    · rw [upd_ne z]; exact q⟩
theorem Rel.side (r : Rel K H ρ M) {p : Addr} {o u : HO} (hp : p ∉ ρ) (h : H p = .some u) (hu : ¬ imm u) (ht : nt u) : Rel K (upd H p o) ρ M :=
  ⟨r.len, r.nd, fun q hq => tab_upd h hu ht (r.tb q hq), fun l a x h1 h2 => (r.ob l a x h1 h2).ext0 (upd_e0 h hu) (upd_ne fun (z : a = p) => hp (by rw [← z]; exact List.mem_of_getElem? h1))⟩
theorem EnR.ext0 {σ : L2.St} {en : En} (e : Ext0 H ρ H' ρ') (h : EnR K H ρ σ en) : EnR K H' ρ' σ en :=
  ⟨h.len, fun i u q => let ⟨v, h1, h2⟩ := h.at_ i u q; ⟨v, h1, h2.ext0 e⟩⟩
theorem Ext.side (e : Ext H ρ H' ρ') {p : Addr} {o : HO} (hp : p ∉ ρ) (h : H p = some o) (ht : nt o) : H' p = some o ∧ p ∉ ρ' := by
  refine ⟨e.frame _ _ h hp ht, fun z => ?_⟩
  obtain ⟨τ, rfl, f⟩ := e.pre
  rcases List.mem_append.mp z with z | z
  · exact hp z
  · exact f p z o h ht
end
theorem R.bindN_ok {α β : Type} {r : R α} {g : α → Sto → R β} (h : r.bindN g ≠ .bad) : ∃ a M, r = .ok a M := by
  cases r with
  | ok a M => exact ⟨a, M, rfl⟩
  | ex c fs M => exact absurd rfl h
  | bad => exact absurd rfl h
/-- no error goes out of a block -/
def W0 : WX := fun _ _ _ _ => False
section
variable {X : Cx} {W : WX}
/-- the loop of a comprehension, in the layer's words -/
structure LcI (K : PySem.W.Frag) (H1 : Hp) (ρ1 : List Addr) (D : Addr) (σ : L2.St) (en0 : En) (j : Wk) (g : Tg) (ft : En → Sto → R Bool) (fe : En → Sto → R U) (res : R (List U)) (i m : Nat) (H : Hp) : Prop where
  it : ∃ ρ M acc vs, Ext H1 ρ1 H ρ ∧ Rel K H ρ M ∧ D ∉ ρ ∧ H D = some (.lst vs) ∧ RepUs K H ρ vs acc ∧ EnR K H ρ σ en0 ∧ res = cLoop j g ft fe en0 m i acc M
theorem tlc_of {K : PySem.W.Frag} {own : List (Str × Nat)} {fi : En → Sto → R Wk} {g : Tg} {ft : En → Sto → R Bool} {fe : En → Sto → R U} (ho : ∀ i ∈ g.is, i ∈ own.map (·.2)) {σ : L2.St} {H : Hp} {Q : VK}
    (h : lE K W (eComp (own.map (·.2)) fi g ft fe) σ H Q) : tLc (lI K W fi) (tgOf K g) (lT K W0 ft) (lE K W0 fe) (own.map (·.2)) σ H Q := by
  obtain ⟨ρ, M, en, re, rl, z⟩ := h
  refine ⟨ρ, M, en, re, rl, Pst.mono (fun J H1 h1 D hD => ?_) (Pst.bind z)⟩
  obtain ⟨ρ1, M1, j, e1, rl1, rj, z1⟩ := h1
  obtain ⟨us, M9, e9⟩ := R.bindN_ok (fun q => by rw [q] at z1; exact z1)
  rw [e9] at z1
  have z1 : Pst K (fun c d H' => W c d σ H') (fun H' ρ' => RepU K H' ρ') H1 ρ1 (.ok (.r M9.length) (M9 ++ [.lst us])) Q := z1
  refine ⟨LcI K H1 ρ1 D (wipe σ (own.map (·.2))) (wipeE en (own.map (·.2))) j g ft fe (.ok us M9), ⟨j.many M1, ⟨ρ1, M1, [], [], ?_⟩⟩, fun i m H2 w => ?_⟩
  · have x := Ext.old (ρ := ρ1) (o := .lst []) hD
    exact ⟨x, rl1.old hD, fun q => rl1.some q hD, upd_same, .nil, ((re.ext e1).wipe _).ext x, e9.symm⟩
  · obtain ⟨ρ2, M2, acc, vs, x2, rl2, nD, hv, rv, re2, er⟩ := w.it
    cases m with
    | zero => cases er
    | succ m =>
      unfold cLoop at er
      have jr := rj i H2 ρ2 M2 x2 rl2
      cases q : j.at i M2 with
      | none => rw [q] at er; cases er
      | some o =>
        cases o with
        | none =>
          rw [q] at er jr
          cases er
          refine .inl ⟨jr, ?_⟩
          refine z1 (.ref D) H2 (ρ2 ++ [D]) ⟨?_, x2.dom, x2.keep, x2.frame⟩ (rl2.add nD ⟨vs, hv, rv.ext0 ⟨⟨[D], rfl⟩, fun _ _ h _ => h⟩⟩) ⟨D, by rw [← rl2.len, List.getElem?_append_right (Nat.le_refl _), Nat.sub_self]; rfl, rfl⟩
          obtain ⟨τ, rfl, f⟩ := x2.pre
          refine ⟨τ ++ [D], by simp, fun a ha o ho => ?_⟩
          rcases List.mem_append.mp ha with h | h
          · exact f a h o ho
          · rw [List.mem_singleton.mp h, hD] at ho; cases ho
        | some x =>
          rw [q] at er jr
          obtain ⟨jg, jy⟩ := jr
          refine .inr ⟨jg, fun H' => ∃ m', m' < m + 1 ∧ LcI K H1 ρ1 D (wipe σ (own.map (·.2))) (wipeE en (own.map (·.2))) j g ft fe (.ok us M9) (i + 1) m' H', fun H' n => n, fun v H3 y => ?_⟩
          obtain ⟨ρ3, x3, rl3, ru⟩ := jy v H3 y
          obtain ⟨hv3, nD3⟩ := x3.side nD hv (by intro ps z; cases z)
          have x13 := x2.trans x3
          cases qg : g.en x (wipeE en (own.map (·.2))) with
          | none => simp only [qg] at er; cases er
          | some en3 =>
            simp only [qg] at er
            refine tg_ok qg ru (re2.ext x3) fun σ3 re3 wp => ?_
            refine ⟨(wp _ ho).trans ?_, ?_⟩
            · exact wipe_idem _ _
            obtain ⟨b, M4, e4⟩ := R.bindN_ok (fun q => by rw [q] at er; cases er)
            rw [e4] at er
            have er : R.ok us M9 = if b then (fe en3 M4).bindN fun y M3 => if acc.length < sizeLine then cLoop j g ft fe (wipeE en (own.map (·.2))) m (i + 1) (acc ++ [y]) M3 else .bad
              else cLoop j g ft fe (wipeE en (own.map (·.2))) m (i + 1) acc M4 := er
            refine ⟨ρ3, M2, en3, re3, rl3, ?_⟩
            rw [e4]
            intro b' H4 ρ4 x4 rl4 rb
            cases rb
            obtain ⟨hv4, nD4⟩ := x4.side nD3 hv3 (by intro ps z; cases z)
            have x14 := x13.trans x4
            cases b with
            | false =>
              rw [if_neg Bool.false_ne_true] at er
              rw [if_neg Bool.false_ne_true]
              exact ⟨m, Nat.lt_succ_self _, ⟨ρ4, M4, acc, vs, x14, rl4, nD4, hv4, rv.ext (x3.trans x4), re2.ext (x3.trans x4), er⟩⟩
            | true =>
              rw [if_pos rfl] at er
              rw [if_pos rfl]
              obtain ⟨y, M5, e5⟩ := R.bindN_ok (fun q => by rw [q] at er; cases er)
              refine ⟨ρ4, M4, en3, re3.ext x4, rl4, ?_⟩
              rw [e5]
              intro u H5 ρ5 x5 rl5 ru5
              obtain ⟨hv5, nD5⟩ := x5.side nD4 hv4 (by intro ps z; cases z)
              rw [e5] at er
              have er : R.ok us M9 = if acc.length < sizeLine then cLoop j g ft fe (wipeE en (own.map (·.2))) m (i + 1) (acc ++ [y]) M5 else .bad := er
              have x15 := x14.trans x5
              by_cases hl : acc.length < sizeLine
              · rw [if_pos hl] at er
                have rv5 : RepUs K H5 ρ5 vs acc := rv.ext (x3.trans (x4.trans x5))
                refine ⟨vs, hv5, by rw [Paired.length rv5]; exact hl, m, Nat.lt_succ_self _, ρ5, M5, acc ++ [y], vs ++ [u], x15.own hD hv5 (fun z => z) (by intro ps z; cases z), rl5.side nD5 hv5 (fun z => z) (by intro ps z; cases z), nD5, upd_same, ?_, (re2.ext (x3.trans (x4.trans x5))).ext0 (upd_e0 hv5 fun z => z), er⟩
                exact RepUs.ext0 (upd_e0 hv5 fun z => z) (paired_app rv5 (.cons ru5 .nil))
              · rw [if_neg hl] at er; cases er
theorem se_comp {elt tg iter : Expr} {ifs : List Expr} {scope : Scope} {own : List (Str × Nat)} {pos : Pos} {fi : En → Sto → R Wk} {g : Tg} {ft : En → Sto → R Bool} {fe : En → Sto → R U} (hc : X.calm = true) (hN : X.N.Nodup) (hi : SI X W tg iter fi) (ok : BlkOk X.N X.env.scope scope own)
    (hg : ∀ (s : Shared) (H : Hp) (C : Addr) (cl : List (Str × Addr)) (fp : List Addr), PG (X.blk s H scope (compEnvC scope cl C X.env) fp) tg (tgOf X.K g)) (ho : ∀ i ∈ g.is, i ∈ own.map (·.2))
    (ht : ∀ (s : Shared) (H : Hp) (C : Addr) (cl : List (Str × Addr)) (fp : List Addr), PTs (X.blk s H scope (compEnvC scope cl C X.env) fp) ifs (lT X.K W0 ft))
    (he : ∀ (s : Shared) (H : Hp) (C : Addr) (cl : List (Str × Addr)) (fp : List Addr), SE (X.blk s H scope (compEnvC scope cl C X.env) fp) W0 elt fe) (hs : ∀ x, foldedSetIterable iter X.env x = pure x := by intro _; rfl) :
    SE X W (.ListComp elt [⟨tg, iter, ifs, 0⟩] scope pos) (eComp (own.map (·.2)) fi g ft fe) :=
  pe_imp (pe_lc (te := lE X.K W0 fe) hc hN hi ok hg ht he hs) fun σ H Q h => tlc_of ho h
/-- without a condition -/
theorem pts_true {X : Cx} : PTs X [] (lT X.K W0 cTrue) := ⟨fun pins s σ H Q I h => pts_nil.run pins s σ H Q I (by
  obtain ⟨ρ, M, en, re, rl, z⟩ := h
  exact z.here rl rfl)⟩
theorem pts_of {X : Cx} {c : Expr} {f : En → Sto → R Bool} (h : ST X W0 c f) : PTs X [c] (lT X.K W0 f) := pts_one h
end
end RS

end
section
set_option Elab.async false
set_option linter.all false
set_option autoImplicit false
set_option maxRecDepth 100000
set_option maxHeartbeats 4000000
/-! RsStmt: the readings of statements. -/
namespace RS
open PySem PySem.Spec PyProof.Rows L2
variable [LT]
/-- how a statement ends -/
inductive O where
  | nx (en : En) (M : Sto) | rt (u : U) (M : Sto) | bk (en : En) (M : Sto) | ct (en : En) (M : Sto) | ex (c : Str) (fs : List (Str × PyData)) (en : En) (M : Sto) | bad
def R.thn {α : Type} (r : R α) (en : En) (k : α → Sto → O) : O := match r with
  | .ok a M => k a M
  | .ex c fs M => .ex c fs en M
  | .bad => .bad
def Ost (K : PySem.W.Frag) (W : WX) (D : Ends) (H : Hp) (ρ : List Addr) (o : O) : Prop := match o with
  | .nx en M => ∀ σ' H' ρ', Ext H ρ H' ρ' → Rel K H' ρ' M → EnR K H' ρ' σ' en → D.nx σ' H'
  | .rt u M => ∀ v H' ρ', Ext H ρ H' ρ' → Rel K H' ρ' M → RepU K H' ρ' v u → D.rt v H'
  | .bk en M => ∀ σ' H' ρ', Ext H ρ H' ρ' → Rel K H' ρ' M → EnR K H' ρ' σ' en → D.bk σ' H'
  | .ct en M => ∀ σ' H' ρ', Ext H ρ H' ρ' → Rel K H' ρ' M → EnR K H' ρ' σ' en → D.ct σ' H'
  | .ex c fs en M => ∀ cls d σ' H' ρ', Ext H ρ H' ρ' → Rel K H' ρ' M → EnR K H' ρ' σ' en → ExR K H' c fs cls d → W cls d σ' H'
  | .bad => False
def lS (K : PySem.W.Frag) (W : WX) (f : En → Sto → O) : TS := fun D σ H => ∃ ρ M en, EnR K H ρ σ en ∧ Rel K H ρ M ∧ Ost K W D H ρ (f en M)
abbrev SS (X : Cx) (W : WX) (st : Stmt) (f : En → Sto → O) : Prop := PS X st (lS X.K W f)
abbrev SB (X : Cx) (W : WX) (st : List Stmt) (f : En → Sto → O) : Prop := PSs X st (lS X.K W f)
section
variable {K : PySem.W.Frag} {W : WX} {D : Ends} {H H1 H' : Hp} {ρ ρ1 ρ' : List Addr} {M M1 : Sto}
theorem Ost.from (e : Ext H ρ H1 ρ1) : ∀ {o : O}, Ost K W D H ρ o → Ost K W D H1 ρ1 o
  | .nx _ _, h => fun σ' H' ρ' e' => h σ' H' ρ' (e.trans e')
  | .rt _ _, h => fun v H' ρ' e' => h v H' ρ' (e.trans e')
  | .bk _ _, h => fun σ' H' ρ' e' => h σ' H' ρ' (e.trans e')
  | .ct _ _, h => fun σ' H' ρ' e' => h σ' H' ρ' (e.trans e')
  | .ex _ _ _ _, h => fun c d σ' H' ρ' e' => h c d σ' H' ρ' (e.trans e')
  | .bad, h => h
variable {α β : Type} {rep : Hp → List Addr → β → α → Prop}
theorem Ost.thn {σ : L2.St} {en : En} (re : EnR K H ρ σ en) {k : α → Sto → O} : ∀ {r : R α}, Ost K W D H ρ (r.thn en k) →
    Pst K (fun c d H' => W c d σ H') rep H ρ r fun b H1 => ∃ ρ1 M1 a, Ext H ρ H1 ρ1 ∧ Rel K H1 ρ1 M1 ∧ rep H1 ρ1 b a ∧ Ost K W D H1 ρ1 (k a M1)
  | .ok a M, h => fun b H' ρ' e rl rp => ⟨ρ', M, a, e, rl, rp, Ost.from e h⟩
  | .ex c fs M, h => fun cls d H' ρ' e rl x => h cls d σ H' ρ' e rl (re.ext e) x
  | .bad, h => h
theorem Ost.here {en : En} (h : Ost K W D H ρ (.nx en M)) {σ : L2.St} (rl : Rel K H ρ M) (re : EnR K H ρ σ en) : D.nx σ H := h σ H ρ (Ext.refl _ _) rl re
theorem Ost.ret {u : U} {v : V} (h : Ost K W D H ρ (.rt u M)) (rl : Rel K H ρ M) (ru : RepU K H ρ v u) : D.rt v H := h v H ρ (Ext.refl _ _) rl ru
end

/-! ### the statements -/
def sNx (en : En) (M : Sto) : O := .nx en M
def sBk (en : En) (M : Sto) : O := .bk en M
def sCt (en : En) (M : Sto) : O := .ct en M
def sRtN (en : En) (M : Sto) : O := .rt (.d .none) M
def sBad (en : En) (M : Sto) : O := .bad
def sSeq (f g : En → Sto → O) (en : En) (M : Sto) : O := match f en M with
  | .nx en1 M1 => g en1 M1
  | o => o
def sEx (f : En → Sto → R U) (en : En) (M : Sto) : O := (f en M).thn en fun _ M1 => .nx en M1
def sRt (f : En → Sto → R U) (en : En) (M : Sto) : O := (f en M).thn en fun u M1 => .rt u M1
def sIf (c : En → Sto → R Bool) (f g : En → Sto → O) (en : En) (M : Sto) : O := (c en M).thn en fun b M1 => if b then f en M1 else g en M1
def sAs (f : En → Sto → R U) (g : Tg) (en : En) (M : Sto) : O := (f en M).thn en fun u M1 => match g.en u en with
  | some en1 => .nx en1 M1
  | none => .bad
def sPar (i j : Nat) (fs : En → Sto → R (List U)) (en : En) (M : Sto) : O := (fs en M).thn en fun us M1 => match us with
  | [u, v] => .nx ((en.set i (some u)).set j (some v)) M1
  | _ => .bad
def fLoop (j : Wk) (g : Tg) (body : En → Sto → O) : Nat → Nat → En → Sto → O
  | 0, _, _, _ => .bad
  | m + 1, i, en, M => match j.at i M with
    | some none => .nx en M
    | none => .bad
    | some (some x) => match g.en x en with
      | none => .bad
      | some en1 => match body en1 M with
        | .nx en2 M2 => fLoop j g body m (i + 1) en2 M2
        | .ct en2 M2 => fLoop j g body m (i + 1) en2 M2
        | .bk en2 M2 => .nx en2 M2
        | o => o
def sFor (fi : En → Sto → R Wk) (g : Tg) (body : En → Sto → O) (en : En) (M : Sto) : O := (fi en M).thn en fun j M1 => fLoop j g body (j.many M1) 0 en M1
section
variable {X : Cx} {W : WX} {pos : Pos} {st : Stmt} {rest sts sts2 : List Stmt} {f g : En → Sto → O}
theorem ps_imp {t t' : TS} (h : PS X st t) (i : ∀ D σ H, t' D σ H → t D σ H) : PS X st t' := ⟨fun pins s σ H D I q => h.run pins s σ H D I (i D σ H q)⟩
theorem pss_imp {t t' : TS} (h : PSs X sts t) (i : ∀ D σ H, t' D σ H → t D σ H) : PSs X sts t' := ⟨fun pins s σ H D I q => h.run pins s σ H D I (i D σ H q)⟩
theorem sb_nil : SB X W [] sNx := pss_imp pss_nil fun D σ H ⟨ρ, M, en, re, rl, z⟩ => z.here rl re
theorem sb_cons (h1 : SS X W st f) (h2 : SB X W rest g) : SB X W (st :: rest) (sSeq f g) :=
  pss_imp (pss_cons h1 h2) fun D σ H ⟨ρ, M, en, re, rl, z⟩ => by
    refine ⟨ρ, M, en, re, rl, ?_⟩
    unfold sSeq at z
    cases q : f en M with
    | nx en1 M1 => rw [q] at z; exact fun σ' H' ρ' e' rl' re' => ⟨ρ', M1, en1, re', rl', Ost.from e' z⟩
    | rt u M1 => rw [q] at z; exact z
    | bk en1 M1 => rw [q] at z; exact z
    | ct en1 M1 => rw [q] at z; exact z
    | ex c fs en1 M1 => rw [q] at z; exact z
    | bad => rw [q] at z; exact z
theorem sb_one (h1 : SS X W st f) : SB X W [st] f := pss_one h1
theorem ss_pass : SS X W (.Pass pos) sNx := ps_imp ps_pass fun D σ H ⟨ρ, M, en, re, rl, z⟩ => z.here rl re
theorem ss_break : SS X W (.Break pos) sBk := ps_imp ps_break fun D σ H ⟨ρ, M, en, re, rl, z⟩ => z σ H ρ (Ext.refl _ _) rl re
theorem ss_continue : SS X W (.Continue pos) sCt := ps_imp ps_continue fun D σ H ⟨ρ, M, en, re, rl, z⟩ => z σ H ρ (Ext.refl _ _) rl re
theorem ss_retN : SS X W (.Return none pos) sRtN := ps_imp ps_retN fun D σ H ⟨ρ, M, en, re, rl, z⟩ => z.ret rl rfl
theorem ss_bad : SS X W st sBad := ps_imp ps_never fun D σ H ⟨ρ, M, en, re, rl, z⟩ => z
variable {e : Expr} {fe : En → Sto → R U}
theorem ss_expr (he : SE X W e fe) (hs : swapsWith e none pos.line X.env = pure false := by rfl) : SS X W (.Expr e pos) (sEx fe) :=
  ps_imp (ps_expr he hs) fun D σ H ⟨ρ, M, en, re, rl, z⟩ => ⟨ρ, M, en, re, rl, Pst.mono (fun v H1 ⟨ρ1, M1, u, e1, rl1, ru, z1⟩ => z1.here rl1 (re.ext e1)) (Ost.thn re z)⟩
theorem ss_ret (he : SE X W e fe) : SS X W (.Return (some e) pos) (sRt fe) :=
  ps_imp (ps_ret he) fun D σ H ⟨ρ, M, en, re, rl, z⟩ => ⟨ρ, M, en, re, rl, Pst.mono (fun v H1 ⟨ρ1, M1, u, e1, rl1, ru, z1⟩ => z1.ret rl1 ru) (Ost.thn re z)⟩
theorem ss_if {c : Expr} {fc : En → Sto → R Bool} (hc : ST X W c fc) (ha : SB X W sts f) (hb : SB X W sts2 g) : SS X W (.If c sts sts2 pos) (sIf fc f g) :=
  ps_imp (ps_if hc ha hb) fun D σ H ⟨ρ, M, en, re, rl, z⟩ => ⟨ρ, M, en, re, rl, Pst.mono (fun b H1 ⟨ρ1, M1, b', e1, rl1, rb, z1⟩ => by
    subst rb
    cases b with
    | true => rw [if_pos rfl]; exact ⟨ρ1, M1, en, re.ext e1, rl1, z1⟩
    | false => rw [if_neg Bool.false_ne_true]; exact ⟨ρ1, M1, en, re.ext e1, rl1, z1⟩) (Ost.thn re z)⟩
theorem as_of {D : Ends} {σ : L2.St} {H : Hp} {g : Tg} (z : lS X.K W (sAs fe g) D σ H) : tAsg (lE X.K W fe) (tgOf X.K g) D σ H := by
  obtain ⟨ρ, M, en, re, rl, z⟩ := z
  refine ⟨ρ, M, en, re, rl, Pst.mono (fun v H1 h => ?_) (Ost.thn re z)⟩
  obtain ⟨ρ1, M1, u, e1, rl1, ru, z1⟩ := h
  cases q : g.en u en with
  | none => simp only [q] at z1; exact z1.elim
  | some en1 =>
    simp only [q] at z1
    exact tg_ok q ru (re.ext e1) fun σ' re' _ => z1.here rl1 re'
theorem ss_asg {tg : Expr} {g : Tg} (he : SE X W e fe) (hg : PG X tg (tgOf X.K g)) (hs : swapsWithSole [tg] e pos.line X.env = pure false := by rfl) (hw : swappedStores [tg] e X.env = pure none := by rfl)
    (h1 : (assignEach [tg] X.env).map (·.2) = [assign tg X.env] := by rfl) : SS X W (.Assign [tg] e pos) (sAs fe g) :=
  ps_imp (ps_asg he hg hs hw h1) fun D σ H z => as_of z
theorem ss_set {i : Nat} {x : Str} {pos' : Pos} (hN : X.N.Nodup) (hi : X.N[i]? = some x) (hx : Loc X.env.scope x) (he : SE X W e fe) (hs : swapsWith e (some (.Name x pos')) pos.line X.env = pure false := by rfl) (hf : X.fn x = true ∨ X.env.scope.names.lookup x = some .local := by first | exact .inl rfl | exact .inr rfl | assumption) :
    SS X W (.Assign [.Name x pos'] e pos) (sAs fe (.nm i)) := ps_imp (ps_set hN hi hx he hs hf) fun D σ H z => as_of (g := .nm i) z
theorem ss_par {i j : Nat} {x y : Str} {a b : Expr} {fs : En → Sto → R (List U)} {px py pt : Pos} {kt k2 pt2} (hc : X.calm = true) (hN : X.N.Nodup) (hi : X.N[i]? = some x) (hj : X.N[j]? = some y) (hij : i ≠ j)
    (hx : X.env.scope.names.lookup x = some .local) (hy : X.env.scope.names.lookup y = some .local) (ha : SA X W [a, b] fs)
    (hw : swappedStores [.Tuple [.Name x px, .Name y py] kt pt] (.Tuple [a, b] k2 pt2) X.env = pure (some [x, y]))
    (hs : swapsWithSole [.Tuple [.Name x px, .Name y py] kt pt] (.Tuple [a, b] k2 pt2) pos.line X.env = pure false := by rfl) :
    SS X W (.Assign [.Tuple [.Name x px, .Name y py] kt pt] (.Tuple [a, b] k2 pt2) pos) (sPar i j fs) :=
  ps_imp (ps_par hc hN hi hj hij hx hy ha hw hs) fun D σ H ⟨ρ, M, en, re, rl, z⟩ => ⟨ρ, M, en, re, rl, Pst.mono (fun vs H1 ⟨ρ1, M1, us, e1, rl1, rus, z1⟩ => by
    split at z1
    · obtain ⟨v, w, rfl, r1, r2⟩ := repUs2 rus
      exact ⟨v, w, rfl, z1.here rl1 (((re.ext e1).set i r1).set j r2)⟩
    · exact z1.elim) (Ost.thn re z)⟩
theorem ss_for {tg iter : Expr} {fi : En → Sto → R Wk} {g : Tg} (hp : PassesOwn (model X.prog X.w) X.A X.env X.xe) (hc : X.calm = true) (hi : SI X W tg iter fi) (hg : PG X tg (tgOf X.K g)) (hb : SB X W sts f)
    (hs : ∀ x, foldedSetIterable iter X.env x = pure x := by intro _; rfl) : SS X W (.For tg iter sts [] pos) (sFor fi g f) :=
  ps_imp (ps_for hp hc hi hg hb hs) fun D σ H ⟨ρ, M, en, re, rl, z⟩ => ⟨ρ, M, en, re, rl, Pst.mono (fun J H1 h => by
    obtain ⟨ρ1, M1, j, e1, rl1, rj, z1⟩ := h
    refine ⟨fun i m σ H => ∃ ρ M en, Ext H1 ρ1 H ρ ∧ EnR X.K H ρ σ en ∧ Rel X.K H ρ M ∧ Ost X.K W D H ρ (fLoop j g f m i en M), ⟨_, ρ1, M1, en, Ext.refl _ _, re.ext e1, rl1, z1⟩, ?_⟩
    rintro i m σ2 H2 ⟨ρ2, M2, en2, x2, re2, rl2, z2⟩
    cases m with
    | zero => exact z2.elim
    | succ m =>
      unfold fLoop at z2
      have jr := rj i H2 ρ2 M2 x2 rl2
      cases q : j.at i M2 with
      | none => rw [q] at z2; exact z2.elim
      | some o =>
        cases o with
        | none =>
          rw [q] at z2 jr
          exact .inl ⟨jr, z2.here rl2 re2⟩
        | some x =>
          rw [q] at z2 jr
          obtain ⟨jg, jy⟩ := jr
          refine .inr ⟨jg, fun σ' H' => ∃ m', m' < m + 1 ∧ ∃ ρ M en, Ext H1 ρ1 H' ρ ∧ EnR X.K H' ρ σ' en ∧ Rel X.K H' ρ M ∧ Ost X.K W D H' ρ (fLoop j g f m' (i + 1) en M), fun σ' H' n => n, fun v H3 y => ?_⟩
          obtain ⟨ρ3, x3, rl3, ru⟩ := jy v H3 y
          cases qg : g.en x en2 with
          | none => simp only [qg] at z2; exact z2.elim
          | some en3 =>
            simp only [qg] at z2
            refine tg_ok qg ru (re2.ext x3) fun σ3 re3 _ => ⟨ρ3, M2, en3, re3, rl3, ?_⟩
            have again : ∀ en4 M4, Ost X.K W D H2 ρ2 (fLoop j g f m (i + 1) en4 M4) → ∀ σ' H' ρ', Ext H3 ρ3 H' ρ' → Rel X.K H' ρ' M4 → EnR X.K H' ρ' σ' en4 →
                ∃ m', m' < m + 1 ∧ ∃ ρ M en, Ext H1 ρ1 H' ρ ∧ EnR X.K H' ρ σ' en ∧ Rel X.K H' ρ M ∧ Ost X.K W D H' ρ (fLoop j g f m' (i + 1) en M) := fun en4 M4 z4 σ' H' ρ' e' rl' re' =>
              ⟨m, Nat.lt_succ_self _, ρ', M4, en4, x2.trans (x3.trans e'), re', rl', Ost.from (x3.trans e') z4⟩
            cases qb : f en3 M2 with
            | nx en4 M4 => rw [qb] at z2; exact again en4 M4 z2
            | ct en4 M4 => rw [qb] at z2; exact again en4 M4 z2
            | bk en4 M4 => rw [qb] at z2; exact fun σ' H' ρ' e' rl' re' => z2 σ' H' ρ' (x3.trans e') rl' re'
            | rt u M4 => rw [qb] at z2; exact fun v' H' ρ' e' rl' ru' => z2 v' H' ρ' (x3.trans e') rl' ru'
            | ex c fs en4 M4 => rw [qb] at z2; exact fun c' d' σ' H' ρ' e' rl' re' xr => z2 c' d' σ' H' ρ' (x3.trans e') rl' re' xr
            | bad => rw [qb] at z2; exact z2.elim) (Ost.thn re z)⟩
end
end RS

end
section
set_option Elab.async false
set_option linter.all false
set_option autoImplicit false
set_option maxRecDepth 100000
set_option maxHeartbeats 4000000
/-! RsItem: stores into items, stores by several targets, o[i] += e. -/
namespace RS
open PySem PySem.Spec PyProof.Rows L2
variable [LT]
section
variable {X : Cx} {W : WX}
theorem get_list : PGet X (rIxL X.K) := by
  intro pins s σ H x y v u Q I rx ry h
  obtain ⟨p, xs, i, z, rfl, rfl, hq, he, q⟩ := h
  cases rx
  obtain ⟨t, rfl⟩ := ry
  obtain ⟨its, r, pl, hz⟩ := I.list hq
  obtain ⟨j, h1, h2, h3, h4, h5⟩ := atI_get he
  obtain ⟨w, ew, rw'⟩ := r.get h2
  have hl := r.length
  have hn := line63
  have fin : EP X pins σ Q w s := ⟨z, H, I, rw', q⟩
  by_cases h0 : 0 ≤ i
  · have hj : i.toNat = j := by
      rw [seqIndex_of h0 h5] at h1
      exact Option.some.inj h1
    exact wpAny_getItem_list pl.isList h0 (by omega) (by rw [hj]; simpa using ew) fin
  · have hj : (i + (its.toArray.size : Int)).toNat = j := by
      rw [seqIndex_neg (by omega) h4] at h1
      rw [List.size_toArray, ← hl]
      exact Option.some.inj h1
    exact wpAny_getItem_list_neg pl.isList (by omega) (by rw [List.size_toArray] <;> omega) (by omega) (by rw [hj]; simpa using ew) fin
theorem paired_set {α β : Type} {F : α → β → Prop} {x : α} {y : β} (h : F x y) : ∀ {l₁ : List α} {l₂ : List β}, Paired F l₁ l₂ → ∀ j : Nat, Paired F (l₁.set j x) (l₂.set j y)
  | _, _, .nil, _ => .nil
  | _, _, .cons f t, 0 => .cons h t
  | _, _, .cons f t, j + 1 => .cons f (paired_set h t j)
/-- a store by a target -/
abbrev G := U → En → Sto → O
def lG (K : PySem.W.Frag) (W : WX) (g : G) : TG := fun v σ H Q => ∃ ρ M en u, EnR K H ρ σ en ∧ Rel K H ρ M ∧ RepU K H ρ v u ∧ Ost K W { nx := Q, rt := fun _ _ => False } H ρ (g u en M)
abbrev Gs := List U → En → Sto → O
def lGs (K : PySem.W.Frag) (W : WX) (g : Gs) : TGs := fun vs σ H Q => ∃ ρ M en us, EnR K H ρ σ en ∧ Rel K H ρ M ∧ RepUs K H ρ vs us ∧ Ost K W { nx := Q, rt := fun _ _ => False } H ρ (g us en M)
abbrev SG (X : Cx) (W : WX) (e : Expr) (g : G) : Prop := PG X e (lG X.K W g)
abbrev SGs (X : Cx) (W : WX) (es : List Expr) (g : Gs) : Prop := PGs X es (lGs X.K W g)
theorem pg_imp {e : Expr} {t t' : TG} (h : PG X e t) (i : ∀ v σ H Q, t' v σ H Q → t v σ H Q) : PG X e t' := ⟨fun pins s σ H v u Q I r q => h.run pins s σ H v u Q I r (i v σ H Q q)⟩
theorem pgs_imp {e : List Expr} {t t' : TGs} (h : PGs X e t) (i : ∀ v σ H Q, t' v σ H Q → t v σ H Q) : PGs X e t' := ⟨fun pins s σ H v u Q I r q => h.run pins s σ H v u Q I r (i v σ H Q q)⟩
def gN (i : Nat) : G := fun u en M => .nx (en.set i (some u)) M
def setU (o i v : U) (M : Sto) : Option Sto := match o, i with
  | .r l, .d (.int k) => match M[l]? with
    | some (.lst us) => match ixN us.length k with
      | some j => some (M.set l (.lst (us.set j v)))
      | none => none
    | _ => none
  | _, _ => none
def gS (fo fi : En → Sto → R U) : G := fun v en M => (fo en M).thn en fun o M1 => (fi en M1).thn en fun i M2 => match setU o i v M2 with
  | some M3 => .nx en M3
  | none => .bad
def gs0 : Gs := fun us en M => match us with
  | [] => .nx en M
  | _ => .bad
def gs1 (g : G) (gs : Gs) : Gs := fun us en M => match us with
  | u :: us => (match g u en M with
    | .nx en1 M1 => gs us en1 M1
    | .ex c fs en1 M1 => .ex c fs en1 M1
    | _ => .bad)
  | [] => .bad
def gT (n : Nat) (gs : Gs) : G := fun u en M => match u with
  | .d (.tuple xs) => if xs.length = n then gs (xs.map .d) en M else .bad
  | _ => .bad
variable {pos : Pos}
theorem sg_name {i : Nat} {x : Str} (hN : X.N.Nodup) (hi : X.N[i]? = some x) (hx : Loc X.env.scope x) (hf : X.fn x = true ∨ X.env.scope.names.lookup x = some .local := by first | exact .inl rfl | exact .inr rfl | assumption) : SG X W (.Name x pos) (gN i) :=
  pg_imp (pg_name hN hi hx hf) fun v σ H Q ⟨ρ, M, en, u, re, rl, ru, z⟩ => z.here rl (re.set i ru)
theorem setU_ok {K : PySem.W.Frag} {H : Hp} {ρ : List Addr} {M M' : Sto} {x y v : V} {o i u : U} (rx : RepU K H ρ x o) (ry : RepU K H ρ y i) (rv : RepU K H ρ v u) (rl : Rel K H ρ M) (e : setU o i u M = some M') :
    ∃ p xs k j, x = .ref p ∧ y = .int k ∧ H p = some (.lst xs) ∧ ixN xs.length k = some j ∧ Rel K (upd H p (.lst (xs.set j v))) ρ M' ∧ Ext H ρ (upd H p (.lst (xs.set j v))) ρ := by
  unfold setU at e
  split at e
  · rename_i l k
    split at e
    · rename_i us hl
      split at e
      · rename_i j hj
        cases e
        obtain ⟨p, hp, rfl⟩ := rx
        obtain ⟨vs, hv, rvs⟩ := rl.ob _ _ _ hp hl
        have hput := rl.put (o := .lst (vs.set j v)) (x := .lst (us.set j u)) hp hl (by
          have e0 := Ext.put (o := .lst (vs.set j v)) hv (List.mem_of_getElem? hp) (fun z => z) (by intro ps z; cases z)
          exact ⟨_, upd_same, paired_set (rv.ext e0) (RepUs.ext e0 rvs) j⟩)
        exact ⟨p, vs, k, j, rfl, ry, hv, by rw [Paired.length rvs]; exact hj, hput.1, hput.2⟩
      · cases e
    · cases e
  · cases e
theorem sg_sub {o i : Expr} {fo fi : En → Sto → R U} (ho : SE X W o fo) (hi : SE X W i fi)
    (ha : ∀ v, assign (.Subscript o i pos) X.env v = (do
      let ov ← holding [v] (eval o X.env)
      let iv ← holding [v, ov] (eval i X.env)
      standAt pos
      holding [v, ov, iv] (setItem ov iv v)
      release [v, ov, iv] []) := by intro _; rfl) : SG X W (.Subscript o i pos) (gS fo fi) :=
  pg_imp (pg_sub ho hi set_list ha) fun v σ H Q ⟨ρ, M, en, u, re, rl, ru, z⟩ => ⟨ρ, M, en, re, rl, Pst.mono (fun x H1 ⟨ρ1, M1, o, e1, rl1, ro, z1⟩ =>
    ⟨ρ1, M1, en, re.ext e1, rl1, Pst.mono (fun y H2 ⟨ρ2, M2, i, e2, rl2, ri, z2⟩ => by
      cases q : setU o i u M2 with
      | none => simp only [q] at z2; exact z2.elim
      | some M3 =>
        simp only [q] at z2
        obtain ⟨p, xs, k, j, h1, h2, h3, h4, h5, h6⟩ := setU_ok (ro.ext e2) ri (ru.ext (e1.trans e2)) rl2 q
        exact ⟨p, xs, k, j, h1, h2, h3, h4, z2 _ _ _ h6 h5 ((re.ext (e1.trans e2)).ext h6)⟩) (Ost.thn (re.ext e1) z1)⟩) (Ost.thn re z)⟩
theorem sgs_nil : SGs X W [] gs0 :=
  pgs_imp pgs_nil fun vs σ H Q ⟨ρ, M, en, us, re, rl, ru, z⟩ => by
    unfold gs0 at z
    split at z
    · cases ru
      exact ⟨rfl, z.here rl re⟩
    · exact z.elim
theorem sgs_cons {e : Expr} {es : List Expr} {g : G} {gs : Gs} (h1 : SG X W e g) (h2 : SGs X W es gs) (hs : (assignEach (e :: es) X.env).map (·.2) = assign e X.env :: (assignEach es X.env).map (·.2) := by rfl) : SGs X W (e :: es) (gs1 g gs) :=
  pgs_imp (pgs_cons h1 h2 hs) fun vs σ H Q ⟨ρ, M, en, us, re, rl, ru, z⟩ => by
    unfold gs1 at z
    cases us with
    | nil => exact z.elim
    | cons u us =>
      cases ru with
      | cons r rr =>
        refine ⟨_, _, rfl, ρ, M, en, u, re, rl, r, ?_⟩
        cases q : g u en M with
        | nx en1 M1 => simp only [q] at z; exact fun σ' H' ρ' e' rl' re' => ⟨ρ', M1, en1, us, re', rl', RepUs.ext e' rr, Ost.from e' z⟩
        | ex c fs en1 M1 => simp only [q] at z; exact z
        | rt _ _ => simp only [q] at z; exact z.elim
        | bk _ _ => simp only [q] at z; exact z.elim
        | ct _ _ => simp only [q] at z; exact z.elim
        | bad => simp only [q] at z; exact z.elim
theorem sg_tup {es : List Expr} {k : Nat} {gs : Gs} {n : Nat} (hc : X.calm = true) (h : SGs X W es gs) (hn : (assignEach es X.env).length = n := by rfl) (hst : (assignEach es X.env).findIdx? (·.1) = none := by rfl) : SG X W (.Tuple es k pos) (gT n gs) :=
  pg_imp (pg_tup hc h hn hst) fun v σ H Q ⟨ρ, M, en, u, re, rl, ru, z⟩ => by
    unfold gT at z
    split at z
    · split at z
      · rename_i xs hl
        obtain ⟨a, vs, rfl, h2, h3⟩ := ru
        exact ⟨a, vs, rfl, h2, by rw [RepDs.length h3]; exact hl, ρ, M, en, _, re, rl, repDs_us h3, z⟩
      · exact z.elim
    · exact z.elim
variable {e : Expr} {fe : En → Sto → R U}
def sAsG (f : En → Sto → R U) (g : G) (en : En) (M : Sto) : O := (f en M).thn en fun u M1 => match g u en M1 with
  | .nx en1 M1 => .nx en1 M1
  | .ex c fs en1 M1 => .ex c fs en1 M1
  | _ => .bad
theorem Ost.only {K : PySem.W.Frag} {D : Ends} {H : Hp} {ρ : List Addr} {o : O} (z : Ost K W D H ρ (match o with | .nx en1 M1 => .nx en1 M1 | .ex c fs en1 M1 => .ex c fs en1 M1 | _ => .bad)) : Ost K W { nx := D.nx, rt := fun _ _ => False } H ρ o := by
  cases o with
  | nx _ _ => exact z
  | ex _ _ _ _ => exact z
  | rt _ _ => exact z.elim
  | bk _ _ => exact z.elim
  | ct _ _ => exact z.elim
  | bad => exact z.elim
theorem ss_asG {tg : Expr} {g : G} (he : SE X W e fe) (hg : SG X W tg g) (hs : swapsWithSole [tg] e pos.line X.env = pure false := by rfl) (hw : swappedStores [tg] e X.env = pure none := by rfl)
    (h1 : (assignEach [tg] X.env).map (·.2) = [assign tg X.env] := by rfl) : SS X W (.Assign [tg] e pos) (sAsG fe g) :=
  ps_imp (ps_asg he hg hs hw h1) fun D σ H ⟨ρ, M, en, re, rl, z⟩ => ⟨ρ, M, en, re, rl, Pst.mono (fun v H1 ⟨ρ1, M1, u, e1, rl1, ru, z1⟩ =>
    ⟨ρ1, M1, en, u, re.ext e1, rl1, ru, Ost.only z1⟩) (Ost.thn re z)⟩
/-- a, b, .. = x, y, ..: a tuple of any values between -/
def sTup (n : Nat) (fs : En → Sto → R (List U)) (gs : Gs) (en : En) (M : Sto) : O := (fs en M).thn en fun us M1 => if us.length = n ∧ n ≤ sizeLine then match gs us en M1 with
  | .nx en1 M1 => .nx en1 M1
  | .ex c fs en1 M1 => .ex c fs en1 M1
  | _ => .bad else .bad
theorem ss_tup {es xs : List Expr} {k k2 n : Nat} {pt pt2 : Pos} {fs : En → Sto → R (List U)} {gs : Gs} (hc : X.calm = true) (ha : SA X W xs fs) (h : SGs X W es gs) (hn : (assignEach es X.env).length = n := by rfl) (hst : (assignEach es X.env).findIdx? (·.1) = none := by rfl)
    (hs : swapsWithSole [.Tuple es k pt] (.Tuple xs k2 pt2) pos.line X.env = pure false := by rfl) (hw : swappedStores [.Tuple es k pt] (.Tuple xs k2 pt2) X.env = pure none := by rfl)
    (h1 : (assignEach [.Tuple es k pt] X.env).map (·.2) = [assign (.Tuple es k pt) X.env] := by rfl) : SS X W (.Assign [.Tuple es k pt] (.Tuple xs k2 pt2) pos) (sTup n fs gs) :=
  ps_imp (ps_asg (pe_tup ha) (pg_tup hc h hn hst) hs hw h1) fun D σ H ⟨ρ, M, en, re, rl, z⟩ => ⟨ρ, M, en, re, rl, Pst.mono (fun vs H1 h => by
    obtain ⟨ρ1, M1, us, e1, rl1, rus, z1⟩ := h
    by_cases hl : us.length = n ∧ n ≤ sizeLine
    · rw [if_pos hl] at z1
      refine ⟨by rw [Paired.length rus, hl.1]; exact hl.2, fun p hp => ⟨p, vs, rfl, SqT.of upd_same, by rw [Paired.length rus]; exact hl.1, ρ1, M1, en, us, ?_, rl1.old hp, RepUs.ext (Ext.old hp) rus, Ost.only (Ost.from (Ext.old hp) z1)⟩⟩
      exact (re.ext e1).ext (Ext.old hp)
    · rw [if_neg hl] at z1; exact z1.elim) (Ost.thn re z)⟩
/-- o[i] += e, o a list, of whole numbers -/
def getI (o i : U) (M : Sto) : Option Int := match o, i with
  | .r l, .d (.int k) => (match M[l]? with
    | some (.lst us) => (match atI us k with
      | some (.d (.int x)) => some x
      | _ => none)
    | _ => none)
  | _, _ => none
theorem getI_ok {K : PySem.W.Frag} {H : Hp} {ρ : List Addr} {M : Sto} {x y : V} {o i : U} {z : Int} (rx : RepU K H ρ x o) (ry : RepU K H ρ y i) (rl : Rel K H ρ M) (e : getI o i M = some z) :
    ∃ p xs k, x = .ref p ∧ y = .int k ∧ SqL K H p xs ∧ atI xs k = some (.int z) := by
  unfold getI at e
  split at e
  · rename_i l k
    split at e
    · rename_i us hl
      split at e
      · rename_i j hj
        cases e
        obtain ⟨p, hp, rfl⟩ := rx
        obtain ⟨vs, hv, rvs⟩ := rl.ob _ _ _ hp hl
        obtain ⟨v2, e4, e5⟩ := repUs_at rvs hj
        cases e5
        exact ⟨p, vs, k, rfl, ry, SqL.of hv, e4⟩
      · cases e
    · cases e
  · cases e
def sAug (op : Int → Int → Int) (fo fi fe : En → Sto → R U) (en : En) (M : Sto) : O := (fo en M).thn en fun o M1 => (fi en M1).thn en fun i M2 => match getI o i M2 with
  | some x => (fe en M2).thn en fun y M3 => (match y with
    | .d (.int y) => (match setU o i (.d (.int (op x y))) M3 with
      | some M4 => .nx en M4
      | none => .bad)
    | _ => .bad)
  | none => .bad
theorem ss_aug {o i : Expr} {fo fi fe : En → Sto → R U} {f : Int → Int → Int} {op : Operator} {tpos : Pos} (ho : SE X W o fo) (hi : SE X W i fi) (he : SE X W e fe) (hp : PIp X op (ipI f))
    (ha : ∀ ov iv new, augStore i ov iv new = (do holding [new, ov, iv] (setItem ov iv new); release [new, ov, iv] []; pure .next) := by intros; rfl) : SS X W (.AugAssign (.Subscript o i tpos) op e pos) (sAug f fo fi fe) :=
  ps_imp (ps_augS ho hi get_list he hp set_list ha) fun D σ H ⟨ρ, M, en, re, rl, z⟩ => ⟨ρ, M, en, re, rl, Pst.mono (fun x H1 ⟨ρ1, M1, o, e1, rl1, ro, z1⟩ =>
    ⟨ρ1, M1, en, re.ext e1, rl1, Pst.mono (fun y H2 h => by
      obtain ⟨ρ2, M2, i, e2, rl2, ri, z2⟩ := h
      split at z2
      · rename_i x0 q
        obtain ⟨p, xs, k, rfl, rfl, h3, h4⟩ := getI_ok (ro.ext e2) ri rl2 q
        refine ⟨p, xs, k, _, rfl, rfl, h3, h4, ρ2, M2, en, re.ext (e1.trans e2), rl2, Pst.mono (fun v H3 h => ?_) (Ost.thn (re.ext (e1.trans e2)) z2)⟩
        obtain ⟨ρ3, M3, y, e3, rl3, ry, z3⟩ := h
        split at z3
        · rename_i y0
          cases ry
          cases qs : setU o i (.d (.int (f x0 y0))) M3 with
          | none => simp only [qs] at z3; exact z3.elim
          | some M4 =>
            simp only [qs] at z3
            obtain ⟨p', xs', k', j', h1', h2', h3', h4', h5', h6'⟩ := setU_ok (v := .int (f x0 y0)) (u := .d (.int (f x0 y0))) ((ro.ext e2).ext e3) (ri.ext e3) rfl rl3 qs
            exact ⟨x0, y0, rfl, rfl, p', xs', k', j', h1', h2', h3', h4', z3 _ _ _ h6' h5' (((re.ext (e1.trans e2)).ext e3).ext h6')⟩
        · exact z3.elim
      · exact z2.elim) (Ost.thn (re.ext e1) z1)⟩) (Ost.thn re z)⟩
end
end RS

end
section
set_option Elab.async false
set_option linter.all false
set_option autoImplicit false
set_option maxRecDepth 100000
set_option maxHeartbeats 4000000
/-! RsSup: a def that begins with super().__init__(x, ..), in an own class over ValueError. -/
namespace RS
open PySem PySem.Spec PyProof.Rows L2
open PySem.W (ksEnv ksFn kxs_mw KxsAt kxs_ValueError kxs_callWith kxs_getMethod ks_superIn)
variable [LT]
section
variable {prog : Program} {w : World} {A : Around} {E : Value → Shared → Prop} {h : Heap} {g : Array GenState} {d : Drawn} {t : Nat} {os : OsState}
variable {nm q : Str} {C N : Addr} {bs bm : List Value} {hdct : Bool} {sn : List Str} {sub : List Value} {ab : Bool} {col : Option Bool} {dd : Option Addr} {k0 k1 k2 k3 k5 : Option Value}
/-- ValueError.__init__ bound to an object, called -/
theorem call_bwV {u e t0 : Addr} {rest : List Value} {Q : Value → Shared → Prop}
    (hC : h.get? C = some (excClassObj nm q C N bs bm hdct sn sub ab col dd k0 k1 k2 k3 k5 "ValueError.__new__")) (he : h.get? e = some (PySem.HandSPX.excO C t0)) (hu : h.get? u = some (kxs_mw "ValueError.__init__" e)) (hrest : rest.length ≤ sizeLine)
    (hq : ∀ h' t1, (∀ b o, b ≠ e → h.get? b = some o → h'.get? b = some o) → h'.get? e = some (PySem.HandSPX.excO C t1) → Q .none ⟨h', g, d, t, os⟩) :
    wpAny (model prog w) A (call (.ref u) rest) Q E ⟨h, g, d, t, os⟩ := by
  refine wpAny_call (codeAny_of_tree ?_)
  show wpAny _ A.in1 (callAny (.ref u) ⟨rest, []⟩) _ _ _
  simp only [callAny]
  refine wpAny_bind (wpAny_load hu ?_)
  simp only [kxs_mw, show (Value.type "method-wrapper" == Value.type "method" || Value.type "method-wrapper" == Value.type "builtin_function_or_method" || Value.type "method-wrapper" == Value.type "method-wrapper") = true by decide, if_true]
  refine W.KFB.if_so (by decide) ?_
  refine wpAny_bind (PySem.ESX.check_bound F.excBase_ValueError hC he rfl ?_)
  refine wpAny_bind (wpAny_pure (wpAny_pure ?_))
  refine ⟨Code.quiet_builtin _ (by decide +kernel), codeAny_builtin F.excBase_ValueError.initEntry ?_⟩
  rw [Around.under_plainId F.excBase_ValueError.init.plain _]
  wp_walk
  refine hq _ h.objs.size (fun b o hb ho => ?_) ?_
  · rw [Heap.get?_update_other _ _ (Ne.symm hb)]
    exact Heap.get?_push_of_some _ ho
  · rw [Heap.get?_update_self _ (Heap.get?_push_of_some _ he) rfl]
    rfl
end
/-- its context -/
def cxS (CX : CXT) (P : Program) (w : World) (K : PySem.W.Frag) (mg : Str → Option Value) (base : Heap) (N : List Str) (qual : Str) (scope : Scope) (f : Addr) (cd : Value) (cc : Addr) (A : Around) (outer : List Env) (s : Shared) (H : Hp) (E : XK) : Cx where
  prog := P
  w := w
  K := K
  mg := mg
  base := base
  A := A.deeper (ksEnv qual scope s.heap.objs.size f cd cc)
  N := N
  s_0 := s
  H_0 := H
  env := ksEnv qual scope s.heap.objs.size f cd cc
  outer := outer
  stack := ksEnv qual scope s.heap.objs.size f cd cc :: outer
  ex := []
  calm := true
  fn := fun _ => false
  pn := []
  xe := fun e s' => wpAny (model P w) (A.deeper (ksEnv qual scope s.heap.objs.size f cd cc)) (leaving (ksEnv qual scope s.heap.objs.size f cd cc) e) (fun _ s'' => CX outer H s E e s'') (fun e' s'' => CX outer H s E e' s'') s'
theorem lookup_nd {β : Type} {y : Str} {u : β} : ∀ {l : List (Str × β)}, (l.map (·.1)).Nodup → (y, u) ∈ l → l.lookup y = some u
  | [], _, h => by cases h
  | (k, v) :: l, nd, h => by
    rw [List.map_cons, List.nodup_cons] at nd
    rw [List.lookup_cons]
    rcases List.mem_cons.mp h with e | h
    · cases e
      simp
    · have hne : (y == k) = false := by
        apply beq_false_of_ne
        intro e
        exact nd.1 (e ▸ List.mem_map_of_mem (f := (·.1)) h)
      rw [hne]
      exact lookup_nd nd.2 h
theorem zip_rev {ps : List Str} {us : List Value} {i : Nat} {y : Str} {u : Value} (nd : ps.Nodup) (h1 : ps[i]? = some y) (h2 : us[i]? = some u) : (ps.zip us).reverse.lookup y = some u := by
  apply lookup_nd
  · rw [List.map_reverse, (List.reverse_perm _).nodup_iff]
    have : (ps.zip us).map (·.1) = ps.take us.length := by
      clear h1 h2 nd
      induction ps generalizing us with
      | nil => simp
      | cons p ps ih => cases us with
        | nil => simp
        | cons u us => simp [ih]
    rw [this]
    exact nd.sublist (List.take_sublist _ _)
  · rw [List.mem_reverse]
    refine List.mem_iff_getElem?.mpr ⟨i, ?_⟩
    rw [List.getElem?_zip_eq_some]
    exact ⟨h1, h2⟩
/-- the scope of such a def -/
structure SupScope (N P : List Str) (sc : Scope) : Prop where
  kind : sc.kind = .function
  co : sc.isCoroutine = false
  gen : sc.isGenerator = false
  nd : N.Nodup
  pre : N.take P.length = P
  par : ∀ x ∈ P, sc.names.lookup x = some .local
  nocell : ∀ y ∈ sc.names, y.2 ≠ .cell
  free : ∀ y ∈ sc.names, y.2 = .free → y.1 = ("__class__" : Str)
theorem inv_sup {CX : CXT} {P : Program} {w : World} {K : PySem.W.Frag} {mg : Str → Option Value} {base : Heap} {N ps : List Str} {qual : Str} {scope : Scope} {f cc : Addr} {cd : Value} {A : Around} {outer : List Env} {s : Shared} {H : Hp} {E : XK} {us : List Value} {vs : List V} {h1 : Heap} {tk : Nat} {oc : Obj} {D : Value}
    (S : SupScope N ps scope) (hd : A.handled = none) (e0 : Env0 P w K mg base A outer s H) (hl : vs.length = ps.length) (r : Vals vs us) (hcc : K.lookup cc = some oc) (hoc : oc.data = .cell (some D))
    (hns : h1.Ns s.heap.objs.size (fun x => (ps.zip us).reverse.lookup x)) (hk : ∀ b o, s.heap.get? b = some o → h1.get? b = some o) :
    Inv (cxS CX P w K mg base N qual scope f cd cc A outer s H E) [] (L2.start N vs) H { s with heap := h1, toks := tk } := by
  have hpl : ps.length ≤ N.length := by have := congrArg List.length S.pre; rw [List.length_take] at this; omega
  have noA : ∀ b : Addr, b ∉ (cxS CX P w K mg base N qual scope f cd cc A outer s H E).ex := fun b z => absurd (show b ∈ ([] : List Addr) from z) (by simp)
  have hb := e0.mod.kin _ _ hcc
  have cl : ∀ y c, (cxS CX P w K mg base N qual scope f cd cc A outer s H E).env.cells.lookup y = some c → y = ("__class__" : Str) ∧ c = cc := fun y c h => by
    have h : List.lookup y [(("__class__" : Str), cc)] = some c := h
    rw [List.lookup_cons] at h
    split at h
    · rename_i q
      cases h
      exact ⟨by simpa using q, rfl⟩
    · cases h
  refine ⟨⟨e0.mod, S.kind, rfl, rfl, Nat.le_refl _, fun y z c h1 h2 => (cl y c h1).1.trans (cl z c h2).1.symm, fun y hy => ?_, fun y c h _ => ?_, fun _ => hd, Around.frames_deeper e0.frames, .inr ⟨rfl, rfl⟩, fun b z => absurd z (noA b), e0.bs, e0.bsz, fun b _ _ => noA b, fun b z => absurd z (noA b), e0.funs, e0.frf⟩,
    rfl, e0.bare, Un.kept hk, ⟨_, hns, fun i y v h1 h2 h3 => ?_⟩, fun y c h => ?_, e0.hok.fresh (Nat.le_refl _), fun y c h => ?_, fun p hp => absurd (show p ∈ ([] : List (Addr × Obj)) from hp) (by simp), e0.hok.kept hk, ?_⟩
  · have hy : scope.names.lookup y = some .cell ∨ scope.names.lookup y = some .free := hy
    rcases hy with hy | hy
    · exact absurd rfl (S.nocell _ (PySem.mem_of_lookup hy))
    · obtain rfl := S.free _ (PySem.mem_of_lookup hy) rfl
      exact ⟨cc, by show List.lookup _ [(("__class__" : Str), cc)] = _; rw [List.lookup_cons]; simp⟩
  · cases h
  · have hi : i < vs.length := by
      unfold L2.start at h2
      by_cases hi : i < vs.length
      · exact hi
      · rw [List.getElem?_append_right (by simpa using hi)] at h2
        rw [List.getElem?_replicate] at h2
        split at h2 <;> cases h2
    have ha : vs[i]? = some v := by
      unfold L2.start at h2
      rw [List.getElem?_append_left (by simpa using hi), List.getElem?_map] at h2
      cases e : vs[i]? with
      | none => rw [e] at h2; cases h2
      | some a => rw [e] at h2; cases h2; rfl
    obtain ⟨u, hu, rv⟩ := r.get ha
    have hp : ps[i]? = some y := by
      rw [← S.pre, List.getElem?_take_of_lt (by omega)]; exact h1
    have ndP : ps.Nodup := by rw [← S.pre]; exact S.nd.sublist (List.take_sublist _ _)
    exact ⟨u, rv, .inl ⟨S.par y (List.mem_of_getElem? hp), zip_rev ndP hp hu⟩⟩
  · obtain ⟨_, rfl⟩ := cl y c h
    exact ⟨_, _, hk _ _ (e0.bs _ _ hb).1, hoc⟩
  · obtain ⟨_, rfl⟩ := cl y c h
    exact (e0.bs _ _ hb).2
  · unfold L2.start
    show _ = N.length
    rw [List.length_append, List.length_map, List.length_replicate]
    omega
/-- the first statement: super().__init__(e, ..), e .. local names -/
theorem sup_stmt {X : Cx} {σ : L2.St} {H : Hp} {s : Shared} {body : List Stmt} {f cc cda a C D : Addr} {qual : Str} {scope : Scope} {es : List Expr} {e : Expr} {t : TA} {p0 p1 p2 p3 p4 : Pos} {fd : FuncData} {ar : Arg} {vs : Array Value} {file : Str} {tf : Tok} {oc ccl cl : Value} {od cdd cld : Option Addr} {osl ccs csl : Array (Option Value)} {cdD cdC : ClassData} {Q : Flow → Shared → Prop}
    (I : Inv X [] σ H s) (hE : X.env = ksEnv qual scope X.env.locals f (.ref cda) cc)
    (hf : X.K.lookup f = some ⟨oc, od, .func fd, osl⟩) (hp : (fd.params.posonlyargs ++ fd.params.args).head? = some ar) (hi : X.N[0]? = some ar.arg) (hv : σ[0]? = some (some (.ref a)))
    (hcode : X.K.lookup cda = some ⟨ccl, cdd, .fields vs, ccs⟩) (hvs : vs[2]? = some (.str file tf)) (hfile : ((X.prog.main.file : Str) == file) = true)
    (hcell : X.K.lookup cc = some ⟨cl, cld, .cell (some (.ref D)), csl⟩) (hD : PySem.W.clsIn X.K D = some cdD) (hC : PySem.W.clsIn X.K C = some cdC) (hsub : PySem.W.mroIn X.K C (.ref D) = some true) (hmg : X.mg ("super" : Str) = none)
    (ho : PySem.W.nsIn X.K cStatics "thirdparty.any" = some none) (hm : PySem.W.alongIn X.K "__init__" ((cdC.mro.dropWhile (· != .ref D)).drop 1) = some (some (.builtin "ValueError.__init__"))) (hV : PySem.W.subIn X.K (.ref C) (.type "ValueError") = some true)
    (hks : scope.names.lookup ("super" : Str) = some .globalImplicit) (hkc : scope.names.lookup ("__class__" : Str) = some .free) (hka : scope.names.lookup ar.arg = some .local) (hk : scope.kind = .function)
    (htop : (X.prog.main.scope.names.lookup ("super" : Str)).isSome = false) (T : OexC X.K C) (hea : H a = some (exo a C none))
    (ha : PA X (e :: es) t) (ht : t σ H fun vs H1 => H1 = H ∧ vs.length ≤ 1000)
    (he : starEach (e :: es) X.env = (false, eval e X.env) :: starEach es X.env := by rfl) (hpl : (backTo p3 (starEach es X.env)).any (·.1) = false := by rfl)
    (hint : interactive X.env = false := by rfl) (hsw : swapsWith (.Call (.Attribute (.Call (.Name "super" p0) [] [] p1) "__init__" p2) (e :: es) [] p3) none p4.line X.env = pure false := by rfl)
    (pl : Sem Bool) (hev : eval (.Call (.Attribute (.Call (.Name "super" p0) [] [] p1) "__init__" p2) (e :: es) [] p3) X.env = (do
      let ov ← attributeBase (.Call (.Name "super" p0) [] [] p1) "__init__" X.env (eval (.Call (.Name "super" p0) [] [] p1) X.env)
      standAt p2.atName
      let (f, first) ← holding [ov] (getMethod ov "__init__" pl)
      callWith p3 f first (backTo p3 (starEach (e :: es) X.env)) []))
    (hq : ∀ s', Inv X [] σ H s' → Q .next s') :
    _root_.PySem.wpAt (model X.prog X.w) X.A (.func body X.env) (exec (.Expr (.Call (.Attribute (.Call (.Name "super" p0) [] [] p1) "__init__" p2) (e :: es) [] p3) p4) X.env) Q X.xe s := by
  have hkd : ∀ y, X.env.kindOf y = scope.names.lookup y := fun y => by rw [hE]; rfl
  obtain ⟨oD, hD1, hD2⟩ : ∃ oD, X.K.lookup D = some oD ∧ oD.data = .cls cdD := by
    unfold PySem.W.clsIn at hD
    split at hD
    · rename_i c d cd' sl ho
      cases hD
      exact ⟨_, ho, rfl⟩
    · cases hD
  refine PySem.ks_wpAt_Expr_any ?_ hint hsw
  refine PySem.ks_wpAt_MethodCall (pl := pl) ?_ hev
  refine PySem.ks_wpAt_super_base (by rw [hkd]; exact hks) (by rw [hkd]; exact hkc) (by decide) (by rw [hE]) (I.kIn _ _ hf) rfl hp (by rw [hE]) (I.kIn _ _ hcode) rfl hvs hfile htop ?_
  obtain ⟨mb, h1, h2⟩ := I.mod.blt
  refine PySem.W.ks_loadName_global I.ok.kind (by rw [hkd]; exact hks) (Calls.loadGlobal_builtin (by rw [I.ok.glob]; exact I.mod.glob.keeps I.bk) hmg (by rw [I.ok.blt]; exact h1.keeps I.bk) ((h2 _ (by decide)).trans (by rfl)) ⟨rfl, ?_⟩)
  refine wpAny_loadName_free I.ok.kind (by rw [hkd]; exact hkc) (by rw [hE]; rfl) ⟨_, I.kIn _ _ hcell, rfl⟩ ?_
  obtain ⟨m, hn, hl⟩ := I.loc
  obtain ⟨u, ru, hu⟩ := hl 0 ar.arg (.ref a) hi hv (.inl (by rw [hE]; exact hka))
  obtain rfl : u = Value.ref a := ru
  have hm0 : m ar.arg = some (.ref a) := by
    rcases hu with ⟨_, hu⟩ | ⟨hu, _⟩
    · exact hu
    · rw [hkd, hka] at hu
      rcases hu with hu | hu <;> cases hu
  refine wpAny_loadName_local I.ok.kind (by rw [hkd]; exact hka) hn hm0 ?_
  obtain ⟨nm, q, N, bs, bm, sn, sub, ab, col, dd, k0, k1, k2, k3, k5, hCl, hbm⟩ := T.cls
  obtain ⟨t1, hoa⟩ := exo_at I.hok hea
  obtain ⟨hp0, g, d, tk, os⟩ := s
  refine PySem.ks_wpAny_isType_cls (I.kIn _ _ hD1) hD2 ⟨rfl, ?_⟩
  refine PySem.ks_wpAny_call_super (I.kIn _ _ hD1) hD2 hoa rfl (fun c z => by cases z) (PySem.W.looks_mroIn I.kIn hsub) (fun h' hso hk' => ?_)
  have I1 : Inv X [] σ H ⟨h', g, d, tk, os⟩ := I.kept (t' := tk) hk'
  have hoa1 := hk' _ _ hoa
  have LI : PySem.W.Looks (model X.prog X.w) h' (isInstance (.ref a) (.type "ValueError")) true :=
    (PySem.W.InstAt.type (C := C) (od := none) ⟨hoa1, rfl, rfl, trivial⟩).andThen (PySem.W.looks_subIn I1.kIn hV)
  have hac : a ≠ C := by
    rintro rfl
    have z := I.kIn _ _ hCl
    rw [hoa] at z
    cases z
  refine kxs_getMethod kxs_ValueError hso (PySem.W.looks_opaque I1.kIn ho) (l₀ := cdC.mro) ?_ rfl I1.kIn hm LI hac (by decide) ?_
  · exact fun A Q E s k q => wpAny_bind ((PySem.W.looks_clsIn I1.kIn hC) A _ E s k (wpAny_pure q))
  have hp2 : ∀ b o, h'.get? b = some o → (h'.push (kxs_mw "ValueError.__init__" a)).get? b = some o := fun b o e => Heap.get?_push_of_some _ e
  have hu2 : (h'.push (kxs_mw "ValueError.__init__" a)).get? h'.objs.size = some (kxs_mw "ValueError.__init__" a) := Heap.get?_push_at rfl rfl
  have I2 : Inv X [] σ H ⟨h'.push (kxs_mw "ValueError.__init__" a), g, d, tk + 1, os⟩ := I1.kept (t' := tk + 1) hp2
  have P2 : Inv X [(h'.objs.size, kxs_mw "ValueError.__init__" a)] σ H ⟨h'.push (kxs_mw "ValueError.__init__" a), g, d, tk + 1, os⟩ := I2.pins_of fun p hp => by
    rw [List.mem_singleton.mp hp]
    obtain ⟨k0, k1, k2, k3, k4, k5⟩ := I1.fpOk (Nat.le_refl _) (I1.hok.fresh (Nat.le_refl _))
    exact ⟨hu2, k0, k1, k2, fun v z => by cases z⟩
  refine kxs_callWith (i := "ValueError.__init__") (x := a) (by rw [he]; show (false || (backTo p3 (starEach es X.env)).any (·.1)) = false; rw [hpl]; rfl) ?_
  rw [he]
  have z := ha.run p3 _ _ σ H _ P2 ht
  rw [he] at z
  refine Calls.evalArgs_plain (thn z fun us s3 h => ?_)
  obtain ⟨ws, H3, I3, r3, eH, hlen⟩ := h
  have eH' := eH.symm
  subst eH'
  have P3 := (I3.pin (h'.objs.size, kxs_mw "ValueError.__init__" a) (List.mem_append_right _ (List.mem_singleton.mpr rfl))).1
  refine ⟨P3, ?_⟩
  have I4 : Inv X [] σ H s3 := I3.pins_of fun p hp => absurd hp (by simp)
  obtain ⟨t4, hoa4⟩ := exo_at I4.hok hea
  obtain ⟨h4, g4, d4, tk4, os4⟩ := s3
  refine call_bwV (I4.kIn _ _ hCl) hoa4 P3 (by show us.length ≤ sizeLine; rw [← Paired.length r3, sizeLine_eq]; omega) fun h5 t5 k5' hx => ?_
  have J := I4.write (t' := tk4) (x := a) (e := a) (o := exo a C none) (by rw [hea]; exact True.intro) (.inl rfl) k5' ⟨_, hx⟩ (exo_ok hx)
  have eu : upd H a (exo a C none) = H := by
    funext b
    by_cases hb : b = a
    · rw [hb, upd_same, hea]
    · rw [upd_ne hb]
  rw [eu] at J
  exact hq _ J

/-- what is asked of the class and the text -/
structure SupOk (P : Program) (K : PySem.W.Frag) (mg : Str → Option Value) (f C cc cda D : Addr) (fd : FuncData) (ar : Arg) (scope : Scope) : Prop where
  lk : ∃ oc od osl, K.lookup f = some ⟨oc, od, .func fd, osl⟩
  arh : (fd.params.posonlyargs ++ fd.params.args).head? = some ar
  code : ∃ ccl cdd vs ccs file tf, K.lookup cda = some ⟨ccl, cdd, .fields vs, ccs⟩ ∧ vs[2]? = some (.str file tf) ∧ ((P.main.file : Str) == file) = true
  cell : ∃ cl cld csl, K.lookup cc = some ⟨cl, cld, .cell (some (.ref D)), csl⟩
  clD : ∃ cd, PySem.W.clsIn K D = some cd
  clC : ∃ cd, PySem.W.clsIn K C = some cd ∧ PySem.W.alongIn K "__init__" ((cd.mro.dropWhile (· != .ref D)).drop 1) = some (some (.builtin "ValueError.__init__"))
  sub : PySem.W.mroIn K C (.ref D) = some true
  mg : mg ("super" : Str) = none
  tp : PySem.W.nsIn K cStatics "thirdparty.any" = some none
  hV : PySem.W.subIn K (.ref C) (.type "ValueError") = some true
  ks : scope.names.lookup ("super" : Str) = some .globalImplicit
  kc : scope.names.lookup ("__class__" : Str) = some .free
  ka : scope.names.lookup ar.arg = some .local
  top : (P.main.scope.names.lookup ("super" : Str)).isSome = false
theorem fn_sup {CX : CXT} {P : Program} {w : World} {K : PySem.W.Frag} {mg : Str → Option Value} {base : Heap} {k : Nat} {f C cc cda D : Addr} {name qual : Str} {params : Arguments} {rest : List Stmt} {scope : Scope} {dV kV doc pm ct oc : Value} {an od : Option Addr}
    {osl : Array (Option Value)} {N ps : List Str} {sp : Sp} {ar : Arg} {es : List Expr} {e : Expr} {ta : TA} {p0 p1 p2 p3 p4 : Pos}
    (lk : K.lookup f = some ⟨oc, od, .func (ksFn name qual params (.Expr (.Call (.Attribute (.Call (.Name "super" p0) [] [] p1) "__init__" p2) (e :: es) [] p3) p4 :: rest) scope dV kV doc pm an (.ref cda) ct cc), osl⟩) (hcd : PySem.W.codeIn K (.ref cda) qual = true) (S : SupScope N ps scope)
    (hC : SupOk P K mg f C cc cda D (ksFn name qual params (.Expr (.Call (.Attribute (.Call (.Name "super" p0) [] [] p1) "__init__" p2) (e :: es) [] p3) p4 :: rest) scope dV kV doc pm an (.ref cda) ct cc) ar scope) (hi : N[0]? = some ar.arg) (T : OexC K C)
    (len : ∀ vs H Q E, sp vs H Q E → vs.length = ps.length) (pl : Env → Sem Bool)
    (hsw : ∀ env, swapsWith (.Call (.Attribute (.Call (.Name "super" p0) [] [] p1) "__init__" p2) (e :: es) [] p3) none p4.line env = pure false := by intro _; rfl)
    (hev : ∀ env, eval (.Call (.Attribute (.Call (.Name "super" p0) [] [] p1) "__init__" p2) (e :: es) [] p3) env = (do
      let ov ← attributeBase (.Call (.Name "super" p0) [] [] p1) "__init__" env (eval (.Call (.Name "super" p0) [] [] p1) env)
      standAt p2.atName
      let (f, first) ← holding [ov] (getMethod ov "__init__" (pl env))
      callWith p3 f first (backTo p3 (starEach (e :: es) env)) []))
    (hbody : ∀ (A : Around) (outer : List Env) (s : Shared) (H : Hp) (vs : List V) (Q : VK) (E : XK), Room k (A.deeper (ksEnv qual scope s.heap.objs.size f (.ref cda) cc)) → sp vs H Q E →
      PA (cxS CX P w K mg base N qual scope f (.ref cda) cc A outer s H E) (e :: es) ta ∧ ta (L2.start N vs) H (fun vs H1 => H1 = H ∧ vs.length ≤ 1000) ∧ (∃ a, vs[0]? = some (.ref a) ∧ H a = some (exo a C none)) ∧
      ∃ t, PSs (cxS CX P w K mg base N qual scope f (.ref cda) cc A outer s H E) rest t ∧ t { nx := fun _ H' => Q .non H', rt := Q } (L2.start N vs) H)
    (he : ∀ env, starEach (e :: es) env = (false, eval e env) :: starEach es env := by intro _; rfl) (hpl : ∀ env, (backTo p3 (starEach es env)).any (·.1) = false := by intro _; rfl) :
    FnOk P w K mg base CX (k + 1) f (ksFn name qual params (.Expr (.Call (.Attribute (.Call (.Name "super" p0) [] [] p1) "__init__" p2) (e :: es) [] p3) p4 :: rest) scope dV kV doc pm an (.ref cda) ct cc) ps sp := by
  refine ⟨len, fun A outer s H args us vs Q E hr e0 hb r hsp => ?_⟩
  have hl := len _ _ _ _ hsp
  have KX : K.In s.heap := e0.mod.kin.keeps fun b o e => (e0.bs b o e).1
  have lim : s.heap.NoLimit := e0.mod.nolimit.keeps fun b o e => (e0.bs b o e).1
  obtain ⟨cl, cld, csl, hcell⟩ := hC.cell
  obtain ⟨ccl, cdd, cvs, ccs, file, tf, hcode, hvs, hfile⟩ := hC.code
  obtain ⟨cdD, hD⟩ := hC.clD
  obtain ⟨cdC, hcC, hal⟩ := hC.clC
  obtain ⟨ha, hta, ⟨a, hv, hea⟩, t, ht, hq⟩ := hbody A outer s H vs Q E (hr.deeper _) hsp
  refine PySem.ks_codeAny_call_defAt (body := .Expr (.Call (.Attribute (.Call (.Name "super" p0) [] [] p1) "__init__" p2) (e :: es) [] p3) p4 :: rest) (binds := ps.zip us) hr.depth (KX _ _ lk) rfl lim (PySem.W.codeRec_of KX hcd) rfl hb S.nocell (fun y hy => S.par y.1 (List.of_mem_zip hy).1) (fun h₀ hns hk => ?_) S.co S.gen S.kind
  have I : Inv (cxS CX P w K mg base N qual scope f (.ref cda) cc A outer s H E) [] (L2.start N vs) H { s with heap := h₀, toks := s.toks + (ps.zip us).length } := inv_sup S hr.hd e0 hl r hcell rfl hns hk
  have fin : ∀ {σ' : L2.St} {H' : Hp} {v : V} {u : Value} {s' : Shared}, Inv (cxS CX P w K mg base N qual scope f (.ref cda) cc A outer s H E) [] σ' H' s' → RelV v u → Q v H' → CE outer P w H s Q u s' :=
    fun {σ' H' v u s'} J rv q => ⟨v, H', J.os, J.bare, J.base, J.hok, rv, q⟩
  refine PySem.ks_wpAt_execs_cons ?_
  refine sup_stmt (X := cxS CX P w K mg base N qual scope f (.ref cda) cc A outer s H E) I rfl lk hC.arh hi ?_ hcode hvs hfile hcell hD hcC hC.sub hC.mg hC.tp hal hC.hV hC.ks hC.kc hC.ka S.kind hC.top T hea ha hta (he _) (hpl _) (by show (scope.kind == ScopeKind.module && _) = false; rw [S.kind]; rfl) (hsw _) (pl _) (hev _) fun s' J => ?_
  · unfold L2.start
    have : 0 < vs.length := (List.getElem?_eq_some_iff.mp hv).1
    rw [List.getElem?_append_left (by simpa using this), List.getElem?_map, hv]
    rfl
  · refine wpAt_of_wpAny (wpAny_mono (ht.run [] s' (L2.start N vs) H _ J hq) (fun fl s2 hs => ?_) fun e s2 hs => hs)
    cases fl with
    | ret u =>
      obtain ⟨v, σ', H', J, rv, q⟩ := hs
      exact fin J rv q
    | next =>
      obtain ⟨σ', H', J, q⟩ := hs
      exact fin (v := V.non) (u := Value.none) J rfl q
    | brk =>
      obtain ⟨_, _, _, q⟩ := hs
      exact False.elim q
    | cont =>
      obtain ⟨_, _, _, q⟩ := hs
      exact False.elim q
end RS

end
section
set_option Elab.async false
set_option linter.all false
set_option autoImplicit false
set_option maxRecDepth 100000
set_option maxHeartbeats 4000000
/-! RsTry: raise, try, the making of own errors, lambdas. -/
namespace RS
open PySem PySem.Spec PyProof.Rows L2
variable [LT]
section
variable {X : Cx} {W : WX} {p pos pos' : Pos}
/-- raise C() -/
theorem pmk_own0 {x : Str} {C : Addr} {bmB : List Value} {B newId initId : String} (F : ExcBaseFacts B newId initId bmB) (q : PySem.W.excIn X.K C bmB newId = true) (gC : X.mg x = some (.ref C)) (kC : PySem.W.keepIn X.K (.ref C) = true) (r : Raises X (.ref C)) (hg : Gl X x)
    (hdb : (x == ("__debug__" : Str)) = false := by decide) : PMk X (.Call (.Name x p) [] [] pos) (fun _ H Q => Q (.ref C) none H) := by
  intro pins s σ H Q I h
  refine wpAny_Call_Name_kw (ld_glob I hg gC ?_ hdb)
  refine PySem.W.callWith_K0 I.kIn kC ?_
  show wpAny _ _ (call (.ref C) []) _ _ _
  obtain ⟨bm, N, nm, qn, bs, hdct, sn, sub, ab, col, dd, k0, k1, k2, k3, k5, mN, hC, hN, hni, T⟩ := exc_obj I.kIn q
  refine wpAny_call_exc_subT F T hC hN hni (fun h' e hm => ?_) (Nat.zero_le _)
  exact mk_of I hm r h (I.hok.gone hm.new)
def sRz (c : Str) (en : En) (M : Sto) : O := .ex c [] en M
theorem ss_raise0 {x c : Str} {bmB : List Value} {B newId initId : String} (hc : X.calm = true) (tk : Takes X W) (F : ExcBaseFacts B newId initId bmB) (q : PySem.W.excIn X.K (He.ga X.K c) bmB newId = true) (gC : X.mg x = some (.ref (He.ga X.K c))) (kC : PySem.W.keepIn X.K (.ref (He.ga X.K c)) = true)
    (r : Raises X (.ref (He.ga X.K c))) (hg : Gl X x) (hdb : (x == ("__debug__" : Str)) = false := by decide) : SS X W (.Raise (some (.Call (.Name x p) [] [] pos)) none pos') (sRz c) :=
  ps_imp (ps_raise hc tk (pmk_own0 F q gC kC r hg hdb)) fun D σ H ⟨ρ, M, en, re, rl, z⟩ => z _ _ σ H ρ (Ext.refl _ _) rl re ⟨rfl, .inl ⟨rfl, rfl⟩⟩
/-- what an own __init__ with fields promises -/
def kvs : List Str → List V → List (Str × V)
  | f :: fs, v :: vs => kvs fs vs ++ [(f, v)]
  | _, _ => []
def spI (C : Addr) (fn : List Str) : Sp := fun vs H Q E => ∃ a ws, vs = .ref a :: ws ∧ ws.length = fn.length ∧ H a = some (exo a C none) ∧ ∀ d, H d = none → d ≠ a → Q .non (upd (upd H d (exd d (kvs fn ws))) a (exo a C (some d)))
def zipF : List Str → List U → Option (List (Str × PyData))
  | [], [] => some []
  | f :: fs, .d x :: us => (zipF fs us).map ((f, x) :: ·)
  | _, _ => none
theorem zipF_len : ∀ {fn : List Str} {us : List U} {l : List (Str × PyData)}, zipF fn us = some l → us.length = fn.length
  | [], [], _, _ => rfl
  | f :: fs, .d x :: us, l, h => by
    have h : (zipF fs us).map ((f, x) :: ·) = some l := h
    cases q : zipF fs us with
    | none => rw [q] at h; cases h
    | some l' => simp [zipF_len q]
  | [], _ :: _, _, h => by cases h
  | _ :: _, [], _, h => by cases h
  | _ :: _, .r _ :: _, _, h => by cases h
  | _ :: _, .fz _ :: _, _, h => by cases h
theorem kvs_in {K : PySem.W.Frag} {H : Hp} {ρ : List Addr} : ∀ {fn : List Str} {us : List U} {vs : List V} {l : List (Str × PyData)}, fn.Nodup → zipF fn us = some l → RepUs K H ρ vs us → (∀ f v, (kvs fn vs).lookup f = some v → f ∈ fn) ∧ ∀ p ∈ l, p.1 ∈ fn ∧ ∃ v, (kvs fn vs).lookup p.1 = some v ∧ RepD K H p.2 v
  | [], [], _, _, _, h, r => by
    cases h
    cases r
    exact ⟨fun f v z => by simp [kvs] at z, fun p hp => by cases hp⟩
  | f :: fs, .d x :: us, _, l, nd, h, r => by
    have h : (zipF fs us).map ((f, x) :: ·) = some l := h
    cases q : zipF fs us with
    | none => rw [q] at h; cases h
    | some l' =>
      rw [q] at h
      cases h
      cases r with
      | cons r rr =>
        rename_i v vs
        obtain ⟨h1, h2⟩ := kvs_in (List.nodup_cons.mp nd).2 q rr
        have hf : (kvs fs vs).lookup f = none := by
          cases z : (kvs fs vs).lookup f with
          | none => rfl
          | some w => exact absurd (h1 f w z) (List.nodup_cons.mp nd).1
        have hap : ∀ g, (kvs (f :: fs) (v :: vs)).lookup g = ((kvs fs vs).lookup g).or ([(f, v)].lookup g) := fun g => by
          show (kvs fs vs ++ [(f, v)]).lookup g = _
          rw [List.lookup_append]
        refine ⟨fun g w z => ?_, fun p hp => ?_⟩
        · rw [hap] at z
          cases y : (kvs fs vs).lookup g with
          | some w' => exact List.mem_cons_of_mem _ (h1 g w' y)
          | none =>
            rw [y, Option.none_or, List.lookup_cons] at z
            split at z
            · rename_i e
              rw [show g = f by simpa using e]
              exact List.mem_cons_self
            · cases z
        · rcases List.mem_cons.mp hp with e | hp
          · cases e
            refine ⟨List.mem_cons_self, v, ?_, r⟩
            rw [hap, hf, Option.none_or, List.lookup_cons]
            simp
          · obtain ⟨k1, w, k2, k3⟩ := h2 p hp
            exact ⟨List.mem_cons_of_mem _ k1, w, by rw [hap, k2]; rfl, k3⟩
  | [], _ :: _, _, _, _, h, _ => by cases h
  | _ :: _, [], _, _, _, h, _ => by cases h
  | _ :: _, .r _ :: _, _, _, _, h, _ => by cases h
  | _ :: _, .fz _ :: _, _, _, _, h, _ => by cases h
def sRzF (c : Str) (fn : List Str) (fs : En → Sto → R (List U)) (en : En) (M : Sto) : O := (fs en M).thn en fun us M1 => match zipF fn us with
  | some l => if fn.length ≤ 1000 then .ex c l en M1 else .bad
  | none => .bad
theorem ss_raiseF {x c : Str} {CX : CXT} {fI : Addr} {k : Nat} {fd : FuncData} {ps fn : List Str} {e : Expr} {es : List Expr} {fs : En → Sto → R (List U)} (hc : X.calm = true) (tk : Takes X W) (nd : fn.Nodup) (T : OexC X.K (He.ga X.K c)) (iC : PySem.W.findIn X.K (.ref (He.ga X.K c)) "__init__" = some (some (.ref fI))) (tI : PySem.W.typeIn X.K (.ref fI) = some (.type "function"))
    (F1 : FnOk X.prog X.w X.K X.mg X.base CX k fI fd ps (spI (He.ga X.K c) fn)) (hr : Room (k + 1) X.A) (hb : Binds X.K fd ps []) (hx : Passes CX X (fun _ _ _ => False)) (hg : Gl X x) (hm : X.mg x = some (.ref (He.ga X.K c))) (ha : SA X W (e :: es) fs)
    (hdb : (x == ("__debug__" : Str)) = false := by decide) (he : starEach (e :: es) X.env = (false, eval e X.env) :: starEach es X.env := by rfl) (hpl : (backTo pos (starEach es X.env)).any (·.1) = false := by rfl) :
    SS X W (.Raise (some (.Call (.Name x p) (e :: es) [] pos)) none pos') (sRzF c fn fs) :=
  ps_imp (ps_raise hc tk (pmk_oex (dvs := []) T iC tI F1 hr hb .nil hx hg hm ha hdb he hpl)) fun D σ H ⟨ρ, M, en, re, rl, z⟩ => ⟨ρ, M, en, re, rl, Pst.mono (fun vs H1 ⟨ρ1, M1, us, e1, rl1, rus, z1⟩ => by
    cases q : zipF fn us with
    | none => simp only [q] at z1; exact z1.elim
    | some l =>
      simp only [q] at z1
      by_cases h1000 : fn.length ≤ 1000
      · rw [if_pos h1000] at z1
        have hl : vs.length = fn.length := (Paired.length rus).trans (zipF_len q)
        refine ⟨by omega, fun a hna => ⟨a, vs, by rw [List.append_nil], hl, upd_same, fun d hd hda => ⟨rfl, d, kvs fn vs, upd_same, by rw [upd_ne hda, upd_same], ?_, ?_⟩⟩⟩
        · rw [upd_ne hda] at hd; exact hd
        · rw [upd_ne hda] at hd
          have eH : upd (del (upd (upd (upd H1 a (exo a (He.ga X.K c) none)) d (exd d (kvs fn vs))) a (exo a (He.ga X.K c) (some d))) a) d (.xd (kvs fn vs)) = upd H1 d (.xd (kvs fn vs)) := by
            funext b
            by_cases hb : b = d
            · rw [hb, upd_same, upd_same]
            · rw [upd_ne hb, upd_ne hb]
              by_cases hba : b = a
              · rw [hba, del_same, hna]
              · rw [del_ne hba, upd_ne hba, upd_ne hb, upd_ne hba]
          rw [eH]
          have x1 := Ext.old (ρ := ρ1) (o := .xd (kvs fn vs)) hd
          refine z1 _ _ σ _ ρ1 x1 (rl1.old hd) ((re.ext e1).ext x1) ⟨rfl, .inr ⟨d, kvs fn vs, rfl, upd_same, fun p hp => ?_⟩⟩
          obtain ⟨_, v, k2, k3⟩ := (kvs_in nd q (RepUs.ext x1 rus)).2 p hp
          exact ⟨v, k2, k3⟩
      · rw [if_neg h1000] at z1; exact z1.elim) (Ost.thn re z)⟩

/-! ### try -/
/-- which classes a clause takes -/
def Takes1 (K : PySem.W.Frag) (c : Value) (mt : Str → Option Bool) : Prop := ∀ n b, mt n = some b → PySem.W.exmOne K (.ref (He.ga K n)) c = some b
def sTry (mt : Str → Option Bool) (f g : En → Sto → O) (en : En) (M : Sto) : O := match f en M with
  | .ex c fs en1 M1 => (match mt c with
    | some true => g en1 M1
    | some false => .ex c fs en1 M1
    | none => .bad)
  | o => o
theorem ss_try {x : Str} {c : Value} {body suite : List Stmt} {b₀ : Stmt} {np : Pos} {mt : Str → Option Bool} {f g : En → Sto → O} (hs : X.stack = X.env :: X.outer) (hf : X.env.frame = some X.env.locals) (hc : Names X x c) (tk : Takes X W) (hm : Takes1 X.K c mt)
    (hb : ∀ (W : WX) (pn : List (Addr × Obj)) (xe : Value → Shared → Prop), Takes (X.tr pn xe) W → PassesOwn (model X.prog X.w) X.A X.env xe → SB (X.tr pn xe) W body f)
    (hsu : ∀ (a : Addr) (oe : Obj) (pn : List (Addr × Obj)), SB (X.suite a ((a, oe) :: pn)) W0 (b₀ :: suite) g) (h0 : ∀ en M, (match g en M with | .ex _ _ _ _ => False | _ => True)) :
    SS X W (.Try body [.ExceptHandler (some (.Name x np)) none (b₀ :: suite) pos'] [] [] pos) (sTry mt f g) :=
  ps_imp (ps_try_only (tb := fun W => lS X.K W f) (ts := fun _ _ _ => lS X.K W0 g) hs hf hc tk hb (fun a oe cls d pn _ _ => hsu a oe pn)) fun D σ H ⟨ρ, M, en, re, rl, z⟩ => by
    refine ⟨ρ, M, en, re, rl, ?_⟩
    unfold sTry at z
    cases q : f en M with
    | nx _ _ => rw [q] at z; exact z
    | rt _ _ => rw [q] at z; exact z
    | bk _ _ => rw [q] at z; exact z
    | ct _ _ => rw [q] at z; exact z
    | bad => rw [q] at z; exact z
    | ex n fs en1 M1 =>
      simp only [q] at z
      intro cls d σ' H' ρ' e' rl' re' xr
      cases qm : mt n with
      | none => simp only [qm] at z; exact z.elim
      | some b =>
        refine ⟨b, by rw [xr.1]; exact hm n b qm, fun hb a _ => ?_, fun hb => ?_⟩
        · subst hb
          simp only [qm] at z
          refine ⟨ρ', M1, en1, re', rl', ?_⟩
          have z := Ost.from e' z
          have h0 := h0 en1 M1
          cases qg : g en1 M1 with
          | ex _ _ _ _ => rw [qg] at h0; exact h0.elim
          | nx _ _ => rw [qg] at z; exact z
          | rt _ _ => rw [qg] at z; exact z
          | bk _ _ => rw [qg] at z; exact z
          | ct _ _ => rw [qg] at z; exact z
          | bad => rw [qg] at z; exact z
        · subst hb
          simp only [qm] at z
          exact z cls d σ' H' ρ' e' rl' re' xr
/-- try .. except C as n: return (n.f, n.g) -/
def sTryF (mt : Str → Option Bool) (i : Nat) (n1 n2 : Str) (f : En → Sto → O) (en : En) (M : Sto) : O := match f en M with
  | .ex c fs en1 M1 => (match mt c with
    | some true => (match fs.lookup n1, fs.lookup n2 with
      | some x, some y => if i < en1.length then .rt (.d (.tuple [x, y])) M1 else .bad
      | _, _ => .bad)
    | some false => .ex c fs en1 M1
    | none => .bad)
  | .nx en1 M1 => .nx en1 M1
  | .rt u M1 => .rt u M1
  | _ => .bad
theorem ss_tryF {x n n1 n2 : Str} {C : Addr} {i k : Nat} {body : List Stmt} {np p1 p2 p3 p4 p5 p6 : Pos} {mt : Str → Option Bool} {f : En → Sto → O} (hs : X.stack = X.env :: X.outer) (hf : X.env.frame = some X.env.locals) (hN : X.N.Nodup) (hi : X.N[i]? = some n) (hln : X.env.kindOf n = some .local) (hvis : Vis X.env.scope n)
    (hc : Names X x (.ref C)) (tk : Takes X W) (hm : Takes1 X.K (.ref C) mt) (hmt : ∀ c, mt c = some true → He.ga X.K c = C) (T : XfC X.K C) (hn1 : PySem.W.findIn X.K (.ref C) n1 = some none) (hn2 : PySem.W.findIn X.K (.ref C) n2 = some none)
    (hb : ∀ (W : WX) (pn : List (Addr × Obj)) (xe : Value → Shared → Prop), Takes (X.tr pn xe) W → PassesOwn (model X.prog X.w) X.A X.env xe → SB (X.tr pn xe) W body f)
    (hd : (n == ("__debug__" : Str)) = false := by decide) (hcd : (n == ("__classdict__" : Str)) = false := by decide)
    (hb1 : attributeBase (.Name n p1) n1 X.env (eval (.Name n p1) X.env) = eval (.Name n p1) X.env := by rfl) (hb2 : attributeBase (.Name n p3) n2 X.env (eval (.Name n p3) X.env) = eval (.Name n p3) X.env := by rfl)
    (he1 : starEach [.Attribute (.Name n p1) n1 p2, .Attribute (.Name n p3) n2 p4] X.env = [(false, eval (.Attribute (.Name n p1) n1 p2) X.env), (false, eval (.Attribute (.Name n p3) n2 p4) X.env)] := by rfl)
    (he2 : starEach [.Attribute (.Name n p3) n2 p4] X.env = [(false, eval (.Attribute (.Name n p3) n2 p4) X.env)] := by rfl) :
    SS X W (.Try body [.ExceptHandler (some (.Name x np)) (some n) [.Return (some (.Tuple [.Attribute (.Name n p1) n1 p2, .Attribute (.Name n p3) n2 p4] k p5)) p6] pos'] [] [] pos) (sTryF mt i n1 n2 f) := by
  refine ps_imp (ps_try_as (tb := fun W => lS X.K W f) (ts := fun a cls d => tRet (tTup (tCons (tXf a cls d C n1 (tVar i)) (tCons (tXf a cls d C n2 (tVar i)) tNil)))) hs hf hN hi hln hc tk hb (fun a oe cls d pn hz hfl => ?_)) fun D σ H h => ?_
  · have hv : PE (X.suite a ((a, oe) :: pn)) (.Name n p1) (tVar i) := pe_var hi hvis hd hcd
    have hv2 : PE (X.suite a ((a, oe) :: pn)) (.Name n p3) (tVar i) := pe_var hi hvis hd hcd
    exact pss_one (ps_ret (pe_tup (pa_cons (pe_xf T hn1 hz hfl hv hb1) (pa_cons (pe_xf T hn2 hz hfl hv2 hb2) pa_nil (by first | exact he2 | rfl)) (by first | exact he1 | rfl))))
  · obtain ⟨ρ, M, en, re, rl, z⟩ := h
    refine ⟨ρ, M, en, re, rl, ?_⟩
    unfold sTryF at z
    cases q : f en M with
    | nx _ _ => rw [q] at z; exact z
    | rt _ _ => rw [q] at z; exact z
    | bk _ _ => rw [q] at z; exact z.elim
    | ct _ _ => rw [q] at z; exact z.elim
    | bad => rw [q] at z; exact z
    | ex cn fs en1 M1 =>
      simp only [q] at z
      intro cls d σ' H' ρ' e' rl' re' xr
      cases qm : mt cn with
      | none => simp only [qm] at z; exact z.elim
      | some b =>
        refine ⟨b, by rw [xr.1]; exact hm cn b qm, fun hb a na => ?_, fun hb => ?_⟩
        · subst hb
          simp only [qm] at z
          cases q1 : fs.lookup n1 with
          | none => simp only [q1] at z; exact z.elim
          | some x1 =>
            cases q2 : fs.lookup n2 with
            | none => simp only [q1, q2] at z; exact z.elim
            | some x2 =>
              simp only [q1, q2] at z
              by_cases hil : i < en1.length
              · rw [if_pos hil] at z
                obtain ⟨hcls, xr2⟩ := xr
                rcases xr2 with ⟨hfs, _⟩ | ⟨dd, kv, hdd, hxd, hall⟩
                · rw [hfs] at q1; cases q1
                · obtain ⟨v1, k1, r1⟩ := hall (n1, x1) (PySem.mem_of_lookup q1)
                  obtain ⟨v2, k2, r2⟩ := hall (n2, x2) (PySem.mem_of_lookup q2)
                  have hcl : cls = .ref C := by rw [hcls, hmt cn qm]
                  have hσ : (σ'.set i (some (V.ref a)))[i]? = some (some (.ref a)) := List.getElem?_set_self (by rw [re'.len]; exact hil)
                  refine ⟨.ref a, hσ, rfl, hcl, dd, kv, v1, hdd, hxd, k1, .ref a, hσ, rfl, hcl, dd, kv, v2, hdd, hxd, k2, ?_⟩
                  refine ⟨by show 2 ≤ sizeLine; decide, fun p hp => z (.ref p) _ ρ' (e'.trans (Ext.old hp)) (rl'.old hp) ⟨p, [v1, v2], rfl, SqT.of upd_same, ?_⟩⟩
                  exact ⟨v1, [v2], rfl, RepD.ext (Ext.old (ρ := ρ') hp) _ _ r1, v2, [], rfl, RepD.ext (Ext.old (ρ := ρ') hp) _ _ r2, rfl⟩
              · rw [if_neg hil] at z; exact z.elim
        · subst hb
          simp only [qm] at z
          exact z cls d σ' H' ρ' e' rl' re' xr
end
end RS

end
section
set_option Elab.async false
set_option linter.all false
set_option autoImplicit false
set_option maxRecDepth 100000
set_option maxHeartbeats 4000000
/-! RsLam: x(lambda: e), x trying what it got. -/
namespace RS
open PySem PySem.Spec PyProof.Rows L2
open LamX (GivesTo TabB LamS lamCx lamEnv CodeO tLam pe_lamcall takes0)
variable [LT]
section
variable {X : Cx} {W : WX}
/-- try: a() / except x: return True; return False -/
def TTis (K : PySem.W.Frag) (CS : Value) : (XK → Hp → VK → Prop) → Hp → VK → Prop := fun tl H Q =>
  tl (fun cls _ H' => ∃ b, PySem.W.exmOne K cls CS = some b ∧ (b = true → Q (.bl true) H') ∧ (b = false → False)) H fun _ H' => Q (.bl false) H'
theorem is_gives {Ng : List Str} {x a e q : Str} {sg : Scope} {g : Addr} {CS : Value} {cdg : Value} {j j2 : Nat} {p1 p2 p3 p4 p5 p6 p7 p8 p9 p10 : Pos} (hge : sg.names.lookup e = some .globalImplicit) (hme : X.mg e = some CS) (hde : (e == ("__debug__" : Str)) = false) (h0 : ∀ f : Addr, (L2.start Ng [V.ref f])[0]? = some (some (V.ref f))) :
    GivesTo X Ng x sg g cdg [.Try [.Expr (.Call (.Name a p1) [] [] p2) p3] [.ExceptHandler (some (.Name e p4)) none [.Return (some (.Constant (.bool true) j p5)) p6] p7] [] [] p8, .Return (some (.Constant (.bool false) j2 p9)) p10] a q (TTis X.K CS) := by
  intro f c' s H Q tl act hc h
  have hgl : Gl (cxOf C8.CX0 X.prog X.w X.K X.mg X.base Ng x sg g cdg X.A X.stack s H C8.E0).nox e := hge
  refine ⟨_, pss_cons (ps_try_only (X := (cxOf C8.CX0 X.prog X.w X.K X.mg X.base Ng x sg g cdg X.A X.stack s H C8.E0).nox) (c := CS)
      (tb := fun W D σ H => ∃ Ech : XK, (∀ cls d σ' H', Ech cls d H' → W cls d σ' H') ∧ σ[0]? = some (some (.ref f)) ∧ H c' = some (CodeO c' q) ∧ tl Ech H fun _ H' => D.nx σ H')
      rfl rfl ⟨hgl, hde, .inl hme⟩ L2.takes0 (fun W pn xe tk _ => ?_) (fun a oe cls d pn _ _ => pss_one (ps_ret pe_bl))) (pss_one (ps_ret pe_bl)), ?_⟩
  · refine ⟨fun pins s' σ H' D I h' => ?_⟩
    obtain ⟨Ech, hW, h1, h2, h3⟩ := h'
    have hp := act W pn xe Ech p1 p2 tk hW
    have hq := pss_one (ps_expr (pos := p3) hp)
    exact hq.run pins s' σ H' D I ⟨h1, h2, h3⟩
  · exact ⟨fun cls _ H' => ∃ b, PySem.W.exmOne X.K cls CS = some b ∧ (b = true → Q (.bl true) H') ∧ (b = false → False), fun cls d σ' H' ⟨b, e1, e2, e3⟩ => ⟨b, e1, fun hb a _ => e2 hb, fun hb => e3 hb⟩, h0 f, hc, h⟩
def eLam (mt : Str → Option Bool) (f : En → Sto → R U) (en : En) (M : Sto) : R U := match f en M with
  | .ok _ M1 => .ok (.d (.bool false)) M1
  | .ex c fs M1 => (match mt c with
    | some true => .ok (.d (.bool true)) M1
    | _ => .bad)
  | .bad => .bad
theorem se_lam {x a : Str} {g c P : Addr} {k : Nat} {pg : Arguments} {bg : List Stmt} {sg : Scope} {dV kV doc pm cdv ct oc CS : Value} {an od : Option Addr} {osl : Array (Option Value)} {Ng : List Str}
    {params : Arguments} {body : Expr} {scope : Scope} {fb : En → Sto → R U} {mt : Str → Option Bool} {p lpos pos : Pos} (hg : Gl X x) (hm : X.mg x = some (.ref g)) (hk : PySem.W.keepIn X.K (.ref g) = true)
    (lk : X.K.lookup g = some ⟨oc, od, .func (PySem.W.fnOf x x pg bg sg dV kV doc pm an cdv ct), osl⟩) (hcg : PySem.W.codeIn X.K cdv x = true) (hb : L2.Binds X.K (PySem.W.fnOf x x pg bg sg dV kV doc pm an cdv ct) [a] []) (Sg : FnScope Ng [a] sg) (hNg : Ng[0]? = some a) (hva : Vis sg a)
    (hG : GivesTo X Ng x sg g cdv bg a (X.env.qual ++ "<lambda>") (TTis X.K CS)) (hmt : Takes1 X.K CS mt)
    (TB : TabB X.base X.mg c P) (hcode : X.env.code = .ref c) (hmT : (P, X.env.qual ++ "<lambda>") ∈ LT.T) (hu : ∀ p ∈ LT.T, p.1 = P → p.2 = X.env.qual ++ "<lambda>") (hr : Room (k + 2) X.A) (L : LamS X.env.scope scope) (hdef : defaultsOf params X.env = ([], []))
    (hbind : ∀ (q : Str) (cl : List (Str × Addr)) (pm cv ctv : Value), bindArgs (PySem.W.kla_fn "<lambda>" q params body scope cl pm cv ctv) ⟨[], []⟩ = pure [])
    (hbody : ∀ (A : Around) (outer : List Env) (s : Shared) (H : Hp) (E : XK) (f c' : Addr), Room k (A.deeper (lamEnv X scope s.heap.objs.size f c')) → SE (lamCx X A outer s H E scope f c') (fun cls d _ H => E cls d H) body fb)
    (hdb : (x == ("__debug__" : Str)) = false := by decide) (hd : (a == ("__debug__" : Str)) = false := by decide) (hcd : (a == ("__classdict__" : Str)) = false := by decide) :
    SE X W (.Call (.Name x p) [.Lambda params body scope lpos] [] pos) (eLam mt fb) :=
  pe_imp (pe_lamcall (t := fun E => lE X.K (fun cls d _ H => E cls d H) fb) hg hm hk lk hcg hb Sg hNg hva hG TB hcode hmT hu hr L hdef hbind hbody hdb hd hcd) fun σ H Q ⟨ρ, M, en, re, rl, z⟩ => by
    refine ⟨rl.tb, fun H1 eN T1 => ?_⟩
    have x1 := Ext.lam ρ eN
    have rl1 : Rel X.K H1 ρ M := rl.lam eN T1
    refine ⟨ρ, M, en, re.ext x1, rl1, ?_⟩
    unfold eLam at z
    cases q : fb en M with
    | ok u M1 =>
      simp only [q] at z
      exact fun v H' ρ' e' rl' ru => z (.bl false) H' ρ' (x1.trans e') rl' rfl
    | bad => simp only [q] at z; exact z
    | ex n fs M1 =>
      simp only [q] at z
      intro cls d H' ρ' e' rl' xr
      cases qm : mt n with
      | none => simp only [qm] at z; exact z.elim
      | some b =>
        cases b with
        | false => simp only [qm] at z; exact z.elim
        | true =>
          simp only [qm] at z
          exact ⟨true, by rw [xr.1]; exact hmt n true qm, fun _ => z (.bl true) H' ρ' (x1.trans e') rl' rfl, fun hb => by cases hb⟩
end
end RS

end
section
set_option Elab.async false
set_option linter.all false
set_option autoImplicit false
set_option maxRecDepth 100000
set_option maxHeartbeats 4000000
/-! RsDict: a dict display that is asked at once; the module's tables and tuples. -/
namespace RS
open PySem PySem.Spec PyProof.Rows L2
variable [LT]
/-- the module's dict at d: strings to whole numbers -/
def TabK (K : PySem.W.Frag) (d : Addr) (ps : List (Str × Int)) : Prop := ∀ z : Str, ∃ r, PySem.W.nsIn K d z = some r ∧ match ps.lookup z with
  | some i => ∃ u, r = some u ∧ RelV (.int i) u
  | none => r = none
def tabB (K : PySem.W.Frag) (d : Addr) (ps : List (Str × Int)) : Bool := match K.lookup d with
  | some ⟨_, _, .dict es _, _⟩ => !(es.toList.any (·.refKey)) && es.toList.all (fun e => ps.any fun p => e.key.isStr p.1) && ps.all (fun p => match PySem.W.nsIn K d p.1 with
    | some (some (.int i _)) => i == p.2
    | _ => false)
  | _ => false
theorem isStr_eq {v : Value} {x y : Str} (h : v.isStr x = true) (h2 : v.isStr y = true) : x = y := by
  unfold Value.isStr at h h2
  split at h
  · have a := eq_of_beq h
    have b := eq_of_beq h2
    exact a.symm.trans b
  · cases h
theorem lookup_mem {α : Type} {ps : List (Str × α)} {z : Str} : ps.lookup z = none → ∀ p ∈ ps, p.1 ≠ z := by
  intro h p hp e
  induction ps with
  | nil => cases hp
  | cons q qs ih =>
    rw [List.lookup_cons] at h
    split at h
    · cases h
    · rename_i hq
      rcases List.mem_cons.mp hp with rfl | hp
      · rw [e] at hq; simp at hq
      · exact ih h hp
theorem tabK_of {K : PySem.W.Frag} {d : Addr} {ps : List (Str × Int)} (h : tabB K d ps = true) : TabK K d ps := by
  intro z
  unfold tabB at h
  split at h
  · rename_i c dd es n sl q
    simp only [Bool.and_eq_true, List.all_eq_true, Bool.not_eq_true'] at h
    obtain ⟨⟨h1, h2⟩, h3⟩ := h
    cases e : ps.lookup z with
    | some i =>
      have hm := PySem.mem_of_lookup e
      have := h3 _ hm
      dsimp only at this
      split at this
      · rename_i j t q2
        exact ⟨_, q2, .int j t, rfl, t, by rw [eq_of_beq this]⟩
      · cases this
    | none =>
      refine ⟨none, ?_, rfl⟩
      unfold PySem.W.nsIn
      rw [q]
      dsimp only
      have hf : es.toList.find? (·.key.isStr z) = none := by
        rw [List.find?_eq_none]
        intro x hx hz
        obtain ⟨p, hp, hk⟩ := List.any_eq_true.mp (h2 x hx)
        exact lookup_mem e p hp (isStr_eq hk hz)
      rw [hf]
      dsimp only
      rw [h1]
      rfl
  · cases h
section
variable {X : Cx} {W : WX} {a b : Expr} {f : En → Sto → R U} {p pos pos2 : Pos}
def eKin (ps : List (Str × Int)) (f : En → Sto → R U) (en : En) (M : Sto) : R U := (f en M).bind fun u M1 => match u with
  | .d (.str z) => .ok (.d (.bool (ps.lookup z).isSome)) M1
  | _ => .bad
theorem kin_of {x : Str} {d : Addr} {ps : List (Str × Int)} {σ : L2.St} {H : Hp} {Q : VK} (T : TabK X.K d ps) (z : lE X.K W (eKin ps f) σ H Q) :
    tOp (fun x y H Q => ∃ (z : Str) (r : Option Value), x = .str z ∧ y = .ref d ∧ PySem.W.nsIn X.K d z = some r ∧ Q (.bl r.isSome) H) (lE X.K W f) (tC (.ref d)) σ H Q := by
  obtain ⟨ρ, M, en, re, rl, z⟩ := z
  refine ⟨ρ, M, en, re, rl, Pst.mono (fun v H1 h => ?_) (Pst.bind z)⟩
  obtain ⟨ρ1, M1, u, e1, rl1, ru, z1⟩ := h
  split at z1
  · rename_i w
    obtain ⟨r, h1, h2⟩ := T w
    refine ⟨w, r, ru, rfl, h1, z1.here rl1 ?_⟩
    cases q : ps.lookup w with
    | none => rw [q] at h2; rw [h2]; rfl
    | some i => rw [q] at h2; obtain ⟨u, rfl, _⟩ := h2; rfl
  · exact z1.elim
theorem se_kin {x : Str} {d : Addr} {ps : List (Str × Int)} {es : Array DictEntry} {n : Nat} (D : KDict X.K X.w d es n) (T : TabK X.K d ps) (hg : Gl X x) (hm : X.mg x = some (.ref d)) (ha : SE X W a f)
    (hdb : (x == ("__debug__" : Str)) = false := by decide) (hmk : behindInMarks .In (.Name x p) = false := by rfl) : SE X W (.Compare a [.In] [.Name x p] pos) (eKin ps f) :=
  pe_imp (pe_cmpR (op_in_kd D) ha (pe_glob (v := .ref d) hg hm rfl hdb) hmk) fun _ _ _ z => kin_of (x := x) T z
theorem st_kin {x : Str} {d : Addr} {ps : List (Str × Int)} {es : Array DictEntry} {n : Nat} (D : KDict X.K X.w d es n) (T : TabK X.K d ps) (hg : Gl X x) (hm : X.mg x = some (.ref d)) (ha : SE X W a f)
    (hdb : (x == ("__debug__" : Str)) = false := by decide) (hmk : behindInMarks .In (.Name x p) = false := by rfl) : ST X W (.Compare a [.In] [.Name x p] pos) (eB (eKin ps f)) :=
  pt_imp (pt_cmpR (op_in_kd D) ha (pe_glob (v := .ref d) hg hm rfl hdb) hmk) fun _ _ _ z => kin_of (x := x) T (test_of z)
def eKix (ps : List (Str × Int)) (f : En → Sto → R U) (en : En) (M : Sto) : R U := (f en M).bind fun u M1 => match u with
  | .d (.str z) => (match ps.lookup z with
    | some i => .ok (.d (.int i)) M1
    | none => .bad)
  | _ => .bad
theorem se_kix {x : Str} {d : Addr} {ps : List (Str × Int)} {es : Array DictEntry} {n : Nat} (D : KDict X.K X.w d es n) (T : TabK X.K d ps) (hg : Gl X x) (hm : X.mg x = some (.ref d)) (ha : SE X W b f)
    (hdb : (x == ("__debug__" : Str)) = false := by decide) (hs : PlainIx b := by intro _ _; rfl) : SE X W (.Subscript (.Name x p) b pos) (eKix ps f) :=
  pe_imp (pe_ix ix_kdict (pe_glob (v := .ref d) hg hm rfl hdb) ha hs) fun σ H Q ⟨ρ, M, en, re, rl, z⟩ => ⟨ρ, M, en, re, rl, Pst.mono (fun v H1 h => by
    obtain ⟨ρ1, M1, u, e1, rl1, ru, z1⟩ := h
    split at z1
    · rename_i w
      obtain ⟨r, h1, h2⟩ := T w
      cases q : ps.lookup w with
      | none => simp only [q] at z1; exact z1.elim
      | some i =>
        simp only [q] at z1 h2
        obtain ⟨u, rfl, hu⟩ := h2
        exact ⟨d, w, .int i, rfl, ru, ⟨es, n, u, D.at_, D.lit, h1, hu⟩, z1.here rl1 rfl⟩
    · exact z1.elim) (Pst.bind z)⟩
/-- {'a': 1, ..}[e] -/
def eDix (ps : List (Str × Int)) (f : En → Sto → R U) (en : En) (M : Sto) : R U := (f en M).bind fun u M1 => match u with
  | .d (.str z) => (match valV (mergeK [] (ps.map fun p => ((.inr p.1 : Key), V.int p.2))) (.inr z) with
    | some (.int i) => .ok (.d (.int i)) M1
    | _ => .bad)
  | _ => .bad
theorem pairs_of {σ : L2.St} : ∀ {ps : List (Str × Int)} {H : Hp} {Q : List (V × V) → Hp → Prop}, Q (ps.map fun p => (V.str p.1, V.int p.2)) H → tPairs (ps.map fun p => (tC (.str p.1), tC (.int p.2))) σ H Q
  | [], _, _, h => h
  | p :: ps, H, Q, h => pairs_of (ps := ps) (Q := fun l H => Q ((V.str p.1, V.int p.2) :: l) H) h
theorem se_dix {ks : List (Option Expr)} {vs : List Expr} {ps : List (Str × Int)} (hu : X.A.units + 1 < cLine) (hpp : PPs X pos ks vs (ps.map fun p => (tC (.str p.1), tC (.int p.2)))) (hi : SE X W b f) (hall : ks.all (·.isSome) = true := by rfl) (hl : ks.length = vs.length := by rfl) (h0 : ks ≠ [] := by simp)
    (h15 : ks.length ≤ 15 := by decide) (hlp : ps.length ≤ 15 := by decide) (hs : NoSl b := by intro _ _; rfl) : SE X W (.Subscript (.Dict ks vs pos) b pos2) (eDix ps f) :=
  pe_imp (pe_dget hu (pe_disp hpp hall hl h0 h15) hi hs) fun σ H Q ⟨ρ, M, en, re, rl, z⟩ => fun p hp => pairs_of (by
    refine ⟨upd_same, ps.map fun p => ((.inr p.1 : Key), V.int p.2), by rw [List.map_map]; rfl, by rw [List.length_map]; exact hlp, ?_⟩
    rw [upd_upd]
    have x1 := Ext.old (ρ := ρ) (o := .dK (mergeK [] (ps.map fun p => ((.inr p.1 : Key), V.int p.2)))) hp
    have nD : p ∉ ρ := fun q => rl.some q hp
    refine ⟨ρ, M, en, re.ext x1, rl.old hp, Pst.mono (fun v H1 h => ?_) (Pst.bind (Pst.from x1 z))⟩
    obtain ⟨ρ1, M1, u, e1, rl1, ru, z1⟩ := h
    obtain ⟨hd, _⟩ := e1.side nD upd_same (by intro ps z; cases z)
    split at z1
    · rename_i w
      split at z1
      · rename_i i q
        refine ⟨p, _, rfl, ?_, z1.here rl1 rfl⟩
        obtain rfl : v = V.str w := ru
        have g := DGet.k (k := .inr w) hd
        rw [q] at g
        exact g
      · exact z1.elim
    · exact z1.elim)
/-- -i -/
theorem pe_negC {i : Int} {j : Nat} {p : Pos} : PE X (.UnaryOp .USub (.Constant (.int i) j p) pos) (tC (.int (-i))) :=
  pe_imp (pe_un un_neg pe_int) fun σ H Q h => ⟨i, rfl, h⟩
/-- the module's tuple -/
theorem se_ktup {x : Str} {d : Addr} {ds : List PyData} {vs : List V} (hg : Gl X x) (hm : X.mg x = some (.ref d)) (hq : ∀ H, SqT X.K H d vs) (hr : ∀ H, RepDs X.K H ds vs) (hdb : (x == ("__debug__" : Str)) = false := by decide) : SE X W (.Name x p) (eC (.tuple ds)) :=
  se_con _ (pe_glob (v := .ref d) hg hm rfl hdb) fun H => ⟨d, vs, rfl, hq H, hr H⟩
end
end RS

end
section
set_option Elab.async false
set_option linter.all false
set_option autoImplicit false
set_option maxRecDepth 100000
set_option maxHeartbeats 4000000
/-! RsFn: defs. -/
namespace RS
open PySem PySem.Spec PyProof.Rows L2
variable [LT]
def visB (sc : Scope) (x : Str) : Bool := match sc.names.lookup x with
  | some .local => true
  | some .cell => true
  | some .free => true
  | _ => false
theorem vis_of {sc : Scope} {x : Str} (h : visB sc x = true) : Vis sc x := by
  unfold visB at h
  split at h
  · exact .inl ‹_›
  · exact .inr (.inl ‹_›)
  · exact .inr (.inr ‹_›)
  · cases h
def locB (sc : Scope) (x : Str) : Bool := match sc.names.lookup x with
  | some .local => true
  | some .cell => true
  | _ => false
theorem loc_of {sc : Scope} {x : Str} (h : locB sc x = true) : Loc sc x := by
  unfold locB at h
  split at h
  · exact .inl ‹_›
  · exact .inr ‹_›
  · cases h
/-- a def's body, called -/
def runC (n : Nat) (body : En → Sto → O) (us : List U) (M : Sto) : R U := match body (us.map some ++ List.replicate (n - us.length) none) M with
  | .nx _ M1 => .ok (.d .none) M1
  | .rt u M1 => .ok u M1
  | .ex c fs _ M1 => .ex c fs M1
  | _ => .bad
theorem run_ok {K : PySem.W.Frag} {N : List Str} {n : Nat} {body : En → Sto → O} {vs : List V} {H : Hp} {Q : VK} {E : XK} (h : spF K n (runC N.length body) vs H Q E) : lS K (fun cls d _ H => E cls d H) body { nx := fun _ H' => Q .non H', rt := Q } (L2.start N vs) H := by
  obtain ⟨hn, ρ, M, us, rus, rl, z⟩ := h
  have hl := Paired.length rus
  refine ⟨ρ, M, us.map some ++ List.replicate (N.length - us.length) none, ⟨?_, fun i u q => ?_⟩, rl, ?_⟩
  · unfold L2.start; simp [hl]
  · unfold L2.start
    by_cases hi : i < us.length
    · rw [List.getElem?_append_left (by simpa using hi), List.getElem?_map] at q
      cases e : us[i]? with
      | none => rw [e] at q; cases q
      | some u' =>
        rw [e] at q
        cases q
        obtain ⟨v, h1, h2⟩ := repUs_get rus e
        exact ⟨v, by rw [List.getElem?_append_left (by rw [List.length_map, hl]; exact hi), List.getElem?_map, h1]; rfl, h2⟩
    · rw [List.getElem?_append_right (by simpa using hi), List.getElem?_replicate] at q
      split at q <;> cases q
  · unfold runC at z
    cases q : body (us.map some ++ List.replicate (N.length - us.length) none) M with
    | nx en M1 => rw [q] at z; exact fun σ' H' ρ' e' rl' re' => z .non H' ρ' e' rl' rfl
    | rt u M1 => rw [q] at z; exact z
    | ex c fs en M1 => rw [q] at z; exact fun cls d σ' H' ρ' e' rl' re' => z cls d H' ρ' e' rl'
    | bk _ _ => rw [q] at z; exact z.elim
    | ct _ _ => rw [q] at z; exact z.elim
    | bad => rw [q] at z; exact z.elim
/-- a def of the text, as it is called -/
structure FnB (P : Program) (w : World) (K : PySem.W.Frag) (mg : Str → Option Value) (base : Heap) (k : Nat) (x : Str) (n : Nat) (C : List U → Sto → R U) : Prop where
  ex : ∃ F fd ps, FnOk P w K mg base (L2.CX P w) k F fd ps (spF K n C) ∧ mg x = some (.ref F) ∧ PySem.W.keepIn K (.ref F) = true ∧ Binds K fd ps []
theorem fn_mk {P : Program} {w : World} {K : PySem.W.Frag} {mg : Str → Option Value} {base : Heap} {k : Nat} {x qual : Str} {params : Arguments} {body : List Stmt} {scope : Scope} {f : Addr} {fd : FuncData} {N ps : List Str} {bf : En → Sto → O}
    (F : FunD K x qual params body scope [] [] f fd) (S : FnScope N ps scope) (gm : mg x = some (.ref f)) (hb : Binds K fd ps [])
    (hbody : ∀ (cdv : Value) (A : Around) (outer : List Env) (s : Shared) (H : Hp) (E : XK), Room k (A.deeper (envOfC qual scope s.heap.objs.size f cdv)) → Takes (cxOf (L2.CX P w) P w K mg base N qual scope f cdv A outer s H E) (fun cls d _ H => E cls d H) →
      SB (cxOf (L2.CX P w) P w K mg base N qual scope f cdv A outer s H E) (fun cls d _ H => E cls d H) body bf) : FnB P w K mg base (k + 1) x ps.length (runC N.length bf) :=
  ⟨f, fd, ps, F.ok S (fun vs H Q E h => h.1) (fun cdv A outer s H vs Q E hr h => ⟨_, hbody cdv A outer s H E hr (takes_of rfl rfl rfl rfl), run_ok h⟩), gm, F.kp, hb⟩
section
variable {X : Cx} {W : WX} {a e : Expr} {es : List Expr} {fs : En → Sto → R (List U)} {p pos : Pos}
theorem se_fn {k j n : Nat} {x : Str} {C : List U → Sto → R U} (h : FnB X.prog X.w X.K X.mg X.base j x n C) (hj : j ≤ k) (tk : Takes X W) (hr : Room k X.A) (hg : Gl X x) (ha : SA X W (a :: es) fs) (hd : (x == ("__debug__" : Str)) = false := by decide)
    (he : starEach (a :: es) X.env = (false, eval a X.env) :: starEach es X.env := by rfl) (hpl : (backTo pos (starEach es X.env)).any (·.1) = false := by rfl) : SE X W (.Call (.Name x p) (a :: es) [] pos) (eCall C fs n) := by
  obtain ⟨F, fd, ps, h1, h2, h3, h4⟩ := h.ex
  exact se_call h1 tk (hr.mono hj) hg h2 h3 h4 ha hd he hpl
/-- y = [.. for ..] on one line, y a local -/
theorem ss_comp {i : Nat} {y : Str} {py : Pos} {elt tg iter : Expr} {ifs : List Expr} {scope : Scope} {own : List (Str × Nat)} {pos spos : Pos} {fi : En → Sto → R Wk} {g : Tg} {ft : En → Sto → R Bool} {fe : En → Sto → R U} (hc : X.calm = true) (hN : X.N.Nodup) (hy : X.N[i]? = some y) (hyl : X.env.scope.names.lookup y = some .local)
    (hk : X.env.scope.kind = .function) (hl : (py.line == pos.line) = true) (hna : (scope.names.any fun (n, k) => n == y && (k == .local || k == .cell)) = false) (hi : SI X W tg iter fi) (ok : BlkOk X.N X.env.scope scope own)
    (hg : ∀ (s : Shared) (H : Hp) (C : Addr) (cl : List (Str × Addr)) (fp : List Addr), PG (X.blk s H scope (compEnvC scope cl C X.env) fp) tg (tgOf X.K g)) (ho : ∀ i ∈ g.is, i ∈ own.map (·.2))
    (ht : ∀ (s : Shared) (H : Hp) (C : Addr) (cl : List (Str × Addr)) (fp : List Addr), PTs (X.blk s H scope (compEnvC scope cl C X.env) fp) ifs (lT X.K W0 ft))
    (he : ∀ (s : Shared) (H : Hp) (C : Addr) (cl : List (Str × Addr)) (fp : List Addr), SE (X.blk s H scope (compEnvC scope cl C X.env) fp) W0 elt fe) (hs : ∀ x, foldedSetIterable iter X.env x = pure x := by intro _; rfl) :
    SS X W (.Assign [.Name y py] (.ListComp elt [⟨tg, iter, ifs, 0⟩] scope pos) spos) (sAs (eComp (own.map (·.2)) fi g ft fe) (.nm i)) :=
  ps_imp (ps_setLc (te := lE X.K W0 fe) hc hN hy hyl (sw_true hk hyl hl hna) hi ok hg ht he hs) fun D σ H z => tlc_of ho (as_of (g := .nm i) z)
def sPar3 (i j l : Nat) (fs : En → Sto → R (List U)) (en : En) (M : Sto) : O := (fs en M).thn en fun us M1 => match us with
  | [u, v, w] => .nx (((en.set i (some u)).set j (some v)).set l (some w)) M1
  | _ => .bad
theorem repUs3 {K : PySem.W.Frag} {H : Hp} {ρ : List Addr} {vs : List V} {u w z : U} (h : RepUs K H ρ vs [u, w, z]) : ∃ v x y, vs = [v, x, y] ∧ RepU K H ρ v u ∧ RepU K H ρ x w ∧ RepU K H ρ y z := by
  cases h with
  | cons a t =>
    obtain ⟨x, y, rfl, b, c⟩ := repUs2 t
    exact ⟨_, _, _, rfl, a, b, c⟩
theorem ss_par3 {i j l : Nat} {x y z : Str} {a b c : Expr} {fs : En → Sto → R (List U)} {px py pz pt pos : Pos} {kt k2 pt2} (hc : X.calm = true) (hN : X.N.Nodup) (hi : X.N[i]? = some x) (hj : X.N[j]? = some y) (hl : X.N[l]? = some z) (hij : i ≠ j) (hil : i ≠ l) (hjl : j ≠ l)
    (hx : X.env.scope.names.lookup x = some .local) (hy : X.env.scope.names.lookup y = some .local) (hz : X.env.scope.names.lookup z = some .local) (ha : SA X W [a, b, c] fs)
    (hw : swappedStores [.Tuple [.Name x px, .Name y py, .Name z pz] kt pt] (.Tuple [a, b, c] k2 pt2) X.env = pure (some [x, y, z]))
    (hs : swapsWithSole [.Tuple [.Name x px, .Name y py, .Name z pz] kt pt] (.Tuple [a, b, c] k2 pt2) pos.line X.env = pure false := by rfl) :
    SS X W (.Assign [.Tuple [.Name x px, .Name y py, .Name z pz] kt pt] (.Tuple [a, b, c] k2 pt2) pos) (sPar3 i j l fs) :=
  ps_imp (ps_par3 hc hN hi hj hl hij hil hjl hx hy hz ha hw hs) fun D σ H ⟨ρ, M, en, re, rl, z⟩ => ⟨ρ, M, en, re, rl, Pst.mono (fun vs H1 ⟨ρ1, M1, us, e1, rl1, rus, z1⟩ => by
    split at z1
    · obtain ⟨v, w, z, rfl, r1, r2, r3⟩ := repUs3 rus
      exact ⟨v, w, z, rfl, z1.here rl1 ((((re.ext e1).set i r1).set j r2).set l r3)⟩
    · exact z1.elim) (Ost.thn re z)⟩
/-- the module's tuple, its table of numbers -/
structure KTup (K : PySem.W.Frag) (mg : Str → Option Value) (x : Str) (ds : List PyData) : Prop where
  ex : ∃ d vs, mg x = some (.ref d) ∧ (∀ H, SqT K H d vs) ∧ ∀ H, RepDs K H ds vs
structure KDic (K : PySem.W.Frag) (w : World) (mg : Str → Option Value) (x : Str) (ps : List (Str × Int)) : Prop where
  ex : ∃ d es n, mg x = some (.ref d) ∧ KDict K w d es n ∧ TabK K d ps
theorem se_ktupB {x : Str} {ds : List PyData} (h : KTup X.K X.mg x ds) (hg : Gl X x) (hdb : (x == ("__debug__" : Str)) = false := by decide) : SE X W (.Name x p) (eC (.tuple ds)) := by
  obtain ⟨d, vs, h1, h2, h3⟩ := h.ex
  exact se_ktup hg h1 h2 h3 hdb
theorem se_kinB {x : Str} {ps : List (Str × Int)} {f : En → Sto → R U} (h : KDic X.K X.w X.mg x ps) (hg : Gl X x) (ha : SE X W a f) (hdb : (x == ("__debug__" : Str)) = false := by decide) (hmk : behindInMarks .In (.Name x p) = false := by rfl) : SE X W (.Compare a [.In] [.Name x p] pos) (eKin ps f) := by
  obtain ⟨d, es, n, h1, h2, h3⟩ := h.ex
  exact se_kin h2 h3 hg h1 ha hdb hmk
theorem st_kinB {x : Str} {ps : List (Str × Int)} {f : En → Sto → R U} (h : KDic X.K X.w X.mg x ps) (hg : Gl X x) (ha : SE X W a f) (hdb : (x == ("__debug__" : Str)) = false := by decide) (hmk : behindInMarks .In (.Name x p) = false := by rfl) : ST X W (.Compare a [.In] [.Name x p] pos) (eB (eKin ps f)) := by
  obtain ⟨d, es, n, h1, h2, h3⟩ := h.ex
  exact st_kin h2 h3 hg h1 ha hdb hmk
theorem se_kixB {x : Str} {ps : List (Str × Int)} {f : En → Sto → R U} (h : KDic X.K X.w X.mg x ps) (hg : Gl X x) (ha : SE X W a f) (hdb : (x == ("__debug__" : Str)) = false := by decide) (hs : PlainIx a := by intro _ _; rfl) : SE X W (.Subscript (.Name x p) a pos) (eKix ps f) := by
  obtain ⟨d, es, n, h1, h2, h3⟩ := h.ex
  exact se_kix h2 h3 hg h1 ha hdb hs
theorem takesW0 : Takes X W0 := L2.takes0
end
/-! ### own errors -/
structure ExcN (K : PySem.W.Frag) (mg : Str → Option Value) (c : Str) : Prop where
  q : PySem.W.excIn K (He.ga K c) He.veBase "ValueError.__new__" = true
  m : mg c = some (.ref (He.ga K c))
  kp : PySem.W.keepIn K (.ref (He.ga K c)) = true
  sub : PySem.W.subIn K (.ref (He.ga K c)) (.type "BaseException") = some true
  ty : PySem.W.typeIn K (.ref (He.ga K c)) = some (.type "type")
structure ExcF (P : Program) (w : World) (K : PySem.W.Frag) (mg : Str → Option Value) (base : Heap) (k : Nat) (c : Str) (fn : List Str) : Prop where
  ex : ∃ fI fd ps, FnOk P w K mg base (L2.CX P w) k fI fd ps (spI (He.ga K c) fn) ∧ PySem.W.findIn K (.ref (He.ga K c)) "__init__" = some (some (.ref fI)) ∧ PySem.W.typeIn K (.ref fI) = some (.type "function") ∧ Binds K fd ps []
  T : OexC K (He.ga K c)
  m : mg c = some (.ref (He.ga K c))
  nd : fn.Nodup
structure CatF (K : PySem.W.Frag) (mg : Str → Option Value) (c n1 n2 : Str) (mt : Str → Option Bool) : Prop where
  T : XfC K (He.ga K c)
  n1 : PySem.W.findIn K (.ref (He.ga K c)) n1 = some none
  n2 : PySem.W.findIn K (.ref (He.ga K c)) n2 = some none
  m : mg c = some (.ref (He.ga K c))
  tk : Takes1 K (.ref (He.ga K c)) mt
  mt : ∀ d, mt d = some true → He.ga K d = He.ga K c
section
variable {X : Cx} {W : WX} {e : Expr} {es : List Expr} {fs : En → Sto → R (List U)} {p pos pos' : Pos}
theorem raise_of {c : Str} (x : ExcN X.K X.mg c) (hc : X.calm = true) (tk : Takes X W) (hg : Gl X c) (hdb : (c == ("__debug__" : Str)) = false := by decide) : SS X W (.Raise (some (.Call (.Name c p) [] [] pos)) none pos') (sRz c) :=
  ss_raise0 hc tk PySem.F.excBase_ValueError x.q x.m x.kp (raises_own x.sub x.ty) hg hdb
theorem raise_ofF {k j : Nat} {c : Str} {fn : List Str} (x : ExcF X.prog X.w X.K X.mg X.base j c fn) (hj : j + 1 ≤ k) (hc : X.calm = true) (tk : Takes X W) (hr : Room k X.A) (hg : Gl X c) (ha : SA X W (e :: es) fs) (hdb : (c == ("__debug__" : Str)) = false := by decide)
    (he : starEach (e :: es) X.env = (false, eval e X.env) :: starEach es X.env := by rfl) (hpl : (backTo pos (starEach es X.env)).any (·.1) = false := by rfl) : SS X W (.Raise (some (.Call (.Name c p) (e :: es) [] pos)) none pos') (sRzF c fn fs) := by
  obtain ⟨fI, fd, ps, h1, h2, h3, h4⟩ := x.ex
  exact ss_raiseF hc tk x.nd x.T h2 h3 h1 (hr.mono hj) h4 (passes_call L2.takes0 fun _ _ _ _ h => h) hg x.m ha hdb he hpl
theorem try_of {x n n1 n2 : Str} {i k : Nat} {body : List Stmt} {np p1 p2 p3 p4 p5 p6 : Pos} {mt : Str → Option Bool} {f : En → Sto → O} (c : CatF X.K X.mg x n1 n2 mt) (hs : X.stack = X.env :: X.outer) (hf : X.env.frame = some X.env.locals) (hN : X.N.Nodup) (hi : X.N[i]? = some n) (hln : X.env.kindOf n = some .local) (hvis : Vis X.env.scope n) (hg : Gl X x) (tk : Takes X W)
    (hb : ∀ (W : WX) (pn : List (Addr × Obj)) (xe : Value → Shared → Prop), Takes (X.tr pn xe) W → PassesOwn (model X.prog X.w) X.A X.env xe → SB (X.tr pn xe) W body f) (hdb : (x == ("__debug__" : Str)) = false := by decide)
    (hd : (n == ("__debug__" : Str)) = false := by decide) (hcd : (n == ("__classdict__" : Str)) = false := by decide)
    (hb1 : attributeBase (.Name n p1) n1 X.env (eval (.Name n p1) X.env) = eval (.Name n p1) X.env := by rfl) (hb2 : attributeBase (.Name n p3) n2 X.env (eval (.Name n p3) X.env) = eval (.Name n p3) X.env := by rfl)
    (he1 : starEach [.Attribute (.Name n p1) n1 p2, .Attribute (.Name n p3) n2 p4] X.env = [(false, eval (.Attribute (.Name n p1) n1 p2) X.env), (false, eval (.Attribute (.Name n p3) n2 p4) X.env)] := by rfl)
    (he2 : starEach [.Attribute (.Name n p3) n2 p4] X.env = [(false, eval (.Attribute (.Name n p3) n2 p4) X.env)] := by rfl) :
    SS X W (.Try body [.ExceptHandler (some (.Name x np)) (some n) [.Return (some (.Tuple [.Attribute (.Name n p1) n1 p2, .Attribute (.Name n p3) n2 p4] k p5)) p6] pos'] [] [] pos) (sTryF mt i n1 n2 f) :=
  ss_tryF hs hf hN hi hln hvis ⟨hg, hdb, .inl c.m⟩ tk c.tk c.mt c.T c.n1 c.n2 hb hd hcd hb1 hb2 he1 he2
end
/-! ### the law's def; lambdas in it -/
theorem fn_law {P : Program} {w : World} {K : PySem.W.Frag} {mg : Str → Option Value} {base : Heap} {k : Nat} {x qual : Str} {params : Arguments} {body : List Stmt} {scope : Scope} {f : Addr} {fd : FuncData} {N ps : List Str} {bf : En → Sto → O}
    (F : FunD K x qual params body scope [] [] f fd) (S : FnScope N ps scope)
    (hbody : ∀ (cdv : Value), (∃ oc od osl, K.lookup f = some ⟨oc, od, .func fd, osl⟩ ∧ fd.code = cdv) → ∀ (A : Around) (outer : List Env) (s : Shared) (H : Hp) (E : XK), Room k (A.deeper (envOfC qual scope s.heap.objs.size f cdv)) → Takes (cxOf (L2.CX P w) P w K mg base N qual scope f cdv A outer s H E) (fun cls d _ H => E cls d H) →
      SB (cxOf (L2.CX P w) P w K mg base N qual scope f cdv A outer s H E) (fun cls d _ H => E cls d H) body bf) : FnOk P w K mg base (L2.CX P w) (k + 1) f fd ps (spF K ps.length (runC N.length bf)) := by
  obtain ⟨oc, od, dV, kV, doc, pm, an, cdv, ct, osl, rfl, lk, hcd, _, _⟩ := F.ex
  exact fn_of lk hcd S (fun vs H Q E h => h.1) fun A outer s H vs Q E hr h => ⟨_, hbody cdv ⟨oc, od, osl, lk, rfl⟩ A outer s H E hr (takes_of rfl rfl rfl rfl), run_ok h⟩
section
variable {X : Cx} {W : WX}
theorem se_lamB {x a : Str} {g c P : Addr} {k m : Nat} {pg : Arguments} {bg : List Stmt} {sg : Scope} {fdN : FuncData} {CS : Value} {Ng : List Str}
    {params : Arguments} {body : Expr} {scope : Scope} {fb : En → Sto → R U} {mt : Str → Option Bool} {p lpos pos : Pos} (FN : FunD X.K x x pg bg sg [] [] g fdN) (gN : X.mg x = some (.ref g)) (hb : Binds X.K fdN [a] []) (Sg : FnScope Ng [a] sg) (hNg : Ng[0]? = some a) (hva : Vis sg a)
    (hG : ∀ cdv, LamX.GivesTo X Ng x sg g cdv bg a (X.env.qual ++ "<lambda>") (TTis X.K CS)) (hmt : Takes1 X.K CS mt)
    (TB : LamX.TabB X.base X.mg c P) (hcode : X.env.code = .ref c) (hmT : (P, X.env.qual ++ "<lambda>") ∈ LT.T) (hu : ∀ p ∈ LT.T, p.1 = P → p.2 = X.env.qual ++ "<lambda>") (hj : k + 2 ≤ m) (hr : Room m X.A) (hg : Gl X x) (L : LamX.LamS X.env.scope scope) (hdef : defaultsOf params X.env = ([], []))
    (hbind : ∀ (q : Str) (cl : List (Str × Addr)) (pm cv ctv : Value), bindArgs (PySem.W.kla_fn "<lambda>" q params body scope cl pm cv ctv) ⟨[], []⟩ = pure [])
    (hbody : ∀ (A : Around) (outer : List Env) (s : Shared) (H : Hp) (E : XK) (f c' : Addr), Room k (A.deeper (LamX.lamEnv X scope s.heap.objs.size f c')) → SE (LamX.lamCx X A outer s H E scope f c') (fun cls d _ H => E cls d H) body fb)
    (hdb : (x == ("__debug__" : Str)) = false := by decide) (hd : (a == ("__debug__" : Str)) = false := by decide) (hcd : (a == ("__classdict__" : Str)) = false := by decide) :
    SE X W (.Call (.Name x p) [.Lambda params body scope lpos] [] pos) (eLam mt fb) := by
  obtain ⟨oc, od, dV, kV, doc, pm, an, cdv, ct, osl, rfl, lk, hcd', _, _⟩ := FN.ex
  exact se_lam hg gN FN.kp lk hcd' hb Sg hNg hva (hG cdv) hmt TB hcode hmT hu (hr.mono hj) L hdef hbind hbody hdb hd hcd
end
end RS

end
section
set_option Elab.async false
set_option linter.all false
set_option autoImplicit false
set_option maxRecDepth 100000
set_option maxHeartbeats 1000000
/-! RsSimp: the readings reckoned. -/
namespace RS
open PySem PySem.Spec PyProof.Rows L2
section
variable {f g h : En → Sto → R U} {fs : En → Sto → R (List U)} {p q : En → Sto → R Bool} {s t : En → Sto → O} {en : En} {M : Sto} {o o' : U → U → Sto → R U}
@[simp] theorem thn_ok {α : Type} (a : α) (k : α → Sto → O) : (R.ok a M).thn en k = k a M := rfl
@[simp] theorem thn_ex {α : Type} (c : Str) (l : List (Str × PyData)) (k : α → Sto → O) : (R.ex c l M).thn en k = .ex c l en M := rfl
@[simp] theorem bindN_ok {α β : Type} (a : α) (k : α → Sto → R β) : (R.ok a M).bindN k = k a M := rfl
@[simp] theorem x_V (i : Nat) : eV i en M = (match en[i]? with
  | some (some u) => .ok u M
  | _ => .bad) := rfl
@[simp] theorem x_C (d : PyData) : eC d en M = .ok (.d d) M := rfl
@[simp] theorem x_2 : e2 o f g en M = (f en M).bind fun u M1 => (g en M1).bind fun v M2 => o u v M2 := rfl
@[simp] theorem x_1 (o : U → Sto → R U) : e1 o f en M = (f en M).bind fun u M1 => o u M1 := rfl
/-- a bool parts -/
def tri {α : Type} (z : U) (x y : R α) : R α := match z with
  | .d (.bool true) => x
  | .d (.bool false) => y
  | _ => .bad
@[simp] theorem tri_b {α : Type} (b : Bool) (x y : R α) : tri (.d (.bool b)) x y = if b = true then x else y := by cases b <;> rfl
@[simp] theorem ite_ok (p : Prop) [Decidable p] (b : Bool) : (if p then R.ok (U.d (.bool b)) M else R.ok (U.d (.bool false)) M) = R.ok (U.d (.bool (decide p && b))) M := by
  by_cases h : p <;> simp [h]
@[simp] theorem x_3 : e3c o o' f g h en M = (f en M).bind fun u M1 => (g en M1).bind fun v M2 => (o u v M2).bind fun z M3 => tri z ((h en M3).bind fun w M4 => o' v w M4) (.ok (.d (.bool false)) M3) := rfl
@[simp] theorem x_B : eB f en M = (f en M).bind fun u M1 => match u with
  | .d (.bool b) => .ok b M1
  | _ => .bad := rfl
@[simp] theorem x_If : eIf p f g en M = (p en M).bind fun k M1 => if k = true then f en M1 else g en M1 := rfl
@[simp] theorem x_bAnd : bAnd p q en M = (p en M).bind fun k M1 => if k = true then q en M1 else .ok false M1 := rfl
@[simp] theorem x_bOr : bOr p q en M = (p en M).bind fun k M1 => if k = true then .ok true M1 else q en M1 := rfl
@[simp] theorem x_bNot : bNot p en M = (p en M).bind fun k M1 => .ok (!k) M1 := rfl
@[simp] theorem x_vAnd : vAnd f g en M = (f en M).bind fun u M1 => tri u (g en M1) (.ok (.d (.bool false)) M1) := rfl
@[simp] theorem x_vNot : vNot f en M = (f en M).bind fun u M1 => match u with
  | .d (.bool k) => .ok (.d (.bool (!k))) M1
  | _ => .bad := rfl
@[simp] theorem x_Nil : aNil en M = .ok [] M := rfl
@[simp] theorem x_Cons : aCons f fs en M = (f en M).bind fun u M1 => (fs en M1).bind fun us M2 => .ok (u :: us) M2 := rfl
@[simp] theorem x_Star : aStar f fs en M = (f en M).bind fun u M1 => match itemsU M1 u with
  | some us => (fs en M1).bind fun vs M2 => .ok (us ++ vs) M2
  | none => .bad := rfl
@[simp] theorem x_Tup : eTup fs en M = (fs en M).bind fun us M1 => match asDs us with
  | some xs => if xs.length ≤ sizeLine then .ok (.d (.tuple xs)) M1 else .bad
  | none => .bad := rfl
@[simp] theorem x_Lst : eLst fs en M = (fs en M).bind fun us M1 => if us.length ≤ sizeLine then .ok (.r M1.length) (M1 ++ [.lst us]) else .bad := rfl
@[simp] theorem x_B1 (b : List U → Sto → R U) : eB1 b fs en M = (fs en M).bind fun us M1 => b us M1 := rfl
@[simp] theorem x_Call (C : List U → Sto → R U) (n : Nat) : eCall C fs n en M = (fs en M).bind fun us M1 => if us.length = n then C us M1 else .bad := rfl
@[simp] theorem x_M (ty : U → Sto → Bool) (m : U → List U → Sto → R U) : eM ty m f fs en M = (f en M).bind fun u M1 => if ty u M1 = true then (fs en M1).bind fun us M2 => m u us M2 else .bad := rfl
@[simp] theorem x_M0 (ty : U → Sto → Bool) (m : U → List U → Sto → R U) : eM0 ty m f en M = (f en M).bind fun u M1 => if ty u M1 = true then m u [] M1 else .bad := rfl
@[simp] theorem x_oNo : oNo en M = .ok none M := rfl
@[simp] theorem x_oInt : oInt f en M = (f en M).bind fun u M1 => match u with
  | .d (.int i) => .ok (some i) M1
  | _ => .bad := rfl
@[simp] theorem x_Sl (l u : En → Sto → R (Option Int)) : eSl f l u en M = (f en M).bind fun x M1 => (l en M1).bind fun lo M2 => (u en M2).bind fun hi M3 => slU x lo hi M3 := rfl
@[simp] theorem x_Nx : sNx en M = .nx en M := rfl
@[simp] theorem x_Bk : sBk en M = .bk en M := rfl
@[simp] theorem x_Seq : sSeq s t en M = (match s en M with
  | .nx en1 M1 => t en1 M1
  | o => o) := rfl
@[simp] theorem x_Ex : sEx f en M = (f en M).thn en fun _ M1 => .nx en M1 := rfl
@[simp] theorem x_Rt : sRt f en M = (f en M).thn en fun u M1 => .rt u M1 := rfl
@[simp] theorem x_IfS : sIf p s t en M = (p en M).thn en fun b M1 => if b then s en M1 else t en M1 := rfl
@[simp] theorem x_As (g : Tg) : sAs f g en M = (f en M).thn en fun u M1 => match g.en u en with
  | some en1 => .nx en1 M1
  | none => .bad := rfl
@[simp] theorem x_AsG (g : G) : sAsG f g en M = (f en M).thn en fun u M1 => match g u en M1 with
  | .nx en1 M1 => .nx en1 M1
  | .ex c fs en1 M1 => .ex c fs en1 M1
  | _ => .bad := rfl
@[simp] theorem x_Par (i j : Nat) : sPar i j fs en M = (fs en M).thn en fun us M1 => match us with
  | [u, v] => .nx ((en.set i (some u)).set j (some v)) M1
  | _ => .bad := rfl
@[simp] theorem x_Par3 (i j l : Nat) : sPar3 i j l fs en M = (fs en M).thn en fun us M1 => match us with
  | [u, v, w] => .nx (((en.set i (some u)).set j (some v)).set l (some w)) M1
  | _ => .bad := rfl
@[simp] theorem x_sTup (n : Nat) (gs : Gs) : sTup n fs gs en M = (fs en M).thn en fun us M1 => if us.length = n ∧ n ≤ sizeLine then match gs us en M1 with
  | .nx en1 M1 => .nx en1 M1
  | .ex c fs en1 M1 => .ex c fs en1 M1
  | _ => .bad else .bad := rfl
@[simp] theorem x_gN (i : Nat) (u : U) : gN i u en M = .nx (en.set i (some u)) M := rfl
@[simp] theorem x_gS (fo fi : En → Sto → R U) (v : U) : gS fo fi v en M = (fo en M).thn en fun o M1 => (fi en M1).thn en fun i M2 => match setU o i v M2 with
  | some M3 => .nx en M3
  | none => .bad := rfl
@[simp] theorem x_gs0 : gs0 [] en M = .nx en M := rfl
@[simp] theorem x_gs1 (g : G) (gs : Gs) (u : U) (us : List U) : gs1 g gs (u :: us) en M = (match g u en M with
    | .nx en1 M1 => gs us en1 M1
    | .ex c fs en1 M1 => .ex c fs en1 M1
    | _ => .bad) := rfl
@[simp] theorem x_Aug (op : Int → Int → Int) (fo fi fe : En → Sto → R U) : sAug op fo fi fe en M = (fo en M).thn en fun o M1 => (fi en M1).thn en fun i M2 => match getI o i M2 with
  | some x => (fe en M2).thn en fun y M3 => (match y with
    | .d (.int y) => (match setU o i (.d (.int (op x y))) M3 with
      | some M4 => .nx en M4
      | none => .bad)
    | _ => .bad)
  | none => .bad := rfl
@[simp] theorem x_For (fi : En → Sto → R Wk) (g : Tg) (b : En → Sto → O) : sFor fi g b en M = (fi en M).thn en fun j M1 => fLoop j g b (j.many M1) 0 en M1 := rfl
@[simp] theorem x_Comp (own : List Nat) (fi : En → Sto → R Wk) (g : Tg) (ft : En → Sto → R Bool) : eComp own fi g ft f en M = (fi en M).bind fun j M1 => (cLoop j g ft f (wipeE en own) (j.many M1) 0 [] M1).bindN fun us M2 => .ok (.r M2.length) (M2 ++ [.lst us]) := rfl
@[simp] theorem x_R1 : wR1 fs en M = (fs en M).bind fun us M1 => match us with
  | [.d (.int j)] => if -1000000 ≤ j ∧ j ≤ 1000000 then .ok (.rng 0 j.toNat) M1 else .bad
  | _ => .bad := rfl
@[simp] theorem x_wT : wT f en M = (f en M).bind fun u M1 => match u with
  | .d (.tuple xs) => .ok (.seq (.d (.tuple xs))) M1
  | _ => .bad := rfl
@[simp] theorem x_wL : wL f en M = (f en M).bind fun u M1 => if isD u then .bad else match itemsU M1 u with
  | some _ => .ok (.seq u) M1
  | none => .bad := rfl
@[simp] theorem x_Kin (ps : List (Str × Int)) : eKin ps f en M = (f en M).bind fun u M1 => match u with
  | .d (.str z) => .ok (.d (.bool (ps.lookup z).isSome)) M1
  | _ => .bad := rfl
@[simp] theorem x_Kix (ps : List (Str × Int)) : eKix ps f en M = (f en M).bind fun u M1 => match u with
  | .d (.str z) => (match ps.lookup z with
    | some i => .ok (.d (.int i)) M1
    | none => .bad)
  | _ => .bad := rfl
@[simp] theorem x_Dix (ps : List (Str × Int)) : eDix ps f en M = (f en M).bind fun u M1 => match u with
  | .d (.str z) => (match valV (mergeK [] (ps.map fun p => ((.inr p.1 : Key), V.int p.2))) (.inr z) with
    | some (.int i) => .ok (.d (.int i)) M1
    | _ => .bad)
  | _ => .bad := rfl
@[simp] theorem x_Rz (c : Str) : sRz c en M = .ex c [] en M := rfl
@[simp] theorem x_RzF (c : Str) (fn : List Str) : sRzF c fn fs en M = (fs en M).thn en fun us M1 => match zipF fn us with
  | some l => if fn.length ≤ 1000 then .ex c l en M1 else .bad
  | none => .bad := rfl
end
/-! values -/
section
variable {M : Sto}
@[simp] theorem u_add (i j : Int) : addU (.d (.int i)) (.d (.int j)) M = .ok (.d (.int (i + j))) M := rfl
@[simp] theorem u_sub (i j : Int) : subU (.d (.int i)) (.d (.int j)) M = .ok (.d (.int (i - j))) M := rfl
@[simp] theorem u_lt (i j : Int) : ltU (.d (.int i)) (.d (.int j)) M = .ok (.d (.bool (decide (i < j)))) M := rfl
@[simp] theorem u_le (i j : Int) : leU (.d (.int i)) (.d (.int j)) M = .ok (.d (.bool (decide (i ≤ j)))) M := rfl
@[simp] theorem u_gt (i j : Int) : gtU (.d (.int i)) (.d (.int j)) M = .ok (.d (.bool (decide (j < i)))) M := rfl
@[simp] theorem u_ge (i j : Int) : geU (.d (.int i)) (.d (.int j)) M = .ok (.d (.bool (decide (j ≤ i)))) M := rfl
@[simp] theorem u_neg (i : Int) : negU (.d (.int i)) M = .ok (.d (.int (-i))) M := rfl
@[simp] theorem u_is (neg : Bool) (u : U) : isU neg u (.d .none) M = .ok (.d (.bool (if neg = true then !isNone u else isNone u))) M := rfl
@[simp] theorem u_none : isNone (.d .none) = true := rfl
@[simp] theorem u_noneI (i : Int) : isNone (.d (.int i)) = false := rfl
@[simp] theorem u_noneT (xs : List PyData) : isNone (.d (.tuple xs)) = false := rfl
@[simp] theorem u_itT (xs : List PyData) : itemsU M (.d (.tuple xs)) = some (xs.map U.d) := rfl
@[simp] theorem u_it (l : Nat) : itemsU M (.r l) = (match M[l]? with
    | some (.lst us) => some us
    | _ => none) := rfl
@[simp] theorem u_as0 : asDs [] = some [] := rfl
@[simp] theorem u_as1 (x : PyData) (r : List U) : asDs (.d x :: r) = (asDs r).map (x :: ·) := by
  show (match asDs r with | some xs => some (x :: xs) | none => none) = _
  cases asDs r <;> rfl
@[simp] theorem u_asM : ∀ (xs : List PyData), asDs (xs.map U.d) = some xs
  | [] => rfl
  | x :: xs => by rw [List.map_cons, u_as1, u_asM xs]; rfl
theorem asDs_app : ∀ (xs : List PyData) (r : List U), asDs (xs.map U.d ++ r) = (asDs r).map (xs ++ ·)
  | [], r => by cases h : asDs r <;> simp [h]
  | x :: xs, r => by
    rw [List.map_cons, List.cons_append, u_as1, asDs_app xs r]
    cases asDs r <;> rfl
@[simp] theorem u_asA (xs : List PyData) (r : List U) : asDs (xs.map U.d ++ r) = (asDs r).map (xs ++ ·) := asDs_app xs r
theorem atN {α : Type} (xs : List α) (n : Nat) : atI xs (n : Int) = xs[n]? := by
  unfold atI ixN
  by_cases h : n < xs.length
  · simp [h]
  · simp [h]
@[simp] theorem at0 {α : Type} (xs : List α) : atI xs 0 = xs[0]? := atN xs 0
@[simp] theorem at1 {α : Type} (xs : List α) : atI xs 1 = xs[1]? := atN xs 1
@[simp] theorem at2 {α : Type} (xs : List α) : atI xs 2 = xs[2]? := atN xs 2
@[simp] theorem at3 {α : Type} (xs : List α) : atI xs 3 = xs[3]? := atN xs 3
theorem atI_pos {α : Type} (xs : List α) (i : Int) (h : 0 ≤ i) : atI xs i = xs[i.toNat]? := by
  obtain ⟨n, rfl⟩ := Int.eq_ofNat_of_zero_le h
  exact atN xs n
@[simp] theorem u_ixT (xs : List PyData) (i : Int) : ixU (.d (.tuple xs)) (.d (.int i)) M = (match atI xs i with
    | some w => .ok (.d w) M
    | none => .bad) := by
  show (match itemsU M (.d (.tuple xs)) with
    | some us => (match atI us i with
      | some w => R.ok w M
      | none => R.bad)
    | none => R.bad) = _
  simp only [u_itT]
  have : atI (xs.map U.d) i = (atI xs i).map U.d := by
    unfold atI
    simp only [List.length_map]
    cases ixN xs.length i with
    | none => rfl
    | some j => simp
  rw [this]
  cases atI xs i <;> rfl
@[simp] theorem u_ixR (l : Nat) (i : Int) : ixU (.r l) (.d (.int i)) M = (match M[l]? with
    | some (.lst us) => (match atI us i with
      | some w => .ok w M
      | none => .bad)
    | _ => .bad) := by
  show (match itemsU M (.r l) with
    | some us => (match atI us i with
      | some w => R.ok w M
      | none => R.bad)
    | none => R.bad) = _
  rw [u_it]
  cases M[l]? with
  | none => rfl
  | some o => cases o <;> rfl
@[simp] theorem u_lenT (xs : List PyData) : lenB [.d (.tuple xs)] M = .ok (.d (.int xs.length)) M := by
  show (match itemsU M (.d (.tuple xs)) with
    | some vs => R.ok (U.d (.int vs.length)) M
    | none => R.bad) = _
  simp
@[simp] theorem u_lenR (l : Nat) : lenB [.r l] M = (match M[l]? with
    | some (.lst us) => .ok (.d (.int us.length)) M
    | _ => .bad) := by
  show (match itemsU M (.r l) with
    | some vs => R.ok (U.d (.int vs.length)) M
    | none => R.bad) = _
  rw [u_it]
  cases M[l]? with
  | none => rfl
  | some o => cases o <;> rfl
@[simp] theorem u_tupT (xs : List PyData) : tupleB [.d (.tuple xs)] M = .ok (.d (.tuple xs)) M := rfl
@[simp] theorem u_tupR (l : Nat) : tupleB [.r l] M = (match M[l]? with
    | some (.lst us) => (match asDs us with
      | some xs => .ok (.d (.tuple xs)) M
      | none => .bad)
    | _ => .bad) := by
  show (match itemsU M (.r l) with
    | some vs => (match asDs vs with
      | some xs => R.ok (U.d (.tuple xs)) M
      | none => R.bad)
    | none => R.bad) = _
  rw [u_it]
  cases M[l]? with
  | none => rfl
  | some o => cases o <;> rfl
@[simp] theorem u_listT (xs : List PyData) : listB [.d (.tuple xs)] M = .ok (.r M.length) (M ++ [.lst (xs.map U.d)]) := rfl
@[simp] theorem u_listR (l : Nat) : listB [.r l] M = (match M[l]? with
    | some (.lst us) => .ok (.r M.length) (M ++ [.lst us])
    | _ => .bad) := by
  show (match itemsU M (.r l) with
    | some vs => R.ok (U.r M.length) (M ++ [Ob.lst vs])
    | none => R.bad) = _
  rw [u_it]
  cases M[l]? with
  | none => rfl
  | some o => cases o <;> rfl
@[simp] theorem u_isL (l : Nat) (us : List U) (h : M[l]? = some (.lst us)) : isL (.r l) M = true := by
  show (match M[l]? with
    | some (Ob.lst _) => true
    | _ => false) = true
  rw [h]
theorem shaped_int (i : Int) : SeqAt.shaped (.int i) = true := by
  show (PyData.canLay0 (.int i) && decide (PyData.depth (.int i) ≤ 64)) = true
  simp [PyData.canLay0, PyData.depth]
@[simp] theorem u_eqI (i j : Int) : eqU' false (.d (.int i)) (.d (.int j)) M = .ok (.d (.bool (decide (i = j)))) M := by
  show (if (SeqAt.shaped (.int i) && SeqAt.shaped (.int j)) = true then R.ok (U.d (.bool (if false = true then !PyData.eqv (.int i) (.int j) else PyData.eqv (.int i) (.int j)))) M else R.bad) = _
  simp [shaped_int, PyData.eqv]
  by_cases h : i = j <;> simp [h]
@[simp] theorem u_neI (i j : Int) : eqU' true (.d (.int i)) (.d (.int j)) M = .ok (.d (.bool (!decide (i = j)))) M := by
  show (if (SeqAt.shaped (.int i) && SeqAt.shaped (.int j)) = true then R.ok (U.d (.bool (if true = true then !PyData.eqv (.int i) (.int j) else PyData.eqv (.int i) (.int j)))) M else R.bad) = _
  simp [shaped_int, PyData.eqv]
  by_cases h : i = j <;> simp [h]
/-! slices of tuples -/
theorem sl_init (xs : List PyData) (x : PyData) : slU (.d (.tuple (xs ++ [x]))) none (some (-1)) M = .ok (.d (.tuple xs)) M := by
  have e : HT.sIx (xs ++ [x]).length (xs ++ [x]).length (some (-1)) = xs.length := by
    show (if (-1 : Int) < 0 then ((-1 : Int) + ((xs ++ [x]).length : Int)).toNat else min ((-1 : Int)).toNat (xs ++ [x]).length) = xs.length
    rw [if_pos (by decide), List.length_append, List.length_singleton]
    omega
  show (if HT.sIx (xs ++ [x]).length 0 none = 0 ∧ HT.sIx (xs ++ [x]).length (xs ++ [x]).length (some (-1)) = (xs ++ [x]).length then R.bad else R.ok (U.d (.tuple (cutL (xs ++ [x]) none (some (-1))))) M) = _
  rw [e, if_neg (by rw [List.length_append, List.length_singleton]; omega)]
  unfold cutL
  rw [e]
  show R.ok (U.d (.tuple (((xs ++ [x]).drop 0).take (xs.length - 0)))) M = _
  simp
theorem sl_take (xs : List PyData) (n : Nat) (h : n < xs.length) : slU (.d (.tuple xs)) none (some (n : Int)) M = .ok (.d (.tuple (xs.take n))) M := by
  have e : HT.sIx xs.length xs.length (some (n : Int)) = n := by rw [HT.sIx_nat]; omega
  show (if HT.sIx xs.length 0 none = 0 ∧ HT.sIx xs.length xs.length (some (n : Int)) = xs.length then R.bad else R.ok (U.d (.tuple (cutL xs none (some (n : Int))))) M) = _
  rw [e, if_neg (by omega)]
  unfold cutL
  rw [e]
  show R.ok (U.d (.tuple ((xs.drop 0).take (n - 0)))) M = _
  simp
theorem sl_drop (xs : List PyData) (n : Nat) (h0 : 0 < n) (h : n ≤ xs.length) : slU (.d (.tuple xs)) (some (n : Int)) none M = .ok (.d (.tuple (xs.drop n))) M := by
  have e : HT.sIx xs.length 0 (some (n : Int)) = n := by rw [HT.sIx_nat]; omega
  show (if HT.sIx xs.length 0 (some (n : Int)) = 0 ∧ HT.sIx xs.length xs.length none = xs.length then R.bad else R.ok (U.d (.tuple (cutL xs (some (n : Int)) none))) M) = _
  rw [e, if_neg (by omega)]
  unfold cutL
  rw [e]
  show R.ok (U.d (.tuple ((xs.drop n).take (xs.length - n)))) M = _
  rw [List.take_of_length_le (by rw [List.length_drop]; omega)]
theorem sl_cut (xs : List PyData) (m n : Nat) (h0 : 0 < m) (h : m ≤ n) (hn : n ≤ xs.length) : slU (.d (.tuple xs)) (some (m : Int)) (some (n : Int)) M = .ok (.d (.tuple ((xs.drop m).take (n - m)))) M := by
  have e : HT.sIx xs.length 0 (some (m : Int)) = m := by rw [HT.sIx_nat]; omega
  have e2 : HT.sIx xs.length xs.length (some (n : Int)) = n := by rw [HT.sIx_nat]; omega
  show (if HT.sIx xs.length 0 (some (m : Int)) = 0 ∧ HT.sIx xs.length xs.length (some (n : Int)) = xs.length then R.bad else R.ok (U.d (.tuple (cutL xs (some (m : Int)) (some (n : Int))))) M) = _
  rw [e, if_neg (by omega)]
  unfold cutL
  rw [e, e2]
/-! stores -/
theorem st_app {l : Nat} {o : Ob} (h : M[l]? = some o) (x : List Ob) : (M ++ x)[l]? = some o := by
  obtain ⟨hl, e⟩ := List.getElem?_eq_some_iff.mp h
  rw [List.getElem?_append_left hl, h]
@[simp] theorem st_new (x : Ob) : (M ++ [x])[M.length]? = some x := by simp
theorem st_lt {l : Nat} {o : Ob} (h : M[l]? = some o) : l < M.length := (List.getElem?_eq_some_iff.mp h).1
end
theorem line_big : 1000000 < sizeLine := by decide
end RS

end
section
set_option Elab.async false
set_option linter.all false
set_option autoImplicit false
set_option maxRecDepth 100000
set_option maxHeartbeats 1000000
/-! RsLoop: comprehensions and loops reckoned. -/
namespace RS
open PySem PySem.Spec PyProof.Rows L2
theorem many_seq {u : U} {us : List U} {M : Sto} (h : itemsU M u = some us) : (Wk.seq u).many M = us.length + 1 := by
  show (match itemsU M u with
    | some us => us.length + 1
    | none => 0) = _
  rw [h]
theorem at_seq {u : U} {us : List U} {M : Sto} (h : itemsU M u = some us) (i : Nat) : (Wk.seq u).at i M = some us[i]? := by
  show (match itemsU M u with
    | some us => some us[i]?
    | none => none) = _
  rw [h]
theorem at_rng (lo : Int) (n i : Nat) (M : Sto) : (Wk.rng lo n).at i M = if i < n then some (some (.d (.int (lo + i)))) else some none := rfl
@[simp] theorem many_rng (lo : Int) (n : Nat) (M : Sto) : (Wk.rng lo n).many M = n + 1 := rfl
section
variable {g : Tg} {ft : En → Sto → R Bool} {fe : En → Sto → R U} {en0 : En} {M : Sto}
/-- a comprehension that changes nothing -/
theorem loop_pure {u : U} {us : List U} {g : Tg} (hu : itemsU M u = some us) (y : U → U) (hl : us.length < sizeLine) (hb : ∀ x ∈ us, ∃ en, g.en x en0 = some en ∧ fe en M = .ok (y x) M) :
    ∀ (m i : Nat) (acc : List U), us.length ≤ m + i → acc.length = i → cLoop (.seq u) g cTrue fe en0 (m + 1) i acc M = .ok (acc ++ (us.drop i).map y) M
  | m, i, acc, hm, ha => by
    unfold cLoop
    rw [at_seq hu]
    by_cases hi : i < us.length
    · rw [List.getElem?_eq_getElem hi]
      obtain ⟨en, e1, e2⟩ := hb us[i] (List.getElem_mem hi)
      have e3 : us.drop i = us[i] :: us.drop (i + 1) := List.drop_eq_getElem_cons hi
      simp only [e1, cTrue, bindN_ok, if_true, e2, ha]
      rw [if_pos (by omega)]
      cases m with
      | zero => omega
      | succ m =>
        rw [loop_pure hu y hl hb m (i + 1) (acc ++ [y us[i]]) (by omega) (by simp [ha]), e3, List.map_cons, List.append_assoc]
        rfl
    · rw [List.getElem?_eq_none (by omega), List.drop_of_length_le (by omega)]
      simp
theorem comp_pure {u : U} {us : List U} {own : List Nat} {fi : En → Sto → R Wk} {en : En} {M0 : Sto} (h0 : fi en M0 = .ok (.seq u) M) (hu : itemsU M u = some us) (y : U → U) (hl : us.length < sizeLine) (hb : ∀ x ∈ us, ∃ en', g.en x (wipeE en own) = some en' ∧ fe en' M = .ok (y x) M) :
    eComp own fi g cTrue fe en M0 = .ok (.r M.length) (M ++ [.lst (us.map y)]) := by
  rw [x_Comp, h0, R.bind_ok, many_seq hu, loop_pure hu y hl hb us.length 0 [] (by omega) rfl]
  simp
/-- a comprehension over a range, step by step -/
theorem loop_rng {lo : Int} {n : Nat} (Iv : Nat → List U → Sto → Prop) (hn : n < sizeLine) (hb : ∀ i acc M, i < n → Iv i acc M → ∃ en y M', g.en (.d (.int (lo + i))) en0 = some en ∧ fe en M = .ok y M' ∧ Iv (i + 1) (acc ++ [y]) M') :
    ∀ (m i : Nat) (acc : List U) (M : Sto), n ≤ m + i → acc.length = i → i ≤ n → Iv i acc M → ∃ us M', cLoop (.rng lo n) g cTrue fe en0 (m + 1) i acc M = .ok us M' ∧ Iv n us M' ∧ us.length = n
  | m, i, acc, M, hm, ha, hle, hI => by
    unfold cLoop
    rw [at_rng]
    by_cases hi : i < n
    · rw [if_pos hi]
      obtain ⟨en, y, M', e1, e2, e3⟩ := hb i acc M hi hI
      simp only [e1, cTrue, bindN_ok, if_true, e2, ha]
      rw [if_pos (by omega)]
      cases m with
      | zero => omega
      | succ m => exact loop_rng Iv hn hb m (i + 1) (acc ++ [y]) M' (by omega) (by simp [ha]) hi e3
    · rw [if_neg hi]
      have : i = n := by omega
      subst this
      exact ⟨acc, M, rfl, hI, ha⟩
theorem comp_rng {n : Nat} {own : List Nat} {fi : En → Sto → R Wk} {en : En} {M0 : Sto} (h0 : fi en M0 = .ok (.rng 0 n) M) (Iv : Nat → List U → Sto → Prop) (hn : n < sizeLine) (hI : Iv 0 [] M) (hb : ∀ i acc M, i < n → Iv i acc M → ∃ en' y M', g.en (.d (.int (0 + i))) (wipeE en own) = some en' ∧ fe en' M = .ok y M' ∧ Iv (i + 1) (acc ++ [y]) M') :
    ∃ us M', eComp own fi g cTrue fe en M0 = .ok (.r M'.length) (M' ++ [.lst us]) ∧ Iv n us M' ∧ us.length = n := by
  obtain ⟨us, M', e, h1, h2⟩ := loop_rng (lo := 0) (g := g) (fe := fe) (en0 := wipeE en own) Iv hn hb n 0 [] M (by omega) rfl (by omega) hI
  exact ⟨us, M', by rw [x_Comp, h0, R.bind_ok, many_rng, e]; simp, h1, h2⟩
end
/-- a loop over a range -/
theorem for_rng {n : Nat} {g : Tg} {body : En → Sto → O} (Iv : Nat → En → Sto → Prop) (Q : O → Prop) (hb : ∀ i en M, i < n → Iv i en M → ∃ en1, g.en (.d (.int (0 + i))) en = some en1 ∧
      ((∃ en2 M2, (body en1 M = .nx en2 M2 ∨ body en1 M = .ct en2 M2) ∧ Iv (i + 1) en2 M2) ∨ (∃ en2 M2, body en1 M = .bk en2 M2 ∧ Q (.nx en2 M2)) ∨ (∃ u M2, body en1 M = .rt u M2 ∧ Q (.rt u M2))))
    (hd : ∀ en M, Iv n en M → Q (.nx en M)) : ∀ (m i : Nat) (en : En) (M : Sto), n ≤ m + i → i ≤ n → Iv i en M → Q (fLoop (.rng 0 n) g body (m + 1) i en M)
  | m, i, en, M, hm, hle, hI => by
    unfold fLoop
    rw [at_rng]
    by_cases hi : i < n
    · rw [if_pos hi]
      obtain ⟨en1, e1, h⟩ := hb i en M hi hI
      simp only [e1]
      rcases h with ⟨en2, M2, h | h, h2⟩ | ⟨en2, M2, h, h2⟩ | ⟨u, M2, h, h2⟩
      · rw [h]
        cases m with
        | zero => omega
        | succ m => exact for_rng Iv Q hb hd m (i + 1) en2 M2 (by omega) hi h2
      · rw [h]
        cases m with
        | zero => omega
        | succ m => exact for_rng Iv Q hb hd m (i + 1) en2 M2 (by omega) hi h2
      · rw [h]; exact h2
      · rw [h]; exact h2
    · rw [if_neg hi]
      have : i = n := by omega
      subst this
      exact hd en M hI
end RS

end
section
set_option Elab.async false
set_option linter.all false
set_option autoImplicit false
set_option maxRecDepth 100000
set_option maxHeartbeats 4000000
/-! K06Gen: the defs of k06's text (printed by gen.py). -/
namespace RSK
open PySem PySem.Spec PyProof.Rows L2 RS
def top (i : Nat) : Stmt := PySem.Challenge.pw_rowsort_k06_whole_single_instructions.main.body.getD i (.Pass ⟨0, 0, 0, 0⟩)
abbrev FnP (K : PySem.W.Frag) (x : Str) (st : Stmt) (f : Addr) (fd : FuncData) : Prop := FunD K x x (defArgs st) (defBody st) (defScope st) [] [] f fd
structure Fr (mg : Str → Option Value) : Prop where
  len : mg "len" = none
  tuple : mg "tuple" = none
  list : mg "list" = none
  all : mg "all" = none
  range : mg "range" = none
  abs : mg "abs" = none
  int : mg "int" = none
  min : mg "min" = none
  max : mg "max" = none
  sorted : mg "sorted" = none
def mt_Trap (c : Str) : Option Bool := if c = "Trap" then some true else if c = "Nothing" then some false else none
def mt_Nothing (c : Str) : Option Bool := if c = "Nothing" then some true else none
variable [LT] {P : Program} {w : World} {K : PySem.W.Frag} {mg : Str → Option Value} {base : Heap} {f : Addr} {fd : FuncData}
/-! entered -/
abbrev s_entered : Stmt := top 8
theorem sc_entered : FnScope ["functions", "number", "places", "into"] ["functions", "number", "places", "into"] (defScope s_entered) := ⟨rfl, rfl, rfl, by decide +kernel, rfl, by decide +kernel, by decide +kernel⟩
def b_entered : En → Sto → O := sRt (eTup (aCons (eV 1) (aCons (eC (.int 0)) (aCons (e2 addU (eV 2) (e2 mulU (eTup (aCons (eC (.int 0)) (aNil))) (e2 subU (e2 ixU (e2 ixU (eV 0) (eV 1)) (eC (.int 1))) (eB1 lenB (aCons (eV 2) (aNil)))))) (aCons (eV 3) (aNil))))))
def C_entered : List U → Sto → R U := runC 4 b_entered
theorem fn_entered (F : FnP K "entered" s_entered f fd) (gm : mg "entered" = some (.ref f)) (fr : Fr mg) : FnB P w K mg base 1 "entered" 4 C_entered :=
  fn_mk F sc_entered gm (F.bindsN fun _ _ _ _ _ _ us hl => match us, hl with | [_, _, _, _], _ => rfl) fun cdv A outer s H E hr tk => sb_one (ss_ret (se_tup (sa_cons (se_var (i := 1) rfl (vis_of rfl)) (sa_cons (se_int) (sa_cons (se_op op_addA (addU_ok (K := K)) (se_var (i := 2) rfl (vis_of rfl)) (se_op op_mulA (mulU_ok (K := K)) (se_tup (sa_cons (se_int) (sa_nil))) (se_op op_sub (subU_ok (K := K)) (se_ix (se_ix (se_var (i := 0) rfl (vis_of rfl)) (se_var (i := 1) rfl (vis_of rfl))) (se_int)) (se_callB call_lenA lenB_ok rfl fr.len boot_len (sa_cons (se_var (i := 2) rfl (vis_of rfl)) (sa_nil)))))) (sa_cons (se_var (i := 3) rfl (vis_of rfl)) (sa_nil)))))))
/-! begin -/
abbrev s_begin : Stmt := top 9
theorem sc_begin : FnScope ["functions", "number", "row", "places"] ["functions", "number", "row", "places"] (defScope s_begin) := ⟨rfl, rfl, rfl, by decide +kernel, rfl, by decide +kernel, by decide +kernel⟩
def b_begin : En → Sto → O := sSeq (sIf (bOr (bNot (eB (e3c leU ltU (eC (.int 0)) (eV 1) (eB1 lenB (aCons (eV 0) (aNil)))))) (eB (e2 (eqU' true) (eB1 lenB (aCons (eV 3) (aNil))) (e2 ixU (e2 ixU (eV 0) (eV 1)) (eC (.int 0)))))) (sRz "Nothing") (sNx)) (sRt (eTup (aCons (eTup (aCons (eCall C_entered (aCons (eV 0) (aCons (eV 1) (aCons (eB1 tupleB (aCons (eV 3) (aNil))) (aCons (eC .none) (aNil))))) 4) (aNil))) (aCons (eB1 tupleB (aCons (eV 2) (aNil))) (aNil)))))
def C_begin : List U → Sto → R U := runC 4 b_begin
theorem fn_begin (F : FnP K "begin" s_begin f fd) (gm : mg "begin" = some (.ref f)) (fr : Fr mg) (h_entered : FnB P w K mg base 1 "entered" 4 C_entered) (x_Nothing : ExcN K mg "Nothing") : FnB P w K mg base 2 "begin" 4 C_begin :=
  fn_mk F sc_begin gm (F.bindsN fun _ _ _ _ _ _ us hl => match us, hl with | [_, _, _, _], _ => rfl) fun cdv A outer s H E hr tk => sb_cons (ss_if (st_of (sw_or (st_not (st_chain op_le (leU_ok (K := K)) op_lt (ltU_ok (K := K)) (se_int) (se_var (i := 1) rfl (vis_of rfl)) (se_callB call_lenA lenB_ok rfl fr.len boot_len (sa_cons (se_var (i := 0) rfl (vis_of rfl)) (sa_nil))))) (sw_or1 (st_cmp (op_neD hr.units) (neU_ok (K := K)) (se_callB call_lenA lenB_ok rfl fr.len boot_len (sa_cons (se_var (i := 3) rfl (vis_of rfl)) (sa_nil))) (se_ix (se_ix (se_var (i := 0) rfl (vis_of rfl)) (se_var (i := 1) rfl (vis_of rfl))) (se_int)))))) (sb_one (raise_of x_Nothing rfl tk rfl)) (sb_nil)) (sb_one (ss_ret (se_tup (sa_cons (se_tup (sa_cons (se_fn h_entered (by decide) tk hr rfl (sa_cons (se_var (i := 0) rfl (vis_of rfl)) (sa_cons (se_var (i := 1) rfl (vis_of rfl)) (sa_cons (se_callTy call_tuple_of tupleB_ok rfl fr.tuple PyProof.Rows.boot_tuple (sa_cons (se_var (i := 3) rfl (vis_of rfl)) (sa_nil))) (sa_cons (se_non) (sa_nil)))))) (sa_nil))) (sa_cons (se_callTy call_tuple_of tupleB_ok rfl fr.tuple PyProof.Rows.boot_tuple (sa_cons (se_var (i := 2) rfl (vis_of rfl)) (sa_nil))) (sa_nil))))))
/-! is_ended -/
abbrev s_is_ended : Stmt := top 10
theorem sc_is_ended : FnScope ["stand"] ["stand"] (defScope s_is_ended) := ⟨rfl, rfl, rfl, by decide +kernel, rfl, by decide +kernel, by decide +kernel⟩
def b_is_ended : En → Sto → O := sRt (e2 (eqU' false) (e2 ixU (e2 ixU (e2 ixU (eV 0) (eC (.int 0))) (eC (.int 0))) (eC (.int 0))) (e1 negU (eC (.int 1))))
def C_is_ended : List U → Sto → R U := runC 1 b_is_ended
theorem fn_is_ended (F : FnP K "is_ended" s_is_ended f fd) (gm : mg "is_ended" = some (.ref f)) : FnB P w K mg base 1 "is_ended" 1 C_is_ended :=
  fn_mk F sc_is_ended gm (F.bindsN fun _ _ _ _ _ _ us hl => match us, hl with | [_], _ => rfl) fun cdv A outer s H E hr tk => sb_one (ss_ret (se_cmp (op_eqD hr.units) (eqU_ok (K := K)) (se_ix (se_ix (se_ix (se_var (i := 0) rfl (vis_of rfl)) (se_int)) (se_int)) (se_int)) (se_neg (se_int))))
/-! end_of -/
abbrev s_end_of : Stmt := top 11
theorem sc_end_of : FnScope ["stand"] ["stand"] (defScope s_end_of) := ⟨rfl, rfl, rfl, by decide +kernel, rfl, by decide +kernel, by decide +kernel⟩
def b_end_of : En → Sto → O := sSeq (sIf (bNot (eB (eCall C_is_ended (aCons (eV 0) (aNil)) 1))) (sRz "Nothing") (sNx)) (sRt (eTup (aCons (e2 ixU (eV 0) (eC (.int 1))) (aCons (e2 ixU (e2 ixU (e2 ixU (eV 0) (eC (.int 0))) (eC (.int 0))) (eC (.int 1))) (aNil)))))
def C_end_of : List U → Sto → R U := runC 1 b_end_of
theorem fn_end_of (F : FnP K "end_of" s_end_of f fd) (gm : mg "end_of" = some (.ref f)) (h_is_ended : FnB P w K mg base 1 "is_ended" 1 C_is_ended) (x_Nothing : ExcN K mg "Nothing") : FnB P w K mg base 2 "end_of" 1 C_end_of :=
  fn_mk F sc_end_of gm (F.bindsN fun _ _ _ _ _ _ us hl => match us, hl with | [_], _ => rfl) fun cdv A outer s H E hr tk => sb_cons (ss_if (st_not (st_val (se_fn h_is_ended (by decide) tk hr rfl (sa_cons (se_var (i := 0) rfl (vis_of rfl)) (sa_nil))))) (sb_one (raise_of x_Nothing rfl tk rfl)) (sb_nil)) (sb_one (ss_ret (se_tup (sa_cons (se_ix (se_var (i := 0) rfl (vis_of rfl)) (se_int)) (sa_cons (se_ix (se_ix (se_ix (se_var (i := 0) rfl (vis_of rfl)) (se_int)) (se_int)) (se_int)) (sa_nil))))))
/-! instruction_at -/
abbrev s_instruction_at : Stmt := top 12
theorem sc_instruction_at : FnScope ["functions", "stand", "number", "at"] ["functions", "stand"] (defScope s_instruction_at) := ⟨rfl, rfl, rfl, by decide +kernel, rfl, by decide +kernel, by decide +kernel⟩
def b_instruction_at : En → Sto → O := sSeq (sIf (eB (eCall C_is_ended (aCons (eV 1) (aNil)) 1)) (sRz "Nothing") (sNx)) (sSeq (sAs (eSl (e2 ixU (e2 ixU (eV 1) (eC (.int 0))) (e1 negU (eC (.int 1)))) (oNo) (oInt (eC (.int 2)))) (.tp [2, 3])) (sRt (e2 ixU (e2 ixU (e2 ixU (eV 0) (eV 2)) (eC (.int 2))) (eV 3))))
def C_instruction_at : List U → Sto → R U := runC 4 b_instruction_at
theorem fn_instruction_at (F : FnP K "instruction_at" s_instruction_at f fd) (gm : mg "instruction_at" = some (.ref f)) (h_is_ended : FnB P w K mg base 1 "is_ended" 1 C_is_ended) (x_Nothing : ExcN K mg "Nothing") : FnB P w K mg base 2 "instruction_at" 2 C_instruction_at :=
  fn_mk F sc_instruction_at gm (F.bindsN fun _ _ _ _ _ _ us hl => match us, hl with | [_, _], _ => rfl) fun cdv A outer s H E hr tk => sb_cons (ss_if (st_val (se_fn h_is_ended (by decide) tk hr rfl (sa_cons (se_var (i := 1) rfl (vis_of rfl)) (sa_nil)))) (sb_one (raise_of x_Nothing rfl tk rfl)) (sb_nil)) (sb_cons (ss_asg (g := .tp [2, 3]) (se_sl (se_ix (se_ix (se_var (i := 1) rfl (vis_of rfl)) (se_int)) (se_neg (se_int))) so_none (so_some (se_int))) (pg_tup rfl (pgs_cons (pg_name sc_instruction_at.nd (i := 2) rfl (loc_of rfl)) (pgs_cons (pg_name sc_instruction_at.nd (i := 3) rfl (loc_of rfl)) (pgs_nil))))) (sb_one (ss_ret (se_ix (se_ix (se_ix (se_var (i := 0) rfl (vis_of rfl)) (se_var (i := 2) rfl (vis_of rfl))) (se_int)) (se_var (i := 3) rfl (vis_of rfl))))))
/-! word_at -/
abbrev s_word_at : Stmt := top 13
theorem sc_word_at : FnScope ["row", "place"] ["row", "place"] (defScope s_word_at) := ⟨rfl, rfl, rfl, by decide +kernel, rfl, by decide +kernel, by decide +kernel⟩
def b_word_at : En → Sto → O := sRt (eIf (eB (e3c leU ltU (eC (.int 0)) (eV 1) (eB1 lenB (aCons (eV 0) (aNil))))) (e2 ixU (eV 0) (eV 1)) (eC (.int 0)))
def C_word_at : List U → Sto → R U := runC 2 b_word_at
theorem fn_word_at (F : FnP K "word_at" s_word_at f fd) (gm : mg "word_at" = some (.ref f)) (fr : Fr mg) : FnB P w K mg base 1 "word_at" 2 C_word_at :=
  fn_mk F sc_word_at gm (F.bindsN fun _ _ _ _ _ _ us hl => match us, hl with | [_, _], _ => rfl) fun cdv A outer s H E hr tk => sb_one (ss_ret (se_if (st_chain op_le (leU_ok (K := K)) op_lt (ltU_ok (K := K)) (se_int) (se_var (i := 1) rfl (vis_of rfl)) (se_callB call_lenA lenB_ok rfl fr.len boot_len (sa_cons (se_var (i := 0) rfl (vis_of rfl)) (sa_nil)))) (se_ix (se_var (i := 0) rfl (vis_of rfl)) (se_var (i := 1) rfl (vis_of rfl))) (se_int)))
/-! swapped -/
abbrev s_swapped : Stmt := top 14
theorem sc_swapped : FnScope ["row", "one", "other", "cells"] ["row", "one", "other"] (defScope s_swapped) := ⟨rfl, rfl, rfl, by decide +kernel, rfl, by decide +kernel, by decide +kernel⟩
def b_swapped : En → Sto → O := sSeq (sIf (bOr (bNot (eB (e3c leU ltU (eC (.int 0)) (eV 1) (eB1 lenB (aCons (eV 0) (aNil)))))) (bNot (eB (e3c leU ltU (eC (.int 0)) (eV 2) (eB1 lenB (aCons (eV 0) (aNil))))))) (sRt (eV 0)) (sNx)) (sSeq (sAs (eB1 listB (aCons (eV 0) (aNil))) (.nm 3)) (sSeq (sTup 2 (aCons (e2 ixU (eV 3) (eV 2)) (aCons (e2 ixU (eV 3) (eV 1)) (aNil))) (gs1 (gS (eV 3) (eV 1)) (gs1 (gS (eV 3) (eV 2)) (gs0)))) (sRt (eB1 tupleB (aCons (eV 3) (aNil))))))
def C_swapped : List U → Sto → R U := runC 4 b_swapped
theorem fn_swapped (F : FnP K "swapped" s_swapped f fd) (gm : mg "swapped" = some (.ref f)) (fr : Fr mg) : FnB P w K mg base 1 "swapped" 3 C_swapped :=
  fn_mk F sc_swapped gm (F.bindsN fun _ _ _ _ _ _ us hl => match us, hl with | [_, _, _], _ => rfl) fun cdv A outer s H E hr tk => sb_cons (ss_if (st_of (sw_or (st_not (st_chain op_le (leU_ok (K := K)) op_lt (ltU_ok (K := K)) (se_int) (se_var (i := 1) rfl (vis_of rfl)) (se_callB call_lenA lenB_ok rfl fr.len boot_len (sa_cons (se_var (i := 0) rfl (vis_of rfl)) (sa_nil))))) (sw_or1 (st_not (st_chain op_le (leU_ok (K := K)) op_lt (ltU_ok (K := K)) (se_int) (se_var (i := 2) rfl (vis_of rfl)) (se_callB call_lenA lenB_ok rfl fr.len boot_len (sa_cons (se_var (i := 0) rfl (vis_of rfl)) (sa_nil)))))))) (sb_one (ss_ret (se_var (i := 0) rfl (vis_of rfl)))) (sb_nil)) (sb_cons (ss_set sc_swapped.nd (i := 3) rfl (loc_of rfl) (se_callTy call_list_of listB_ok rfl fr.list PyProof.Rows.boot_list (sa_cons (se_var (i := 0) rfl (vis_of rfl)) (sa_nil)))) (sb_cons (ss_tup rfl (sa_cons (se_ix (se_var (i := 3) rfl (vis_of rfl)) (se_var (i := 2) rfl (vis_of rfl))) (sa_cons (se_ix (se_var (i := 3) rfl (vis_of rfl)) (se_var (i := 1) rfl (vis_of rfl))) (sa_nil))) (sgs_cons (sg_sub (se_var (i := 3) rfl (vis_of rfl)) (se_var (i := 1) rfl (vis_of rfl))) (sgs_cons (sg_sub (se_var (i := 3) rfl (vis_of rfl)) (se_var (i := 2) rfl (vis_of rfl))) (sgs_nil)))) (sb_one (ss_ret (se_callTy call_tuple_of tupleB_ok rfl fr.tuple PyProof.Rows.boot_tuple (sa_cons (se_var (i := 3) rfl (vis_of rfl)) (sa_nil)))))))
/-! with_frame -/
abbrev s_with_frame : Stmt := top 15
theorem sc_with_frame : FnScope ["stand", "at", "registers", "number", "_at", "_registers", "into"] ["stand", "at", "registers"] (defScope s_with_frame) := ⟨rfl, rfl, rfl, by decide +kernel, rfl, by decide +kernel, by decide +kernel⟩
def b_with_frame : En → Sto → O := sSeq (sAs (e2 ixU (e2 ixU (eV 0) (eC (.int 0))) (e1 negU (eC (.int 1)))) (.tp [3, 4, 5, 6])) (sRt (eTup (aCons (eTup (aStar (eSl (e2 ixU (eV 0) (eC (.int 0))) (oNo) (oInt (e1 negU (eC (.int 1))))) (aCons (eTup (aCons (eV 3) (aCons (eV 1) (aCons (eV 2) (aCons (eV 6) (aNil)))))) (aNil)))) (aCons (e2 ixU (eV 0) (eC (.int 1))) (aNil)))))
def C_with_frame : List U → Sto → R U := runC 7 b_with_frame
theorem fn_with_frame (F : FnP K "with_frame" s_with_frame f fd) (gm : mg "with_frame" = some (.ref f)) : FnB P w K mg base 1 "with_frame" 3 C_with_frame :=
  fn_mk F sc_with_frame gm (F.bindsN fun _ _ _ _ _ _ us hl => match us, hl with | [_, _, _], _ => rfl) fun cdv A outer s H E hr tk => sb_cons (ss_asg (g := .tp [3, 4, 5, 6]) (se_ix (se_ix (se_var (i := 0) rfl (vis_of rfl)) (se_int)) (se_neg (se_int))) (pg_tup rfl (pgs_cons (pg_name sc_with_frame.nd (i := 3) rfl (loc_of rfl)) (pgs_cons (pg_name sc_with_frame.nd (i := 4) rfl (loc_of rfl)) (pgs_cons (pg_name sc_with_frame.nd (i := 5) rfl (loc_of rfl)) (pgs_cons (pg_name sc_with_frame.nd (i := 6) rfl (loc_of rfl)) (pgs_nil))))))) (sb_one (ss_ret (se_tup (sa_cons (se_tup (sa_star (se_sl (se_ix (se_var (i := 0) rfl (vis_of rfl)) (se_int)) so_none (so_some (se_neg (se_int)))) (sa_cons (se_tup (sa_cons (se_var (i := 3) rfl (vis_of rfl)) (sa_cons (se_var (i := 1) rfl (vis_of rfl)) (sa_cons (se_var (i := 2) rfl (vis_of rfl)) (sa_cons (se_var (i := 6) rfl (vis_of rfl)) (sa_nil)))))) (sa_nil)))) (sa_cons (se_ix (se_var (i := 0) rfl (vis_of rfl)) (se_int)) (sa_nil))))))
/-! with_register -/
abbrev s_with_register : Stmt := top 16
theorem sc_with_register : FnScope ["stand", "r", "place", "number", "at", "registers", "into"] ["stand", "r", "place"] (defScope s_with_register) := ⟨rfl, rfl, rfl, by decide +kernel, rfl, by decide +kernel, by decide +kernel⟩
def b_with_register : En → Sto → O := sSeq (sAs (e2 ixU (e2 ixU (eV 0) (eC (.int 0))) (e1 negU (eC (.int 1)))) (.tp [3, 4, 5, 6])) (sSeq (sIf (eB (e2 (isU false) (eV 1) (eC .none))) (sRt (eCall C_with_frame (aCons (eV 0) (aCons (e2 addU (eV 4) (eC (.int 1))) (aCons (eV 5) (aNil)))) 3)) (sNx)) (sRt (eCall C_with_frame (aCons (eV 0) (aCons (e2 addU (eV 4) (eC (.int 1))) (aCons (eTup (aStar (eSl (eV 5) (oNo) (oInt (eV 1))) (aCons (eV 2) (aStar (eSl (eV 5) (oInt (e2 addU (eV 1) (eC (.int 1)))) (oNo)) (aNil))))) (aNil)))) 3)))
def C_with_register : List U → Sto → R U := runC 7 b_with_register
theorem fn_with_register (F : FnP K "with_register" s_with_register f fd) (gm : mg "with_register" = some (.ref f)) (h_with_frame : FnB P w K mg base 1 "with_frame" 3 C_with_frame) : FnB P w K mg base 2 "with_register" 3 C_with_register :=
  fn_mk F sc_with_register gm (F.bindsN fun _ _ _ _ _ _ us hl => match us, hl with | [_, _, _], _ => rfl) fun cdv A outer s H E hr tk => sb_cons (ss_asg (g := .tp [3, 4, 5, 6]) (se_ix (se_ix (se_var (i := 0) rfl (vis_of rfl)) (se_int)) (se_neg (se_int))) (pg_tup rfl (pgs_cons (pg_name sc_with_register.nd (i := 3) rfl (loc_of rfl)) (pgs_cons (pg_name sc_with_register.nd (i := 4) rfl (loc_of rfl)) (pgs_cons (pg_name sc_with_register.nd (i := 5) rfl (loc_of rfl)) (pgs_cons (pg_name sc_with_register.nd (i := 6) rfl (loc_of rfl)) (pgs_nil))))))) (sb_cons (ss_if (st_cmp op_isN (isU_ok (K := K)) (se_var (i := 1) rfl (vis_of rfl)) (se_non)) (sb_one (ss_ret (se_fn h_with_frame (by decide) tk hr rfl (sa_cons (se_var (i := 0) rfl (vis_of rfl)) (sa_cons (se_op op_addA (addU_ok (K := K)) (se_var (i := 4) rfl (vis_of rfl)) (se_int)) (sa_cons (se_var (i := 5) rfl (vis_of rfl)) (sa_nil))))))) (sb_nil)) (sb_one (ss_ret (se_fn h_with_frame (by decide) tk hr rfl (sa_cons (se_var (i := 0) rfl (vis_of rfl)) (sa_cons (se_op op_addA (addU_ok (K := K)) (se_var (i := 4) rfl (vis_of rfl)) (se_int)) (sa_cons (se_tup (sa_star (se_sl (se_var (i := 5) rfl (vis_of rfl)) so_none (so_some (se_var (i := 1) rfl (vis_of rfl)))) (sa_cons (se_var (i := 2) rfl (vis_of rfl)) (sa_star (se_sl (se_var (i := 5) rfl (vis_of rfl)) (so_some (se_op op_addA (addU_ok (K := K)) (se_var (i := 1) rfl (vis_of rfl)) (se_int))) so_none) (sa_nil))))) (sa_nil))))))))
/-! is_test_so -/
abbrev s_is_test_so : Stmt := top 17
theorem sc_is_test_so : FnScope ["one", "registers", "row", "first", "second"] ["one", "registers", "row"] (defScope s_is_test_so) := ⟨rfl, rfl, rfl, by decide +kernel, rfl, by decide +kernel, by decide +kernel⟩
def b_is_test_so : En → Sto → O := sSeq (sPar 3 4 (aCons (e2 ixU (eV 1) (e2 ixU (eV 0) (eC (.int 1)))) (aCons (e2 ixU (eV 1) (e2 ixU (eV 0) (eC (.int 2)))) (aNil)))) (sSeq (sIf (eB (e2 (eqU' false) (e2 ixU (eV 0) (eC (.int 0))) (eC (.str "same")))) (sRt (e2 (eqU' false) (eV 3) (eV 4))) (sNx)) (sSeq (sIf (eB (e2 (eqU' false) (e2 ixU (eV 0) (eC (.int 0))) (eC (.str "ahead")))) (sRt (e2 ltU (eV 3) (eV 4))) (sNx)) (sSeq (sIf (eB (e2 (eqU' false) (e2 ixU (eV 0) (eC (.int 0))) (eC (.str "atmost")))) (sRt (e2 leU (eCall C_word_at (aCons (eV 2) (aCons (eV 3) (aNil))) 2) (eCall C_word_at (aCons (eV 2) (aCons (eV 4) (aNil))) 2))) (sNx)) (sRt (e2 ltU (eCall C_word_at (aCons (eV 2) (aCons (eV 3) (aNil))) 2) (eCall C_word_at (aCons (eV 2) (aCons (eV 4) (aNil))) 2))))))
def C_is_test_so : List U → Sto → R U := runC 5 b_is_test_so
theorem fn_is_test_so (F : FnP K "is_test_so" s_is_test_so f fd) (gm : mg "is_test_so" = some (.ref f)) (h_word_at : FnB P w K mg base 1 "word_at" 2 C_word_at) : FnB P w K mg base 2 "is_test_so" 3 C_is_test_so :=
  fn_mk F sc_is_test_so gm (F.bindsN fun _ _ _ _ _ _ us hl => match us, hl with | [_, _, _], _ => rfl) fun cdv A outer s H E hr tk => sb_cons (ss_par rfl sc_is_test_so.nd (i := 3) (j := 4) rfl rfl (by decide) rfl rfl (sa_cons (se_ix (se_var (i := 1) rfl (vis_of rfl)) (se_ix (se_var (i := 0) rfl (vis_of rfl)) (se_int))) (sa_cons (se_ix (se_var (i := 1) rfl (vis_of rfl)) (se_ix (se_var (i := 0) rfl (vis_of rfl)) (se_int))) (sa_nil))) rfl) (sb_cons (ss_if (st_cmp (op_eqD hr.units) (eqU_ok (K := K)) (se_ix (se_var (i := 0) rfl (vis_of rfl)) (se_int)) (se_str)) (sb_one (ss_ret (se_cmp (op_eqD hr.units) (eqU_ok (K := K)) (se_var (i := 3) rfl (vis_of rfl)) (se_var (i := 4) rfl (vis_of rfl))))) (sb_nil)) (sb_cons (ss_if (st_cmp (op_eqD hr.units) (eqU_ok (K := K)) (se_ix (se_var (i := 0) rfl (vis_of rfl)) (se_int)) (se_str)) (sb_one (ss_ret (se_cmp op_lt (ltU_ok (K := K)) (se_var (i := 3) rfl (vis_of rfl)) (se_var (i := 4) rfl (vis_of rfl))))) (sb_nil)) (sb_cons (ss_if (st_cmp (op_eqD hr.units) (eqU_ok (K := K)) (se_ix (se_var (i := 0) rfl (vis_of rfl)) (se_int)) (se_str)) (sb_one (ss_ret (se_cmp op_le (leU_ok (K := K)) (se_fn h_word_at (by decide) tk hr rfl (sa_cons (se_var (i := 2) rfl (vis_of rfl)) (sa_cons (se_var (i := 3) rfl (vis_of rfl)) (sa_nil)))) (se_fn h_word_at (by decide) tk hr rfl (sa_cons (se_var (i := 2) rfl (vis_of rfl)) (sa_cons (se_var (i := 4) rfl (vis_of rfl)) (sa_nil))))))) (sb_nil)) (sb_one (ss_ret (se_cmp op_lt (ltU_ok (K := K)) (se_fn h_word_at (by decide) tk hr rfl (sa_cons (se_var (i := 2) rfl (vis_of rfl)) (sa_cons (se_var (i := 3) rfl (vis_of rfl)) (sa_nil)))) (se_fn h_word_at (by decide) tk hr rfl (sa_cons (se_var (i := 2) rfl (vis_of rfl)) (sa_cons (se_var (i := 4) rfl (vis_of rfl)) (sa_nil))))))))))
/-! called -/
abbrev s_called : Stmt := top 18
theorem sc_called : FnScope ["functions", "stand", "one", "registers", "later", "places", "r"] ["functions", "stand", "one"] (defScope s_called) := ⟨rfl, rfl, rfl, by decide +kernel, rfl, by decide +kernel, by decide +kernel⟩
def b_called : En → Sto → O := sSeq (sAs (e2 ixU (e2 ixU (e2 ixU (eV 1) (eC (.int 0))) (e1 negU (eC (.int 1)))) (eC (.int 2))) (.nm 3)) (sSeq (sAs (eCall C_with_register (aCons (eV 1) (aCons (eC .none) (aCons (eC .none) (aNil)))) 3) (.nm 4)) (sSeq (sAs (eB1 tupleB (aCons (eComp [6] (wT (e2 ixU (eV 2) (eC (.int 2)))) (.nm 6) (cTrue) (e2 ixU (eV 3) (eV 6))) (aNil))) (.nm 5)) (sRt (eTup (aCons (eTup (aStar (e2 ixU (eV 4) (eC (.int 0))) (aCons (eCall C_entered (aCons (eV 0) (aCons (e2 ixU (eV 2) (eC (.int 1))) (aCons (eV 5) (aCons (e2 ixU (eV 2) (eC (.int 3))) (aNil))))) 4) (aNil)))) (aCons (e2 ixU (eV 1) (eC (.int 1))) (aNil)))))))
def C_called : List U → Sto → R U := runC 7 b_called
theorem fn_called (F : FnP K "called" s_called f fd) (gm : mg "called" = some (.ref f)) (fr : Fr mg) (h_with_register : FnB P w K mg base 2 "with_register" 3 C_with_register) (h_entered : FnB P w K mg base 1 "entered" 4 C_entered) : FnB P w K mg base 3 "called" 3 C_called :=
  fn_mk F sc_called gm (F.bindsN fun _ _ _ _ _ _ us hl => match us, hl with | [_, _, _], _ => rfl) fun cdv A outer s H E hr tk => sb_cons (ss_set sc_called.nd (i := 3) rfl (loc_of rfl) (se_ix (se_ix (se_ix (se_var (i := 1) rfl (vis_of rfl)) (se_int)) (se_neg (se_int))) (se_int))) (sb_cons (ss_set sc_called.nd (i := 4) rfl (loc_of rfl) (se_fn h_with_register (by decide) tk hr rfl (sa_cons (se_var (i := 1) rfl (vis_of rfl)) (sa_cons (se_non) (sa_cons (se_non) (sa_nil)))))) (sb_cons (ss_set sc_called.nd (i := 5) rfl (loc_of rfl) (se_callTy call_tuple_of tupleB_ok rfl fr.tuple PyProof.Rows.boot_tuple (sa_cons (se_comp rfl sc_called.nd (own := [("r", 6)]) (g := .nm 6) (si_tup (se_ix (se_var (i := 2) rfl (vis_of rfl)) (se_int))) (blkOk_by (N := ["functions", "stand", "one", "registers", "later", "places", "r"]) (sc := defScope s_called) (by decide +kernel)) (fun _ _ _ _ _ => (pg_name sc_called.nd (i := 6) rfl (loc_of rfl))) (by decide) (fun _ _ _ _ _ => pts_true) (fun _ _ _ _ _ => se_ix (se_var (i := 3) rfl (vis_of rfl)) (se_var (i := 6) rfl (vis_of rfl)))) (sa_nil)))) (sb_one (ss_ret (se_tup (sa_cons (se_tup (sa_star (se_ix (se_var (i := 4) rfl (vis_of rfl)) (se_int)) (sa_cons (se_fn h_entered (by decide) tk hr rfl (sa_cons (se_var (i := 0) rfl (vis_of rfl)) (sa_cons (se_ix (se_var (i := 2) rfl (vis_of rfl)) (se_int)) (sa_cons (se_var (i := 5) rfl (vis_of rfl)) (sa_cons (se_ix (se_var (i := 2) rfl (vis_of rfl)) (se_int)) (sa_nil)))))) (sa_nil)))) (sa_cons (se_ix (se_var (i := 1) rfl (vis_of rfl)) (se_int)) (sa_nil))))))))
/-! left -/
abbrev s_left : Stmt := top 19
theorem sc_left : FnScope ["stand", "place", "number", "at", "registers", "into", "behind", "told", "given"] ["stand", "place"] (defScope s_left) := ⟨rfl, rfl, rfl, by decide +kernel, rfl, by decide +kernel, by decide +kernel⟩
def b_left : En → Sto → O := sSeq (sAs (e2 ixU (e2 ixU (eV 0) (eC (.int 0))) (e1 negU (eC (.int 1)))) (.tp [2, 3, 4, 5])) (sSeq (sIf (eB (e2 (eqU' false) (eB1 lenB (aCons (e2 ixU (eV 0) (eC (.int 0))) (aNil))) (eC (.int 1)))) (sRt (eTup (aCons (eTup (aCons (eTup (aCons (e1 negU (eC (.int 1))) (aCons (eV 1) (aCons (eV 4) (aCons (eC .none) (aNil)))))) (aNil))) (aCons (e2 ixU (eV 0) (eC (.int 1))) (aNil))))) (sNx)) (sSeq (sAs (eTup (aCons (eSl (e2 ixU (eV 0) (eC (.int 0))) (oNo) (oInt (e1 negU (eC (.int 1))))) (aCons (e2 ixU (eV 0) (eC (.int 1))) (aNil)))) (.nm 6)) (sSeq (sIf (eB (e2 (isU false) (eV 5) (eC .none))) (sRt (eV 6)) (sNx)) (sSeq (sAs (e2 ixU (e2 ixU (e2 ixU (eV 6) (eC (.int 0))) (e1 negU (eC (.int 1)))) (eC (.int 2))) (.nm 7)) (sSeq (sAs (eIf (eB (e2 (isU false) (eV 1) (eC .none))) (e2 ixU (eV 4) (eC (.int 0))) (eV 1)) (.nm 8)) (sRt (eCall C_with_frame (aCons (eV 6) (aCons (e2 ixU (e2 ixU (e2 ixU (eV 6) (eC (.int 0))) (e1 negU (eC (.int 1)))) (eC (.int 1))) (aCons (eTup (aStar (eSl (eV 7) (oNo) (oInt (eV 5))) (aCons (eV 8) (aStar (eSl (eV 7) (oInt (e2 addU (eV 5) (eC (.int 1)))) (oNo)) (aNil))))) (aNil)))) 3)))))))
def C_left : List U → Sto → R U := runC 9 b_left
theorem fn_left (F : FnP K "left" s_left f fd) (gm : mg "left" = some (.ref f)) (fr : Fr mg) (h_with_frame : FnB P w K mg base 1 "with_frame" 3 C_with_frame) : FnB P w K mg base 2 "left" 2 C_left :=
  fn_mk F sc_left gm (F.bindsN fun _ _ _ _ _ _ us hl => match us, hl with | [_, _], _ => rfl) fun cdv A outer s H E hr tk => sb_cons (ss_asg (g := .tp [2, 3, 4, 5]) (se_ix (se_ix (se_var (i := 0) rfl (vis_of rfl)) (se_int)) (se_neg (se_int))) (pg_tup rfl (pgs_cons (pg_name sc_left.nd (i := 2) rfl (loc_of rfl)) (pgs_cons (pg_name sc_left.nd (i := 3) rfl (loc_of rfl)) (pgs_cons (pg_name sc_left.nd (i := 4) rfl (loc_of rfl)) (pgs_cons (pg_name sc_left.nd (i := 5) rfl (loc_of rfl)) (pgs_nil))))))) (sb_cons (ss_if (st_cmp (op_eqD hr.units) (eqU_ok (K := K)) (se_callB call_lenA lenB_ok rfl fr.len boot_len (sa_cons (se_ix (se_var (i := 0) rfl (vis_of rfl)) (se_int)) (sa_nil))) (se_int)) (sb_one (ss_ret (se_tup (sa_cons (se_tup (sa_cons (se_tup (sa_cons (se_neg (se_int)) (sa_cons (se_var (i := 1) rfl (vis_of rfl)) (sa_cons (se_var (i := 4) rfl (vis_of rfl)) (sa_cons (se_non) (sa_nil)))))) (sa_nil))) (sa_cons (se_ix (se_var (i := 0) rfl (vis_of rfl)) (se_int)) (sa_nil)))))) (sb_nil)) (sb_cons (ss_set sc_left.nd (i := 6) rfl (loc_of rfl) (se_tup (sa_cons (se_sl (se_ix (se_var (i := 0) rfl (vis_of rfl)) (se_int)) so_none (so_some (se_neg (se_int)))) (sa_cons (se_ix (se_var (i := 0) rfl (vis_of rfl)) (se_int)) (sa_nil))))) (sb_cons (ss_if (st_cmp op_isN (isU_ok (K := K)) (se_var (i := 5) rfl (vis_of rfl)) (se_non)) (sb_one (ss_ret (se_var (i := 6) rfl (vis_of rfl)))) (sb_nil)) (sb_cons (ss_set sc_left.nd (i := 7) rfl (loc_of rfl) (se_ix (se_ix (se_ix (se_var (i := 6) rfl (vis_of rfl)) (se_int)) (se_neg (se_int))) (se_int))) (sb_cons (ss_set sc_left.nd (i := 8) rfl (loc_of rfl) (se_if (st_cmp op_isN (isU_ok (K := K)) (se_var (i := 1) rfl (vis_of rfl)) (se_non)) (se_ix (se_var (i := 4) rfl (vis_of rfl)) (se_int)) (se_var (i := 1) rfl (vis_of rfl)))) (sb_one (ss_ret (se_fn h_with_frame (by decide) tk hr rfl (sa_cons (se_var (i := 6) rfl (vis_of rfl)) (sa_cons (se_ix (se_ix (se_ix (se_var (i := 6) rfl (vis_of rfl)) (se_int)) (se_neg (se_int))) (se_int)) (sa_cons (se_tup (sa_star (se_sl (se_var (i := 7) rfl (vis_of rfl)) so_none (so_some (se_var (i := 5) rfl (vis_of rfl)))) (sa_cons (se_var (i := 8) rfl (vis_of rfl)) (sa_star (se_sl (se_var (i := 7) rfl (vis_of rfl)) (so_some (se_op op_addA (addU_ok (K := K)) (se_var (i := 5) rfl (vis_of rfl)) (se_int))) so_none) (sa_nil))))) (sa_nil))))))))))))
/-! step -/
abbrev s_step : Stmt := top 20
theorem sc_step : FnScope ["functions", "stand", "one", "registers", "word", "later"] ["functions", "stand"] (defScope s_step) := ⟨rfl, rfl, rfl, by decide +kernel, rfl, by decide +kernel, by decide +kernel⟩
def b_step : En → Sto → O := sSeq (sPar 2 3 (aCons (eCall C_instruction_at (aCons (eV 0) (aCons (eV 1) (aNil))) 2) (aCons (e2 ixU (e2 ixU (e2 ixU (eV 1) (eC (.int 0))) (e1 negU (eC (.int 1)))) (eC (.int 2))) (aNil)))) (sSeq (sAs (e2 ixU (eV 2) (eC (.int 0))) (.nm 4)) (sSeq (sIf (eB (eKin [("move", 0), ("step", 1), ("back", -1)] (eV 4))) (sRt (eCall C_with_register (aCons (eV 1) (aCons (e2 ixU (eV 2) (eC (.int 1))) (aCons (e2 addU (e2 ixU (eV 3) (e2 ixU (eV 2) (eC (.int 2)))) (eKix [("move", 0), ("step", 1), ("back", -1)] (eV 4))) (aNil)))) 3)) (sNx)) (sSeq (sIf (eB (e2 (eqU' false) (eV 4) (eC (.str "swap")))) (sSeq (sAs (eCall C_with_register (aCons (eV 1) (aCons (eC .none) (aCons (eC .none) (aNil)))) 3) (.nm 5)) (sRt (eTup (aCons (e2 ixU (eV 5) (eC (.int 0))) (aCons (eCall C_swapped (aCons (e2 ixU (eV 1) (eC (.int 1))) (aCons (e2 ixU (eV 3) (e2 ixU (eV 2) (eC (.int 1)))) (aCons (e2 ixU (eV 3) (e2 ixU (eV 2) (eC (.int 2)))) (aNil)))) 3) (aNil)))))) (sNx)) (sSeq (sIf (eB (e2 (eqU' false) (eV 4) (eC (.str "call")))) (sRt (eCall C_called (aCons (eV 0) (aCons (eV 1) (aCons (eV 2) (aNil)))) 3)) (sNx)) (sSeq (sIf (eB (e2 (eqU' false) (eV 4) (eC (.str "ret")))) (sRt (eCall C_left (aCons (eV 1) (aCons (eIf (eB (e2 (isU false) (e2 ixU (eV 2) (eC (.int 1))) (eC .none))) (eC .none) (e2 ixU (eV 3) (e2 ixU (eV 2) (eC (.int 1))))) (aNil))) 2)) (sNx)) (sSeq (sIf (eB (e2 (eqU' false) (eV 4) (eC (.str "jump")))) (sRt (eCall C_with_frame (aCons (eV 1) (aCons (e2 ixU (eV 2) (eC (.int 1))) (aCons (eV 3) (aNil)))) 3)) (sNx)) (sSeq (sIf (eB (eCall C_is_test_so (aCons (eV 2) (aCons (eV 3) (aCons (e2 ixU (eV 1) (eC (.int 1))) (aNil)))) 3)) (sRt (eCall C_with_frame (aCons (eV 1) (aCons (e2 ixU (eV 2) (eC (.int 3))) (aCons (eV 3) (aNil)))) 3)) (sNx)) (sRt (eCall C_with_register (aCons (eV 1) (aCons (eC .none) (aCons (eC .none) (aNil)))) 3)))))))))
def C_step : List U → Sto → R U := runC 6 b_step
theorem fn_step (F : FnP K "step" s_step f fd) (gm : mg "step" = some (.ref f)) (h_instruction_at : FnB P w K mg base 2 "instruction_at" 2 C_instruction_at) (h_with_register : FnB P w K mg base 2 "with_register" 3 C_with_register) (h_swapped : FnB P w K mg base 1 "swapped" 3 C_swapped) (h_called : FnB P w K mg base 3 "called" 3 C_called) (h_left : FnB P w K mg base 2 "left" 2 C_left) (h_with_frame : FnB P w K mg base 1 "with_frame" 3 C_with_frame) (h_is_test_so : FnB P w K mg base 2 "is_test_so" 3 C_is_test_so) (kd_STEPS : KDic K w mg "STEPS" [("move", 0), ("step", 1), ("back", -1)]) : FnB P w K mg base 4 "step" 2 C_step :=
  fn_mk F sc_step gm (F.bindsN fun _ _ _ _ _ _ us hl => match us, hl with | [_, _], _ => rfl) fun cdv A outer s H E hr tk => sb_cons (ss_par rfl sc_step.nd (i := 2) (j := 3) rfl rfl (by decide) rfl rfl (sa_cons (se_fn h_instruction_at (by decide) tk hr rfl (sa_cons (se_var (i := 0) rfl (vis_of rfl)) (sa_cons (se_var (i := 1) rfl (vis_of rfl)) (sa_nil)))) (sa_cons (se_ix (se_ix (se_ix (se_var (i := 1) rfl (vis_of rfl)) (se_int)) (se_neg (se_int))) (se_int)) (sa_nil))) rfl) (sb_cons (ss_set sc_step.nd (i := 4) rfl (loc_of rfl) (se_ix (se_var (i := 2) rfl (vis_of rfl)) (se_int))) (sb_cons (ss_if (st_kinB kd_STEPS rfl (se_var (i := 4) rfl (vis_of rfl))) (sb_one (ss_ret (se_fn h_with_register (by decide) tk hr rfl (sa_cons (se_var (i := 1) rfl (vis_of rfl)) (sa_cons (se_ix (se_var (i := 2) rfl (vis_of rfl)) (se_int)) (sa_cons (se_op op_addA (addU_ok (K := K)) (se_ix (se_var (i := 3) rfl (vis_of rfl)) (se_ix (se_var (i := 2) rfl (vis_of rfl)) (se_int))) (se_kixB kd_STEPS rfl (se_var (i := 4) rfl (vis_of rfl)))) (sa_nil))))))) (sb_nil)) (sb_cons (ss_if (st_cmp (op_eqD hr.units) (eqU_ok (K := K)) (se_var (i := 4) rfl (vis_of rfl)) (se_str)) (sb_cons (ss_set sc_step.nd (i := 5) rfl (loc_of rfl) (se_fn h_with_register (by decide) tk hr rfl (sa_cons (se_var (i := 1) rfl (vis_of rfl)) (sa_cons (se_non) (sa_cons (se_non) (sa_nil)))))) (sb_one (ss_ret (se_tup (sa_cons (se_ix (se_var (i := 5) rfl (vis_of rfl)) (se_int)) (sa_cons (se_fn h_swapped (by decide) tk hr rfl (sa_cons (se_ix (se_var (i := 1) rfl (vis_of rfl)) (se_int)) (sa_cons (se_ix (se_var (i := 3) rfl (vis_of rfl)) (se_ix (se_var (i := 2) rfl (vis_of rfl)) (se_int))) (sa_cons (se_ix (se_var (i := 3) rfl (vis_of rfl)) (se_ix (se_var (i := 2) rfl (vis_of rfl)) (se_int))) (sa_nil))))) (sa_nil))))))) (sb_nil)) (sb_cons (ss_if (st_cmp (op_eqD hr.units) (eqU_ok (K := K)) (se_var (i := 4) rfl (vis_of rfl)) (se_str)) (sb_one (ss_ret (se_fn h_called (by decide) tk hr rfl (sa_cons (se_var (i := 0) rfl (vis_of rfl)) (sa_cons (se_var (i := 1) rfl (vis_of rfl)) (sa_cons (se_var (i := 2) rfl (vis_of rfl)) (sa_nil))))))) (sb_nil)) (sb_cons (ss_if (st_cmp (op_eqD hr.units) (eqU_ok (K := K)) (se_var (i := 4) rfl (vis_of rfl)) (se_str)) (sb_one (ss_ret (se_fn h_left (by decide) tk hr rfl (sa_cons (se_var (i := 1) rfl (vis_of rfl)) (sa_cons (se_if (st_cmp op_isN (isU_ok (K := K)) (se_ix (se_var (i := 2) rfl (vis_of rfl)) (se_int)) (se_non)) (se_non) (se_ix (se_var (i := 3) rfl (vis_of rfl)) (se_ix (se_var (i := 2) rfl (vis_of rfl)) (se_int)))) (sa_nil)))))) (sb_nil)) (sb_cons (ss_if (st_cmp (op_eqD hr.units) (eqU_ok (K := K)) (se_var (i := 4) rfl (vis_of rfl)) (se_str)) (sb_one (ss_ret (se_fn h_with_frame (by decide) tk hr rfl (sa_cons (se_var (i := 1) rfl (vis_of rfl)) (sa_cons (se_ix (se_var (i := 2) rfl (vis_of rfl)) (se_int)) (sa_cons (se_var (i := 3) rfl (vis_of rfl)) (sa_nil))))))) (sb_nil)) (sb_cons (ss_if (st_val (se_fn h_is_test_so (by decide) tk hr rfl (sa_cons (se_var (i := 2) rfl (vis_of rfl)) (sa_cons (se_var (i := 3) rfl (vis_of rfl)) (sa_cons (se_ix (se_var (i := 1) rfl (vis_of rfl)) (se_int)) (sa_nil)))))) (sb_one (ss_ret (se_fn h_with_frame (by decide) tk hr rfl (sa_cons (se_var (i := 1) rfl (vis_of rfl)) (sa_cons (se_ix (se_var (i := 2) rfl (vis_of rfl)) (se_int)) (sa_cons (se_var (i := 3) rfl (vis_of rfl)) (sa_nil))))))) (sb_nil)) (sb_one (ss_ret (se_fn h_with_register (by decide) tk hr rfl (sa_cons (se_var (i := 1) rfl (vis_of rfl)) (sa_cons (se_non) (sa_cons (se_non) (sa_nil))))))))))))))
/-! is_within -/
abbrev s_is_within : Stmt := top 21
theorem sc_is_within : FnScope ["functions", "stand", "one", "registers", "first", "last", "r", "places", "place"] ["functions", "stand"] (defScope s_is_within) := ⟨rfl, rfl, rfl, by decide +kernel, rfl, by decide +kernel, by decide +kernel⟩
def b_is_within : En → Sto → O := sSeq (sTup 2 (aCons (eCall C_instruction_at (aCons (eV 0) (aCons (eV 1) (aNil))) 2) (aCons (e2 ixU (e2 ixU (e2 ixU (eV 1) (eC (.int 0))) (e1 negU (eC (.int 1)))) (eC (.int 2))) (aNil))) (gs1 (gN 2) (gs1 (gN 3) (gs0)))) (sSeq (sAs (eSl (eV 3) (oNo) (oInt (eC (.int 2)))) (.tp [4, 5])) (sSeq (sIf (eB (e2 (inU false) (e2 ixU (eV 2) (eC (.int 0))) (eC (.tuple [.str "swap", .str "atmost", .str "below"])))) (sRt (eB1 (boolsB fun ks => ks.all id) (aCons (eComp [6] (wT (eSl (eV 2) (oInt (eC (.int 1))) (oInt (eC (.int 3))))) (.nm 6) (cTrue) (e3c leU ltU (eV 4) (e2 ixU (eV 3) (eV 6)) (eV 5))) (aNil)))) (sNx)) (sSeq (sIf (eB (eKin [("move", 0), ("step", 1), ("back", -1)] (e2 ixU (eV 2) (eC (.int 0))))) (sRt (e3c leU leU (eV 4) (e2 addU (e2 ixU (eV 3) (e2 ixU (eV 2) (eC (.int 2)))) (eKix [("move", 0), ("step", 1), ("back", -1)] (e2 ixU (eV 2) (eC (.int 0))))) (eV 5))) (sNx)) (sSeq (sIf (eB (e2 (eqU' false) (e2 ixU (eV 2) (eC (.int 0))) (eC (.str "call")))) (sSeq (sAs (eComp [6] (wT (e2 ixU (eV 2) (eC (.int 2)))) (.nm 6) (cTrue) (e2 ixU (eV 3) (eV 6))) (.nm 7)) (sSeq (sIf (bOr (bNot (eB (e2 leU (eV 4) (e2 ixU (eV 7) (eC (.int 0)))))) (bNot (eB (e2 leU (e2 ixU (eV 7) (eC (.int 1))) (eV 5))))) (sRt (eC (.bool false))) (sNx)) (sRt (eB1 (boolsB fun ks => ks.all id) (aCons (eComp [8] (wL (eV 7)) (.nm 8) (cTrue) (e3c leU leU (e2 ixU (eV 7) (eC (.int 0))) (eV 8) (e2 ixU (eV 7) (eC (.int 1))))) (aNil)))))) (sNx)) (sRt (eC (.bool true)))))))
def C_is_within : List U → Sto → R U := runC 9 b_is_within
theorem fn_is_within (F : FnP K "is_within" s_is_within f fd) (gm : mg "is_within" = some (.ref f)) (fr : Fr mg) (h_instruction_at : FnB P w K mg base 2 "instruction_at" 2 C_instruction_at) (kt_CELLS : KTup K mg "CELLS" [.str "swap", .str "atmost", .str "below"]) (kd_STEPS : KDic K w mg "STEPS" [("move", 0), ("step", 1), ("back", -1)]) : FnB P w K mg base 3 "is_within" 2 C_is_within :=
  fn_mk F sc_is_within gm (F.bindsN fun _ _ _ _ _ _ us hl => match us, hl with | [_, _], _ => rfl) fun cdv A outer s H E hr tk => sb_cons (ss_tup rfl (sa_cons (se_fn h_instruction_at (by decide) tk hr rfl (sa_cons (se_var (i := 0) rfl (vis_of rfl)) (sa_cons (se_var (i := 1) rfl (vis_of rfl)) (sa_nil)))) (sa_cons (se_ix (se_ix (se_ix (se_var (i := 1) rfl (vis_of rfl)) (se_int)) (se_neg (se_int))) (se_int)) (sa_nil))) (sgs_cons (sg_name sc_is_within.nd (i := 2) rfl (loc_of rfl)) (sgs_cons (sg_name sc_is_within.nd (i := 3) rfl (loc_of rfl)) (sgs_nil)))) (sb_cons (ss_asg (g := .tp [4, 5]) (se_sl (se_var (i := 3) rfl (vis_of rfl)) so_none (so_some (se_int))) (pg_tup rfl (pgs_cons (pg_name sc_is_within.nd (i := 4) rfl (loc_of rfl)) (pgs_cons (pg_name sc_is_within.nd (i := 5) rfl (loc_of rfl)) (pgs_nil))))) (sb_cons (ss_if (st_cmp op_in_seq (inU_all (K := K) false) (se_ix (se_var (i := 2) rfl (vis_of rfl)) (se_int)) (se_ktupB kt_CELLS rfl)) (sb_one (ss_ret (se_callB (cr_all rfl) allB_ok rfl fr.all boot_all (sa_cons (se_comp rfl sc_is_within.nd (own := [("r", 6)]) (g := .nm 6) (si_tup (se_sl (se_var (i := 2) rfl (vis_of rfl)) (so_some (se_int)) (so_some (se_int)))) (blkOk_by (N := ["functions", "stand", "one", "registers", "first", "last", "r", "places", "place"]) (sc := defScope s_is_within) (by decide +kernel)) (fun _ _ _ _ _ => (pg_name sc_is_within.nd (i := 6) rfl (loc_of rfl))) (by decide) (fun _ _ _ _ _ => pts_true) (fun _ _ _ _ _ => se_chain op_le (leU_ok (K := K)) op_lt (ltU_ok (K := K)) (se_var (i := 4) rfl (vis_of rfl)) (se_ix (se_var (i := 3) rfl (vis_of rfl)) (se_var (i := 6) rfl (vis_of rfl))) (se_var (i := 5) rfl (vis_of rfl)))) (sa_nil))))) (sb_nil)) (sb_cons (ss_if (st_kinB kd_STEPS rfl (se_ix (se_var (i := 2) rfl (vis_of rfl)) (se_int))) (sb_one (ss_ret (se_chain op_le (leU_ok (K := K)) op_le (leU_ok (K := K)) (se_var (i := 4) rfl (vis_of rfl)) (se_op op_addA (addU_ok (K := K)) (se_ix (se_var (i := 3) rfl (vis_of rfl)) (se_ix (se_var (i := 2) rfl (vis_of rfl)) (se_int))) (se_kixB kd_STEPS rfl (se_ix (se_var (i := 2) rfl (vis_of rfl)) (se_int)))) (se_var (i := 5) rfl (vis_of rfl))))) (sb_nil)) (sb_cons (ss_if (st_cmp (op_eqD hr.units) (eqU_ok (K := K)) (se_ix (se_var (i := 2) rfl (vis_of rfl)) (se_int)) (se_str)) (sb_cons (ss_set sc_is_within.nd (i := 7) rfl (loc_of rfl) (se_comp rfl sc_is_within.nd (own := [("r", 6)]) (g := .nm 6) (si_tup (se_ix (se_var (i := 2) rfl (vis_of rfl)) (se_int))) (blkOk_by (N := ["functions", "stand", "one", "registers", "first", "last", "r", "places", "place"]) (sc := defScope s_is_within) (by decide +kernel)) (fun _ _ _ _ _ => (pg_name sc_is_within.nd (i := 6) rfl (loc_of rfl))) (by decide) (fun _ _ _ _ _ => pts_true) (fun _ _ _ _ _ => se_ix (se_var (i := 3) rfl (vis_of rfl)) (se_var (i := 6) rfl (vis_of rfl))))) (sb_cons (ss_if (st_of (sw_or (st_not (st_cmp op_le (leU_ok (K := K)) (se_var (i := 4) rfl (vis_of rfl)) (se_ix (se_var (i := 7) rfl (vis_of rfl)) (se_int)))) (sw_or1 (st_not (st_cmp op_le (leU_ok (K := K)) (se_ix (se_var (i := 7) rfl (vis_of rfl)) (se_int)) (se_var (i := 5) rfl (vis_of rfl))))))) (sb_one (ss_ret (se_bl))) (sb_nil)) (sb_one (ss_ret (se_callB (cr_all rfl) allB_ok rfl fr.all boot_all (sa_cons (se_comp rfl sc_is_within.nd (own := [("place", 8)]) (g := .nm 8) (si_list (se_var (i := 7) rfl (vis_of rfl))) (blkOk_by (N := ["functions", "stand", "one", "registers", "first", "last", "r", "places", "place"]) (sc := defScope s_is_within) (by decide +kernel)) (fun _ _ _ _ _ => (pg_name sc_is_within.nd (i := 8) rfl (loc_of rfl))) (by decide) (fun _ _ _ _ _ => pts_true) (fun _ _ _ _ _ => se_chain op_le (leU_ok (K := K)) op_le (leU_ok (K := K)) (se_ix (se_var (i := 7) rfl (vis_of rfl)) (se_int)) (se_var (i := 8) rfl (vis_of rfl)) (se_ix (se_var (i := 7) rfl (vis_of rfl)) (se_int)))) (sa_nil))))))) (sb_nil)) (sb_one (ss_ret (se_bl)))))))
/-! checked_step -/
abbrev s_checked_step : Stmt := top 22
theorem sc_checked_step : FnScope ["functions", "stand", "number", "at"] ["functions", "stand"] (defScope s_checked_step) := ⟨rfl, rfl, rfl, by decide +kernel, rfl, by decide +kernel, by decide +kernel⟩
def b_checked_step : En → Sto → O := sSeq (sIf (bNot (eB (eCall C_is_within (aCons (eV 0) (aCons (eV 1) (aNil))) 2))) (sSeq (sAs (eSl (e2 ixU (e2 ixU (eV 1) (eC (.int 0))) (e1 negU (eC (.int 1)))) (oNo) (oInt (eC (.int 2)))) (.tp [2, 3])) (sRzF "Trap" ["number", "at"] (aCons (eV 2) (aCons (eV 3) (aNil))))) (sNx)) (sRt (eCall C_step (aCons (eV 0) (aCons (eV 1) (aNil))) 2))
def C_checked_step : List U → Sto → R U := runC 4 b_checked_step
theorem fn_checked_step (F : FnP K "checked_step" s_checked_step f fd) (gm : mg "checked_step" = some (.ref f)) (h_is_within : FnB P w K mg base 3 "is_within" 2 C_is_within) (h_step : FnB P w K mg base 4 "step" 2 C_step) (x_Trap : ExcF P w K mg base 1 "Trap" ["number", "at"]) : FnB P w K mg base 5 "checked_step" 2 C_checked_step :=
  fn_mk F sc_checked_step gm (F.bindsN fun _ _ _ _ _ _ us hl => match us, hl with | [_, _], _ => rfl) fun cdv A outer s H E hr tk => sb_cons (ss_if (st_not (st_val (se_fn h_is_within (by decide) tk hr rfl (sa_cons (se_var (i := 0) rfl (vis_of rfl)) (sa_cons (se_var (i := 1) rfl (vis_of rfl)) (sa_nil)))))) (sb_cons (ss_asg (g := .tp [2, 3]) (se_sl (se_ix (se_ix (se_var (i := 1) rfl (vis_of rfl)) (se_int)) (se_neg (se_int))) so_none (so_some (se_int))) (pg_tup rfl (pgs_cons (pg_name sc_checked_step.nd (i := 2) rfl (loc_of rfl)) (pgs_cons (pg_name sc_checked_step.nd (i := 3) rfl (loc_of rfl)) (pgs_nil))))) (sb_one (raise_ofF x_Trap (by decide) rfl tk hr rfl (sa_cons (se_var (i := 2) rfl (vis_of rfl)) (sa_cons (se_var (i := 3) rfl (vis_of rfl)) (sa_nil)))))) (sb_nil)) (sb_one (ss_ret (se_fn h_step (by decide) tk hr rfl (sa_cons (se_var (i := 0) rfl (vis_of rfl)) (sa_cons (se_var (i := 1) rfl (vis_of rfl)) (sa_nil))))))
/-! run -/
abbrev s_run : Stmt := top 23
theorem sc_run : FnScope ["functions", "stand", "count", "_step"] ["functions", "stand", "count"] (defScope s_run) := ⟨rfl, rfl, rfl, by decide +kernel, rfl, by decide +kernel, by decide +kernel⟩
def b_run : En → Sto → O := sSeq (sFor (wR1 (aCons (eV 2) (aNil))) (.nm 3) (sSeq (sIf (eB (eCall C_is_ended (aCons (eV 1) (aNil)) 1)) (sBk) (sNx)) (sAs (eCall C_step (aCons (eV 0) (aCons (eV 1) (aNil))) 2) (.nm 1)))) (sRt (eV 1))
def C_run : List U → Sto → R U := runC 4 b_run
theorem fn_run (F : FnP K "run" s_run f fd) (gm : mg "run" = some (.ref f)) (fr : Fr mg) (h_is_ended : FnB P w K mg base 1 "is_ended" 1 C_is_ended) (h_step : FnB P w K mg base 4 "step" 2 C_step) : FnB P w K mg base 5 "run" 3 C_run :=
  fn_mk F sc_run gm (F.bindsN fun _ _ _ _ _ _ us hl => match us, hl with | [_, _, _], _ => rfl) fun cdv A outer s H E hr tk => sb_cons (ss_for (g := .nm 3) (passes_of rfl) rfl (si_range1 rfl fr.range (sa_cons (se_var (i := 2) rfl (vis_of rfl)) (sa_nil))) (pg_name sc_run.nd (i := 3) rfl (loc_of rfl)) (sb_cons (ss_if (st_val (se_fn h_is_ended (by decide) tk hr rfl (sa_cons (se_var (i := 1) rfl (vis_of rfl)) (sa_nil)))) (sb_one (ss_break)) (sb_nil)) (sb_one (ss_set sc_run.nd (i := 1) rfl (loc_of rfl) (se_fn h_step (by decide) tk hr rfl (sa_cons (se_var (i := 0) rfl (vis_of rfl)) (sa_cons (se_var (i := 1) rfl (vis_of rfl)) (sa_nil)))))))) (sb_one (ss_ret (se_var (i := 1) rfl (vis_of rfl))))
/-! checked_run -/
abbrev s_checked_run : Stmt := top 24
theorem sc_checked_run : FnScope ["functions", "stand", "count", "_step"] ["functions", "stand", "count"] (defScope s_checked_run) := ⟨rfl, rfl, rfl, by decide +kernel, rfl, by decide +kernel, by decide +kernel⟩
def b_checked_run : En → Sto → O := sSeq (sFor (wR1 (aCons (eV 2) (aNil))) (.nm 3) (sSeq (sIf (eB (eCall C_is_ended (aCons (eV 1) (aNil)) 1)) (sBk) (sNx)) (sAs (eCall C_checked_step (aCons (eV 0) (aCons (eV 1) (aNil))) 2) (.nm 1)))) (sRt (eV 1))
def C_checked_run : List U → Sto → R U := runC 4 b_checked_run
theorem fn_checked_run (F : FnP K "checked_run" s_checked_run f fd) (gm : mg "checked_run" = some (.ref f)) (fr : Fr mg) (h_is_ended : FnB P w K mg base 1 "is_ended" 1 C_is_ended) (h_checked_step : FnB P w K mg base 5 "checked_step" 2 C_checked_step) : FnB P w K mg base 6 "checked_run" 3 C_checked_run :=
  fn_mk F sc_checked_run gm (F.bindsN fun _ _ _ _ _ _ us hl => match us, hl with | [_, _, _], _ => rfl) fun cdv A outer s H E hr tk => sb_cons (ss_for (g := .nm 3) (passes_of rfl) rfl (si_range1 rfl fr.range (sa_cons (se_var (i := 2) rfl (vis_of rfl)) (sa_nil))) (pg_name sc_checked_run.nd (i := 3) rfl (loc_of rfl)) (sb_cons (ss_if (st_val (se_fn h_is_ended (by decide) tk hr rfl (sa_cons (se_var (i := 1) rfl (vis_of rfl)) (sa_nil)))) (sb_one (ss_break)) (sb_nil)) (sb_one (ss_set sc_checked_run.nd (i := 1) rfl (loc_of rfl) (se_fn h_checked_step (by decide) tk hr rfl (sa_cons (se_var (i := 0) rfl (vis_of rfl)) (sa_cons (se_var (i := 1) rfl (vis_of rfl)) (sa_nil)))))))) (sb_one (ss_ret (se_var (i := 1) rfl (vis_of rfl))))
/-! _law_bag -/
abbrev s__law_bag : Stmt := top 26
theorem sc__law_bag : FnScope ["script", "cell"] ["script"] (defScope s__law_bag) := ⟨rfl, rfl, rfl, by decide +kernel, rfl, by decide +kernel, by decide +kernel⟩
def b__law_bag : En → Sto → O := sRt (eLst (aCons (eC (.int 0)) (aCons (eC (.int 1234567891)) (aCons (eC (.int 0)) (aCons (eComp [1] (wL (eSl (eV 0) (oNo) (oInt (eC (.int 63))))) (.nm 1) (cTrue) (eB1 absB (aCons (eV 1) (aNil)))) (aNil))))))
def C__law_bag : List U → Sto → R U := runC 2 b__law_bag
theorem fn__law_bag (F : FnP K "_law_bag" s__law_bag f fd) (gm : mg "_law_bag" = some (.ref f)) (fr : Fr mg) : FnB P w K mg base 1 "_law_bag" 1 C__law_bag :=
  fn_mk F sc__law_bag gm (F.bindsN fun _ _ _ _ _ _ us hl => match us, hl with | [_], _ => rfl) fun cdv A outer s H E hr tk => sb_one (ss_ret (se_lst (sa_cons (se_int) (sa_cons (se_int) (sa_cons (se_int) (sa_cons (se_comp rfl sc__law_bag.nd (own := [("cell", 1)]) (g := .nm 1) (si_list (se_sl (se_var (i := 0) rfl (vis_of rfl)) so_none (so_some (se_int)))) (blkOk_by (N := ["script", "cell"]) (sc := defScope s__law_bag) (by decide +kernel)) (fun _ _ _ _ _ => (pg_name sc__law_bag.nd (i := 1) rfl (loc_of rfl))) (by decide) (fun _ _ _ _ _ => pts_true) (fun _ _ _ _ _ => se_callB call_abs absB_ok rfl fr.abs PyProof.Rows.boot_abs (sa_cons (se_var (i := 1) rfl (vis_of rfl)) (sa_nil)))) (sa_nil)))))))
/-! _law_take -/
abbrev s__law_take : Stmt := top 27
theorem sc__law_take : FnScope ["bag", "many", "cell", "stirred", "value", "first", "second"] ["bag", "many"] (defScope s__law_take) := ⟨rfl, rfl, rfl, by decide +kernel, rfl, by decide +kernel, by decide +kernel⟩
def b__law_take : En → Sto → O := sSeq (sIf (eB (e2 (eqU' false) (e2 ixU (eV 0) (eC (.int 0))) (eC (.int 0)))) (sSeq (sAs (e2 ixU (e2 addU (eSl (e2 ixU (eV 0) (eC (.int 3))) (oInt (e2 ixU (eV 0) (eC (.int 2)))) (oNo)) (eLst (aCons (eC (.int 0)) (aNil)))) (eC (.int 0))) (.nm 2)) (sSeq (sAug (fun i j => i + j) (eV 0) (eC (.int 2)) (eC (.int 1))) (sSeq (sIf (eB (e2 geU (eV 2) (e2 powU (eC (.int 10)) (eC (.int 18))))) (sAsG (eV 2) (gS (eV 0) (eC (.int 0)))) (sNx)) (sSeq (sAs (e2 addU (e2 addU (e2 mulU (e2 ixU (eV 0) (eC (.int 1))) (eC (.int 48271))) (e2 modU (eB1 intB (aCons (eV 2) (aNil))) (eC (.int 2147483647)))) (e2 mulU (eC (.int 7919)) (e2 ixU (eV 0) (eC (.int 2))))) (.nm 3)) (sAsG (e2 modU (eB1 intB (aCons (eV 3) (aNil))) (eC (.int 2147483647))) (gS (eV 0) (eC (.int 1)))))))) (sNx)) (sSeq (sIf (eB (e2 gtU (e2 ixU (eV 0) (eC (.int 0))) (eC (.int 0)))) (sSeq (sAs (e2 modU (eB1 intB (aCons (e2 ixU (eV 0) (eC (.int 0))) (aNil))) (eV 1)) (.nm 4)) (sSeq (sAsG (e2 fdivU (eB1 intB (aCons (e2 ixU (eV 0) (eC (.int 0))) (aNil))) (eV 1)) (gS (eV 0) (eC (.int 0)))) (sRt (eV 4)))) (sNx)) (sSeq (sAs (e2 modU (eB1 intB (aCons (e2 mulU (e2 addU (e2 ixU (eV 0) (eC (.int 1))) (eC (.int 1))) (eC (.int 39373))) (aNil))) (eC (.int 1000000007))) (.nm 5)) (sSeq (sAs (e2 modU (eB1 intB (aCons (e2 mulU (e2 modU (eB1 intB (aCons (e2 mulU (eV 5) (eV 5)) (aNil))) (eC (.int 998244353))) (eC (.int 30011))) (aNil))) (eC (.int 998244353))) (.nm 6)) (sRt (e2 modU (eB1 intB (aCons (e2 fdivU (eV 6) (eC (.int 7))) (aNil))) (eV 1))))))
def C__law_take : List U → Sto → R U := runC 7 b__law_take
theorem fn__law_take (F : FnP K "_law_take" s__law_take f fd) (gm : mg "_law_take" = some (.ref f)) (fr : Fr mg) : FnB P w K mg base 1 "_law_take" 2 C__law_take :=
  fn_mk F sc__law_take gm (F.bindsN fun _ _ _ _ _ _ us hl => match us, hl with | [_, _], _ => rfl) fun cdv A outer s H E hr tk => sb_cons (ss_if (st_cmp (op_eqD hr.units) (eqU_ok (K := K)) (se_ix (se_var (i := 0) rfl (vis_of rfl)) (se_int)) (se_int)) (sb_cons (ss_set sc__law_take.nd (i := 2) rfl (loc_of rfl) (se_ix (se_op op_addA (addU_ok (K := K)) (se_sl (se_ix (se_var (i := 0) rfl (vis_of rfl)) (se_int)) (so_some (se_ix (se_var (i := 0) rfl (vis_of rfl)) (se_int))) so_none) (se_lst (sa_cons (se_int) (sa_nil)))) (se_int))) (sb_cons (ss_aug (se_var (i := 0) rfl (vis_of rfl)) (se_int) (se_int) ip_add) (sb_cons (ss_if (st_cmp op_ge (geU_ok (K := K)) (se_var (i := 2) rfl (vis_of rfl)) (se_op op_pow (powU_ok (K := K)) (se_int) (se_int))) (sb_one (ss_asG (se_var (i := 2) rfl (vis_of rfl)) (sg_sub (se_var (i := 0) rfl (vis_of rfl)) (se_int)))) (sb_nil)) (sb_cons (ss_set sc__law_take.nd (i := 3) rfl (loc_of rfl) (se_op op_addA (addU_ok (K := K)) (se_op op_addA (addU_ok (K := K)) (se_op op_mulA (mulU_ok (K := K)) (se_ix (se_var (i := 0) rfl (vis_of rfl)) (se_int)) (se_int)) (se_op op_modN (modU_ok (K := K)) (se_callTy call_int1 intB_ok rfl fr.int PyProof.Rows.boot_int (sa_cons (se_var (i := 2) rfl (vis_of rfl)) (sa_nil))) (se_int))) (se_op op_mulA (mulU_ok (K := K)) (se_int) (se_ix (se_var (i := 0) rfl (vis_of rfl)) (se_int))))) (sb_one (ss_asG (se_op op_modN (modU_ok (K := K)) (se_callTy call_int1 intB_ok rfl fr.int PyProof.Rows.boot_int (sa_cons (se_var (i := 3) rfl (vis_of rfl)) (sa_nil))) (se_int)) (sg_sub (se_var (i := 0) rfl (vis_of rfl)) (se_int)))))))) (sb_nil)) (sb_cons (ss_if (st_cmp op_gt (gtU_ok (K := K)) (se_ix (se_var (i := 0) rfl (vis_of rfl)) (se_int)) (se_int)) (sb_cons (ss_set sc__law_take.nd (i := 4) rfl (loc_of rfl) (se_op op_modN (modU_ok (K := K)) (se_callTy call_int1 intB_ok rfl fr.int PyProof.Rows.boot_int (sa_cons (se_ix (se_var (i := 0) rfl (vis_of rfl)) (se_int)) (sa_nil))) (se_var (i := 1) rfl (vis_of rfl)))) (sb_cons (ss_asG (se_op op_fdivN (fdivU_ok (K := K)) (se_callTy call_int1 intB_ok rfl fr.int PyProof.Rows.boot_int (sa_cons (se_ix (se_var (i := 0) rfl (vis_of rfl)) (se_int)) (sa_nil))) (se_var (i := 1) rfl (vis_of rfl))) (sg_sub (se_var (i := 0) rfl (vis_of rfl)) (se_int))) (sb_one (ss_ret (se_var (i := 4) rfl (vis_of rfl)))))) (sb_nil)) (sb_cons (ss_set sc__law_take.nd (i := 5) rfl (loc_of rfl) (se_op op_modN (modU_ok (K := K)) (se_callTy call_int1 intB_ok rfl fr.int PyProof.Rows.boot_int (sa_cons (se_op op_mulA (mulU_ok (K := K)) (se_op op_addA (addU_ok (K := K)) (se_ix (se_var (i := 0) rfl (vis_of rfl)) (se_int)) (se_int)) (se_int)) (sa_nil))) (se_int))) (sb_cons (ss_set sc__law_take.nd (i := 6) rfl (loc_of rfl) (se_op op_modN (modU_ok (K := K)) (se_callTy call_int1 intB_ok rfl fr.int PyProof.Rows.boot_int (sa_cons (se_op op_mulA (mulU_ok (K := K)) (se_op op_modN (modU_ok (K := K)) (se_callTy call_int1 intB_ok rfl fr.int PyProof.Rows.boot_int (sa_cons (se_op op_mulA (mulU_ok (K := K)) (se_var (i := 5) rfl (vis_of rfl)) (se_var (i := 5) rfl (vis_of rfl))) (sa_nil))) (se_int)) (se_int)) (sa_nil))) (se_int))) (sb_one (ss_ret (se_op op_modN (modU_ok (K := K)) (se_callTy call_int1 intB_ok rfl fr.int PyProof.Rows.boot_int (sa_cons (se_op op_fdivN (fdivU_ok (K := K)) (se_var (i := 6) rfl (vis_of rfl)) (se_int)) (sa_nil))) (se_var (i := 1) rfl (vis_of rfl))))))))
/-! _law_some -/
abbrev s__law_some : Stmt := top 28
theorem sc__law_some : FnScope ["bag", "things"] ["bag", "things"] (defScope s__law_some) := ⟨rfl, rfl, rfl, by decide +kernel, rfl, by decide +kernel, by decide +kernel⟩
def b__law_some : En → Sto → O := sRt (e2 ixU (eV 1) (eCall C__law_take (aCons (eV 0) (aCons (eB1 lenB (aCons (eV 1) (aNil))) (aNil))) 2))
def C__law_some : List U → Sto → R U := runC 2 b__law_some
theorem fn__law_some (F : FnP K "_law_some" s__law_some f fd) (gm : mg "_law_some" = some (.ref f)) (fr : Fr mg) (h__law_take : FnB P w K mg base 1 "_law_take" 2 C__law_take) : FnB P w K mg base 2 "_law_some" 2 C__law_some :=
  fn_mk F sc__law_some gm (F.bindsN fun _ _ _ _ _ _ us hl => match us, hl with | [_, _], _ => rfl) fun cdv A outer s H E hr tk => sb_one (ss_ret (se_ix (se_var (i := 1) rfl (vis_of rfl)) (se_fn h__law_take (by decide) tk hr rfl (sa_cons (se_var (i := 0) rfl (vis_of rfl)) (sa_cons (se_callB call_lenA lenB_ok rfl fr.len boot_len (sa_cons (se_var (i := 1) rfl (vis_of rfl)) (sa_nil))) (sa_nil))))))
/-! _law_drawn_row -/
abbrev s__law_drawn_row : Stmt := top 29
theorem sc__law_drawn_row : FnScope ["bag", "many", "k"] ["bag", "many"] (defScope s__law_drawn_row) := ⟨rfl, rfl, rfl, by decide +kernel, rfl, by decide +kernel, by decide +kernel⟩
def b__law_drawn_row : En → Sto → O := sRt (eB1 tupleB (aCons (eComp [2] (wR1 (aCons (eV 1) (aNil))) (.nm 2) (cTrue) (e2 subU (eCall C__law_take (aCons (eV 0) (aCons (e2 addU (eV 1) (eC (.int 1))) (aNil))) 2) (eC (.int 1)))) (aNil)))
def C__law_drawn_row : List U → Sto → R U := runC 3 b__law_drawn_row
theorem fn__law_drawn_row (F : FnP K "_law_drawn_row" s__law_drawn_row f fd) (gm : mg "_law_drawn_row" = some (.ref f)) (fr : Fr mg) (h__law_take : FnB P w K mg base 1 "_law_take" 2 C__law_take) : FnB P w K mg base 2 "_law_drawn_row" 2 C__law_drawn_row :=
  fn_mk F sc__law_drawn_row gm (F.bindsN fun _ _ _ _ _ _ us hl => match us, hl with | [_, _], _ => rfl) fun cdv A outer s H E hr tk => sb_one (ss_ret (se_callTy call_tuple_of tupleB_ok rfl fr.tuple PyProof.Rows.boot_tuple (sa_cons (se_comp rfl sc__law_drawn_row.nd (own := [("k", 2)]) (g := .nm 2) (si_range1 rfl fr.range (sa_cons (se_var (i := 1) rfl (vis_of rfl)) (sa_nil))) (blkOk_by (N := ["bag", "many", "k"]) (sc := defScope s__law_drawn_row) (by decide +kernel)) (fun _ _ _ _ _ => (pg_name sc__law_drawn_row.nd (i := 2) rfl (loc_of rfl))) (by decide) (fun _ _ _ _ _ => pts_true) (fun _ _ _ _ _ => se_op op_sub (subU_ok (K := K)) (se_fn h__law_take (by decide) takesW0 hr rfl (sa_cons (se_var (i := 0) rfl (vis_of rfl)) (sa_cons (se_op op_addA (addU_ok (K := K)) (se_var (i := 1) rfl (vis_of rfl)) (se_int)) (sa_nil)))) (se_int))) (sa_nil))))
/-! _law_instruction -/
abbrev s__law_instruction : Stmt := top 31
theorem sc__law_instruction : FnScope ["bag", "many", "size", "words", "word", "r", "q", "goal"] ["bag", "many", "size"] (defScope s__law_instruction) := ⟨rfl, rfl, rfl, by decide +kernel, rfl, by decide +kernel, by decide +kernel⟩
def b__law_instruction : En → Sto → O := sSeq (sAs (eLst (aCons (eC (.str "move")) (aCons (eC (.str "step")) (aCons (eC (.str "step")) (aCons (eC (.str "back")) (aCons (eC (.str "swap")) (aCons (eC (.str "swap")) (aCons (eC (.str "same")) (aCons (eC (.str "ahead")) (aCons (eC (.str "atmost")) (aCons (eC (.str "below")) (aCons (eC (.str "jump")) (aCons (eC (.str "call")) (aNil)))))))))))))) (.nm 3)) (sSeq (sAs (eCall C__law_some (aCons (eV 0) (aCons (eV 3) (aNil))) 2) (.nm 4)) (sSeq (sPar3 5 6 7 (aCons (eCall C__law_take (aCons (eV 0) (aCons (eV 1) (aNil))) 2) (aCons (eCall C__law_take (aCons (eV 0) (aCons (eV 1) (aNil))) 2) (aCons (eCall C__law_take (aCons (eV 0) (aCons (eV 2) (aNil))) 2) (aNil))))) (sSeq (sIf (eB (e2 (inU false) (eV 4) (eTup (aCons (eC (.str "move")) (aCons (eC (.str "step")) (aCons (eC (.str "back")) (aCons (eC (.str "swap")) (aNil)))))))) (sRt (eTup (aCons (eV 4) (aCons (eV 5) (aCons (eV 6) (aNil)))))) (sNx)) (sSeq (sIf (eB (e2 (eqU' false) (eV 4) (eC (.str "jump")))) (sRt (eTup (aCons (eV 4) (aCons (eV 7) (aNil))))) (sNx)) (sSeq (sIf (eB (e2 (eqU' false) (eV 4) (eC (.str "call")))) (sRt (eTup (aCons (eV 4) (aCons (eCall C__law_take (aCons (eV 0) (aCons (eC (.int 2)) (aNil))) 2) (aCons (eTup (aCons (eCall C__law_take (aCons (eV 0) (aCons (eV 1) (aNil))) 2) (aCons (eCall C__law_take (aCons (eV 0) (aCons (eV 1) (aNil))) 2) (aNil)))) (aCons (eCall C__law_some (aCons (eV 0) (aCons (eLst (aCons (eC .none) (aCons (eV 5) (aNil)))) (aNil))) 2) (aNil))))))) (sNx)) (sRt (eTup (aCons (eV 4) (aCons (eV 5) (aCons (eV 6) (aCons (eV 7) (aNil))))))))))))
def C__law_instruction : List U → Sto → R U := runC 8 b__law_instruction
theorem fn__law_instruction (F : FnP K "_law_instruction" s__law_instruction f fd) (gm : mg "_law_instruction" = some (.ref f)) (h__law_some : FnB P w K mg base 2 "_law_some" 2 C__law_some) (h__law_take : FnB P w K mg base 1 "_law_take" 2 C__law_take) : FnB P w K mg base 3 "_law_instruction" 3 C__law_instruction :=
  fn_mk F sc__law_instruction gm (F.bindsN fun _ _ _ _ _ _ us hl => match us, hl with | [_, _, _], _ => rfl) fun cdv A outer s H E hr tk => sb_cons (ss_set sc__law_instruction.nd (i := 3) rfl (loc_of rfl) (se_lst (sa_cons (se_str) (sa_cons (se_str) (sa_cons (se_str) (sa_cons (se_str) (sa_cons (se_str) (sa_cons (se_str) (sa_cons (se_str) (sa_cons (se_str) (sa_cons (se_str) (sa_cons (se_str) (sa_cons (se_str) (sa_cons (se_str) (sa_nil))))))))))))))) (sb_cons (ss_set sc__law_instruction.nd (i := 4) rfl (loc_of rfl) (se_fn h__law_some (by decide) tk hr rfl (sa_cons (se_var (i := 0) rfl (vis_of rfl)) (sa_cons (se_var (i := 3) rfl (vis_of rfl)) (sa_nil))))) (sb_cons (ss_par3 rfl sc__law_instruction.nd (i := 5) (j := 6) (l := 7) rfl rfl rfl (by decide) (by decide) (by decide) rfl rfl rfl (sa_cons (se_fn h__law_take (by decide) tk hr rfl (sa_cons (se_var (i := 0) rfl (vis_of rfl)) (sa_cons (se_var (i := 1) rfl (vis_of rfl)) (sa_nil)))) (sa_cons (se_fn h__law_take (by decide) tk hr rfl (sa_cons (se_var (i := 0) rfl (vis_of rfl)) (sa_cons (se_var (i := 1) rfl (vis_of rfl)) (sa_nil)))) (sa_cons (se_fn h__law_take (by decide) tk hr rfl (sa_cons (se_var (i := 0) rfl (vis_of rfl)) (sa_cons (se_var (i := 2) rfl (vis_of rfl)) (sa_nil)))) (sa_nil)))) rfl) (sb_cons (ss_if (st_cmp op_in_seq (inU_all (K := K) false) (se_var (i := 4) rfl (vis_of rfl)) (se_tup (sa_cons (se_str) (sa_cons (se_str) (sa_cons (se_str) (sa_cons (se_str) (sa_nil))))))) (sb_one (ss_ret (se_tup (sa_cons (se_var (i := 4) rfl (vis_of rfl)) (sa_cons (se_var (i := 5) rfl (vis_of rfl)) (sa_cons (se_var (i := 6) rfl (vis_of rfl)) (sa_nil))))))) (sb_nil)) (sb_cons (ss_if (st_cmp (op_eqD hr.units) (eqU_ok (K := K)) (se_var (i := 4) rfl (vis_of rfl)) (se_str)) (sb_one (ss_ret (se_tup (sa_cons (se_var (i := 4) rfl (vis_of rfl)) (sa_cons (se_var (i := 7) rfl (vis_of rfl)) (sa_nil)))))) (sb_nil)) (sb_cons (ss_if (st_cmp (op_eqD hr.units) (eqU_ok (K := K)) (se_var (i := 4) rfl (vis_of rfl)) (se_str)) (sb_one (ss_ret (se_tup (sa_cons (se_var (i := 4) rfl (vis_of rfl)) (sa_cons (se_fn h__law_take (by decide) tk hr rfl (sa_cons (se_var (i := 0) rfl (vis_of rfl)) (sa_cons (se_int) (sa_nil)))) (sa_cons (se_tup (sa_cons (se_fn h__law_take (by decide) tk hr rfl (sa_cons (se_var (i := 0) rfl (vis_of rfl)) (sa_cons (se_var (i := 1) rfl (vis_of rfl)) (sa_nil)))) (sa_cons (se_fn h__law_take (by decide) tk hr rfl (sa_cons (se_var (i := 0) rfl (vis_of rfl)) (sa_cons (se_var (i := 1) rfl (vis_of rfl)) (sa_nil)))) (sa_nil)))) (sa_cons (se_fn h__law_some (by decide) tk hr rfl (sa_cons (se_var (i := 0) rfl (vis_of rfl)) (sa_cons (se_lst (sa_cons (se_non) (sa_cons (se_var (i := 5) rfl (vis_of rfl)) (sa_nil)))) (sa_nil)))) (sa_nil)))))))) (sb_nil)) (sb_one (ss_ret (se_tup (sa_cons (se_var (i := 4) rfl (vis_of rfl)) (sa_cons (se_var (i := 5) rfl (vis_of rfl)) (sa_cons (se_var (i := 6) rfl (vis_of rfl)) (sa_cons (se_var (i := 7) rfl (vis_of rfl)) (sa_nil)))))))))))))
/-! _law_code -/
abbrev s__law_code : Stmt := top 32
theorem sc__law_code : FnScope ["bag", "rows", "k", "many", "size", "code", "at"] ["bag"] (defScope s__law_code) := ⟨rfl, rfl, rfl, by decide +kernel, rfl, by decide +kernel, by decide +kernel⟩
def b__law_code : En → Sto → O := sSeq (sAs (eLst (aNil)) (.nm 1)) (sSeq (sFor (wR1 (aCons (eC (.int 2)) (aNil))) (.nm 2) (sSeq (sTup 2 (aCons (e2 addU (eC (.int 3)) (eCall C__law_take (aCons (eV 0) (aCons (eC (.int 2)) (aNil))) 2)) (aCons (e2 addU (eC (.int 4)) (eCall C__law_take (aCons (eV 0) (aCons (eC (.int 5)) (aNil))) 2)) (aNil))) (gs1 (gN 3) (gs1 (gN 4) (gs0)))) (sSeq (sAs (eComp [6] (wR1 (aCons (e2 subU (eV 4) (eC (.int 1))) (aNil))) (.nm 6) (cTrue) (eCall C__law_instruction (aCons (eV 0) (aCons (eV 3) (aCons (eV 4) (aNil)))) 3)) (.nm 5)) (sSeq (sEx (eM isL appU (eV 5) (aCons (eTup (aCons (eC (.str "ret")) (aCons (eCall C__law_some (aCons (eV 0) (aCons (eLst (aCons (eC .none) (aCons (eC (.int 0)) (aCons (e2 subU (eV 3) (eC (.int 1))) (aNil))))) (aNil))) 2) (aNil)))) (aNil)))) (sEx (eM isL appU (eV 1) (aCons (eTup (aCons (eC (.int 2)) (aCons (eV 3) (aCons (eB1 tupleB (aCons (eV 5) (aNil))) (aNil))))) (aNil)))))))) (sRt (eB1 tupleB (aCons (eV 1) (aNil)))))
def C__law_code : List U → Sto → R U := runC 7 b__law_code
theorem fn__law_code (F : FnP K "_law_code" s__law_code f fd) (gm : mg "_law_code" = some (.ref f)) (fr : Fr mg) (h__law_take : FnB P w K mg base 1 "_law_take" 2 C__law_take) (h__law_instruction : FnB P w K mg base 3 "_law_instruction" 3 C__law_instruction) (h__law_some : FnB P w K mg base 2 "_law_some" 2 C__law_some) : FnB P w K mg base 4 "_law_code" 1 C__law_code :=
  fn_mk F sc__law_code gm (F.bindsN fun _ _ _ _ _ _ us hl => match us, hl with | [_], _ => rfl) fun cdv A outer s H E hr tk => sb_cons (ss_set sc__law_code.nd (i := 1) rfl (loc_of rfl) (se_lst (sa_nil))) (sb_cons (ss_for (g := .nm 2) (passes_of rfl) rfl (si_range1 rfl fr.range (sa_cons (se_int) (sa_nil))) (pg_name sc__law_code.nd (i := 2) rfl (loc_of rfl)) (sb_cons (ss_tup rfl (sa_cons (se_op op_addA (addU_ok (K := K)) (se_int) (se_fn h__law_take (by decide) tk hr rfl (sa_cons (se_var (i := 0) rfl (vis_of rfl)) (sa_cons (se_int) (sa_nil))))) (sa_cons (se_op op_addA (addU_ok (K := K)) (se_int) (se_fn h__law_take (by decide) tk hr rfl (sa_cons (se_var (i := 0) rfl (vis_of rfl)) (sa_cons (se_int) (sa_nil))))) (sa_nil))) (sgs_cons (sg_name sc__law_code.nd (i := 3) rfl (loc_of rfl)) (sgs_cons (sg_name sc__law_code.nd (i := 4) rfl (loc_of rfl)) (sgs_nil)))) (sb_cons (ss_comp rfl sc__law_code.nd (i := 5) rfl rfl rfl rfl rfl (own := [("at", 6)]) (g := .nm 6) (si_range1 rfl fr.range (sa_cons (se_op op_sub (subU_ok (K := K)) (se_var (i := 4) rfl (vis_of rfl)) (se_int)) (sa_nil))) (blkOk_by (N := ["bag", "rows", "k", "many", "size", "code", "at"]) (sc := defScope s__law_code) (by decide +kernel)) (fun _ _ _ _ _ => (pg_name sc__law_code.nd (i := 6) rfl (loc_of rfl))) (by decide) (fun _ _ _ _ _ => pts_true) (fun _ _ _ _ _ => se_fn h__law_instruction (by decide) takesW0 hr rfl (sa_cons (se_var (i := 0) rfl (vis_of rfl)) (sa_cons (se_var (i := 3) rfl (vis_of rfl)) (sa_cons (se_var (i := 4) rfl (vis_of rfl)) (sa_nil)))))) (sb_cons (ss_expr (se_bm PySem.F.plainAttrs_list PySem.F.slot_list_append PySem.F.type_list_append mt_append append_ok (se_var (i := 5) rfl (vis_of rfl)) (sa_cons (se_tup (sa_cons (se_str) (sa_cons (se_fn h__law_some (by decide) tk hr rfl (sa_cons (se_var (i := 0) rfl (vis_of rfl)) (sa_cons (se_lst (sa_cons (se_non) (sa_cons (se_int) (sa_cons (se_op op_sub (subU_ok (K := K)) (se_var (i := 3) rfl (vis_of rfl)) (se_int)) (sa_nil))))) (sa_nil)))) (sa_nil)))) (sa_nil)))) (sb_one (ss_expr (se_bm PySem.F.plainAttrs_list PySem.F.slot_list_append PySem.F.type_list_append mt_append append_ok (se_var (i := 1) rfl (vis_of rfl)) (sa_cons (se_tup (sa_cons (se_int) (sa_cons (se_var (i := 3) rfl (vis_of rfl)) (sa_cons (se_callTy call_tuple_of tupleB_ok rfl fr.tuple PyProof.Rows.boot_tuple (sa_cons (se_var (i := 5) rfl (vis_of rfl)) (sa_nil))) (sa_nil))))) (sa_nil))))))))) (sb_one (ss_ret (se_callTy call_tuple_of tupleB_ok rfl fr.tuple PyProof.Rows.boot_tuple (sa_cons (se_var (i := 1) rfl (vis_of rfl)) (sa_nil))))))
/-! _law_word -/
abbrev s__law_word : Stmt := top 33
theorem sc__law_word : FnScope ["row", "place"] ["row", "place"] (defScope s__law_word) := ⟨rfl, rfl, rfl, by decide +kernel, rfl, by decide +kernel, by decide +kernel⟩
def b__law_word : En → Sto → O := sRt (eIf (eB (e3c leU ltU (eC (.int 0)) (eV 1) (eB1 lenB (aCons (eV 0) (aNil))))) (e2 ixU (eV 0) (eV 1)) (eC (.int 0)))
def C__law_word : List U → Sto → R U := runC 2 b__law_word
theorem fn__law_word (F : FnP K "_law_word" s__law_word f fd) (gm : mg "_law_word" = some (.ref f)) (fr : Fr mg) : FnB P w K mg base 1 "_law_word" 2 C__law_word :=
  fn_mk F sc__law_word gm (F.bindsN fun _ _ _ _ _ _ us hl => match us, hl with | [_, _], _ => rfl) fun cdv A outer s H E hr tk => sb_one (ss_ret (se_if (st_chain op_le (leU_ok (K := K)) op_lt (ltU_ok (K := K)) (se_int) (se_var (i := 1) rfl (vis_of rfl)) (se_callB call_lenA lenB_ok rfl fr.len boot_len (sa_cons (se_var (i := 0) rfl (vis_of rfl)) (sa_nil)))) (se_ix (se_var (i := 0) rfl (vis_of rfl)) (se_var (i := 1) rfl (vis_of rfl))) (se_int)))
/-! _law_entered -/
abbrev s__law_entered : Stmt := top 34
theorem sc__law_entered : FnScope ["functions", "number", "places", "into"] ["functions", "number", "places", "into"] (defScope s__law_entered) := ⟨rfl, rfl, rfl, by decide +kernel, rfl, by decide +kernel, by decide +kernel⟩
def b__law_entered : En → Sto → O := sRt (eLst (aCons (eV 1) (aCons (eC (.int 0)) (aCons (e2 addU (eB1 listB (aCons (eV 2) (aNil))) (e2 mulU (eLst (aCons (eC (.int 0)) (aNil))) (e2 subU (e2 ixU (e2 ixU (eV 0) (eV 1)) (eC (.int 1))) (eB1 lenB (aCons (eV 2) (aNil)))))) (aCons (eV 3) (aNil))))))
def C__law_entered : List U → Sto → R U := runC 4 b__law_entered
theorem fn__law_entered (F : FnP K "_law_entered" s__law_entered f fd) (gm : mg "_law_entered" = some (.ref f)) (fr : Fr mg) : FnB P w K mg base 1 "_law_entered" 4 C__law_entered :=
  fn_mk F sc__law_entered gm (F.bindsN fun _ _ _ _ _ _ us hl => match us, hl with | [_, _, _, _], _ => rfl) fun cdv A outer s H E hr tk => sb_one (ss_ret (se_lst (sa_cons (se_var (i := 1) rfl (vis_of rfl)) (sa_cons (se_int) (sa_cons (se_op op_addA (addU_ok (K := K)) (se_callTy call_list_of listB_ok rfl fr.list PyProof.Rows.boot_list (sa_cons (se_var (i := 2) rfl (vis_of rfl)) (sa_nil))) (se_op op_mulA (mulU_ok (K := K)) (se_lst (sa_cons (se_int) (sa_nil))) (se_op op_sub (subU_ok (K := K)) (se_ix (se_ix (se_var (i := 0) rfl (vis_of rfl)) (se_var (i := 1) rfl (vis_of rfl))) (se_int)) (se_callB call_lenA lenB_ok rfl fr.len boot_len (sa_cons (se_var (i := 2) rfl (vis_of rfl)) (sa_nil)))))) (sa_cons (se_var (i := 3) rfl (vis_of rfl)) (sa_nil)))))))
/-! _law_do -/
abbrev s__law_do : Stmt := top 35
theorem sc__law_do : FnScope ["functions", "frames", "row", "frame", "one", "told", "word", "place", "r", "x", "y", "so"] ["functions", "frames", "row"] (defScope s__law_do) := ⟨rfl, rfl, rfl, by decide +kernel, rfl, by decide +kernel, by decide +kernel⟩
def b__law_do : En → Sto → O := sSeq (sAs (e2 ixU (eV 1) (e1 negU (eC (.int 1)))) (.nm 3)) (sSeq (sTup 2 (aCons (e2 ixU (e2 ixU (e2 ixU (eV 0) (e2 ixU (eV 3) (eC (.int 0)))) (eC (.int 2))) (e2 ixU (eV 3) (eC (.int 1)))) (aCons (e2 ixU (eV 3) (eC (.int 2))) (aNil))) (gs1 (gN 4) (gs1 (gN 5) (gs0)))) (sSeq (sAs (e2 ixU (eV 4) (eC (.int 0))) (.nm 6)) (sSeq (sIf (eB (e2 (eqU' false) (eV 6) (eC (.str "ret")))) (sSeq (sAs (eIf (eB (e2 (isU false) (e2 ixU (eV 4) (eC (.int 1))) (eC .none))) (eC .none) (e2 ixU (eV 5) (e2 ixU (eV 4) (eC (.int 1))))) (.nm 7)) (sSeq (sEx (eM0 isL popU (eV 1))) (sSeq (sIf (eB (e2 (eqU' false) (eV 1) (eLst (aNil)))) (sSeq (sEx (eM isL appU (eV 1) (aCons (eLst (aCons (e1 negU (eC (.int 1))) (aCons (eV 7) (aCons (eV 5) (aCons (eC .none) (aNil)))))) (aNil)))) (sRt (eC (.bool true)))) (sNx)) (sSeq (sIf (eB (e2 (isU true) (e2 ixU (eV 3) (eC (.int 3))) (eC .none))) (sAsG (eIf (eB (e2 (isU false) (eV 7) (eC .none))) (e2 ixU (eV 5) (eC (.int 0))) (eV 7)) (gS (e2 ixU (e2 ixU (eV 1) (e1 negU (eC (.int 1)))) (eC (.int 2))) (e2 ixU (eV 3) (eC (.int 3))))) (sNx)) (sRt (eC (.bool false))))))) (sNx)) (sSeq (sAug (fun i j => i + j) (eV 3) (eC (.int 1)) (eC (.int 1))) (sSeq (sIf (eB (e2 (eqU' false) (eV 6) (eC (.str "call")))) (sEx (eM isL appU (eV 1) (aCons (eCall C__law_entered (aCons (eV 0) (aCons (e2 ixU (eV 4) (eC (.int 1))) (aCons (eComp [8] (wT (e2 ixU (eV 4) (eC (.int 2)))) (.nm 8) (cTrue) (e2 ixU (eV 5) (eV 8))) (aCons (e2 ixU (eV 4) (eC (.int 3))) (aNil))))) 4) (aNil)))) (sIf (eB (e2 (eqU' false) (eV 6) (eC (.str "jump")))) (sAsG (e2 ixU (eV 4) (eC (.int 1))) (gS (eV 3) (eC (.int 1)))) (sIf (eB (e2 (inU false) (eV 6) (eTup (aCons (eC (.str "move")) (aCons (eC (.str "step")) (aCons (eC (.str "back")) (aNil))))))) (sAsG (e2 addU (e2 ixU (eV 5) (e2 ixU (eV 4) (eC (.int 2)))) (eDix [("move", 0), ("step", 1), ("back", (-1))] (eV 6))) (gS (eV 5) (e2 ixU (eV 4) (eC (.int 1))))) (sIf (eB (e2 (eqU' false) (eV 6) (eC (.str "swap")))) (sSeq (sPar 9 10 (aCons (e2 ixU (eV 5) (e2 ixU (eV 4) (eC (.int 1)))) (aCons (e2 ixU (eV 5) (e2 ixU (eV 4) (eC (.int 2)))) (aNil)))) (sIf (bAnd (eB (e3c leU ltU (eC (.int 0)) (eV 9) (eB1 lenB (aCons (eV 2) (aNil))))) (eB (e3c leU ltU (eC (.int 0)) (eV 10) (eB1 lenB (aCons (eV 2) (aNil)))))) (sTup 2 (aCons (e2 ixU (eV 2) (eV 10)) (aCons (e2 ixU (eV 2) (eV 9)) (aNil))) (gs1 (gS (eV 2) (eV 9)) (gs1 (gS (eV 2) (eV 10)) (gs0)))) (sNx))) (sSeq (sPar 9 10 (aCons (e2 ixU (eV 5) (e2 ixU (eV 4) (eC (.int 1)))) (aCons (e2 ixU (eV 5) (e2 ixU (eV 4) (eC (.int 2)))) (aNil)))) (sSeq (sIf (eB (e2 (inU false) (eV 6) (eTup (aCons (eC (.str "atmost")) (aCons (eC (.str "below")) (aNil)))))) (sPar 9 10 (aCons (eCall C__law_word (aCons (eV 2) (aCons (eV 9) (aNil))) 2) (aCons (eCall C__law_word (aCons (eV 2) (aCons (eV 10) (aNil))) 2) (aNil)))) (sNx)) (sSeq (sAs (eIf (eB (e2 (eqU' false) (eV 6) (eC (.str "same")))) (e2 (eqU' false) (eV 9) (eV 10)) (eIf (eB (e2 (eqU' false) (eV 6) (eC (.str "atmost")))) (e2 leU (eV 9) (eV 10)) (e2 ltU (eV 9) (eV 10)))) (.nm 11)) (sAsG (eIf (eB (eV 11)) (e2 ixU (eV 4) (eC (.int 3))) (e2 ixU (eV 3) (eC (.int 1)))) (gS (eV 3) (eC (.int 1))))))))))) (sRt (eC (.bool false))))))))
def C__law_do : List U → Sto → R U := runC 12 b__law_do
theorem fn__law_do (F : FnP K "_law_do" s__law_do f fd) (gm : mg "_law_do" = some (.ref f)) (fr : Fr mg) (h__law_entered : FnB P w K mg base 1 "_law_entered" 4 C__law_entered) (h__law_word : FnB P w K mg base 1 "_law_word" 2 C__law_word) : FnB P w K mg base 2 "_law_do" 3 C__law_do :=
  fn_mk F sc__law_do gm (F.bindsN fun _ _ _ _ _ _ us hl => match us, hl with | [_, _, _], _ => rfl) fun cdv A outer s H E hr tk => sb_cons (ss_set sc__law_do.nd (i := 3) rfl (loc_of rfl) (se_ix (se_var (i := 1) rfl (vis_of rfl)) (se_neg (se_int)))) (sb_cons (ss_tup rfl (sa_cons (se_ix (se_ix (se_ix (se_var (i := 0) rfl (vis_of rfl)) (se_ix (se_var (i := 3) rfl (vis_of rfl)) (se_int))) (se_int)) (se_ix (se_var (i := 3) rfl (vis_of rfl)) (se_int))) (sa_cons (se_ix (se_var (i := 3) rfl (vis_of rfl)) (se_int)) (sa_nil))) (sgs_cons (sg_name sc__law_do.nd (i := 4) rfl (loc_of rfl)) (sgs_cons (sg_name sc__law_do.nd (i := 5) rfl (loc_of rfl)) (sgs_nil)))) (sb_cons (ss_set sc__law_do.nd (i := 6) rfl (loc_of rfl) (se_ix (se_var (i := 4) rfl (vis_of rfl)) (se_int))) (sb_cons (ss_if (st_cmp (op_eqD hr.units) (eqU_ok (K := K)) (se_var (i := 6) rfl (vis_of rfl)) (se_str)) (sb_cons (ss_set sc__law_do.nd (i := 7) rfl (loc_of rfl) (se_if (st_cmp op_isN (isU_ok (K := K)) (se_ix (se_var (i := 4) rfl (vis_of rfl)) (se_int)) (se_non)) (se_non) (se_ix (se_var (i := 5) rfl (vis_of rfl)) (se_ix (se_var (i := 4) rfl (vis_of rfl)) (se_int))))) (sb_cons (ss_expr (se_bm0 PySem.F.plainAttrs_list PySem.F.slot_list_pop PySem.F.type_list_pop mt_pop pop_ok (se_var (i := 1) rfl (vis_of rfl)))) (sb_cons (ss_if (st_cmp (op_eqD hr.units) (eqU_ok (K := K)) (se_var (i := 1) rfl (vis_of rfl)) (se_lst (sa_nil))) (sb_cons (ss_expr (se_bm PySem.F.plainAttrs_list PySem.F.slot_list_append PySem.F.type_list_append mt_append append_ok (se_var (i := 1) rfl (vis_of rfl)) (sa_cons (se_lst (sa_cons (se_neg (se_int)) (sa_cons (se_var (i := 7) rfl (vis_of rfl)) (sa_cons (se_var (i := 5) rfl (vis_of rfl)) (sa_cons (se_non) (sa_nil)))))) (sa_nil)))) (sb_one (ss_ret (se_bl)))) (sb_nil)) (sb_cons (ss_if (st_cmp op_notN (notU_ok (K := K)) (se_ix (se_var (i := 3) rfl (vis_of rfl)) (se_int)) (se_non)) (sb_one (ss_asG (se_if (st_cmp op_isN (isU_ok (K := K)) (se_var (i := 7) rfl (vis_of rfl)) (se_non)) (se_ix (se_var (i := 5) rfl (vis_of rfl)) (se_int)) (se_var (i := 7) rfl (vis_of rfl))) (sg_sub (se_ix (se_ix (se_var (i := 1) rfl (vis_of rfl)) (se_neg (se_int))) (se_int)) (se_ix (se_var (i := 3) rfl (vis_of rfl)) (se_int))))) (sb_nil)) (sb_one (ss_ret (se_bl))))))) (sb_nil)) (sb_cons (ss_aug (se_var (i := 3) rfl (vis_of rfl)) (se_int) (se_int) ip_add) (sb_cons (ss_if (st_cmp (op_eqD hr.units) (eqU_ok (K := K)) (se_var (i := 6) rfl (vis_of rfl)) (se_str)) (sb_one (ss_expr (se_bm PySem.F.plainAttrs_list PySem.F.slot_list_append PySem.F.type_list_append mt_append append_ok (se_var (i := 1) rfl (vis_of rfl)) (sa_cons (se_fn h__law_entered (by decide) tk hr rfl (sa_cons (se_var (i := 0) rfl (vis_of rfl)) (sa_cons (se_ix (se_var (i := 4) rfl (vis_of rfl)) (se_int)) (sa_cons (se_comp rfl sc__law_do.nd (own := [("r", 8)]) (g := .nm 8) (si_tup (se_ix (se_var (i := 4) rfl (vis_of rfl)) (se_int))) (blkOk_by (N := ["functions", "frames", "row", "frame", "one", "told", "word", "place", "r", "x", "y", "so"]) (sc := defScope s__law_do) (by decide +kernel)) (fun _ _ _ _ _ => (pg_name sc__law_do.nd (i := 8) rfl (loc_of rfl))) (by decide) (fun _ _ _ _ _ => pts_true) (fun _ _ _ _ _ => se_ix (se_var (i := 5) rfl (vis_of rfl)) (se_var (i := 8) rfl (vis_of rfl)))) (sa_cons (se_ix (se_var (i := 4) rfl (vis_of rfl)) (se_int)) (sa_nil)))))) (sa_nil))))) (sb_one (ss_if (st_cmp (op_eqD hr.units) (eqU_ok (K := K)) (se_var (i := 6) rfl (vis_of rfl)) (se_str)) (sb_one (ss_asG (se_ix (se_var (i := 4) rfl (vis_of rfl)) (se_int)) (sg_sub (se_var (i := 3) rfl (vis_of rfl)) (se_int)))) (sb_one (ss_if (st_cmp op_in_seq (inU_all (K := K) false) (se_var (i := 6) rfl (vis_of rfl)) (se_tup (sa_cons (se_str) (sa_cons (se_str) (sa_cons (se_str) (sa_nil)))))) (sb_one (ss_asG (se_op op_addA (addU_ok (K := K)) (se_ix (se_var (i := 5) rfl (vis_of rfl)) (se_ix (se_var (i := 4) rfl (vis_of rfl)) (se_int))) (se_dix (ps := [("move", 0), ("step", 1), ("back", (-1))]) (Nat.lt_of_le_of_lt (Nat.add_le_add_left (by decide : 1 ≤ 64) _) hr.units) (pps_cons pe_str pe_int (pps_cons pe_str pe_int (pps_cons pe_str pe_negC (pps_nil)))) (se_var (i := 6) rfl (vis_of rfl)))) (sg_sub (se_var (i := 5) rfl (vis_of rfl)) (se_ix (se_var (i := 4) rfl (vis_of rfl)) (se_int))))) (sb_one (ss_if (st_cmp (op_eqD hr.units) (eqU_ok (K := K)) (se_var (i := 6) rfl (vis_of rfl)) (se_str)) (sb_cons (ss_par rfl sc__law_do.nd (i := 9) (j := 10) rfl rfl (by decide) rfl rfl (sa_cons (se_ix (se_var (i := 5) rfl (vis_of rfl)) (se_ix (se_var (i := 4) rfl (vis_of rfl)) (se_int))) (sa_cons (se_ix (se_var (i := 5) rfl (vis_of rfl)) (se_ix (se_var (i := 4) rfl (vis_of rfl)) (se_int))) (sa_nil))) rfl) (sb_one (ss_if (st_of (sw_and (st_chain op_le (leU_ok (K := K)) op_lt (ltU_ok (K := K)) (se_int) (se_var (i := 9) rfl (vis_of rfl)) (se_callB call_lenA lenB_ok rfl fr.len boot_len (sa_cons (se_var (i := 2) rfl (vis_of rfl)) (sa_nil)))) (sw_and1 (st_chain op_le (leU_ok (K := K)) op_lt (ltU_ok (K := K)) (se_int) (se_var (i := 10) rfl (vis_of rfl)) (se_callB call_lenA lenB_ok rfl fr.len boot_len (sa_cons (se_var (i := 2) rfl (vis_of rfl)) (sa_nil))))))) (sb_one (ss_tup rfl (sa_cons (se_ix (se_var (i := 2) rfl (vis_of rfl)) (se_var (i := 10) rfl (vis_of rfl))) (sa_cons (se_ix (se_var (i := 2) rfl (vis_of rfl)) (se_var (i := 9) rfl (vis_of rfl))) (sa_nil))) (sgs_cons (sg_sub (se_var (i := 2) rfl (vis_of rfl)) (se_var (i := 9) rfl (vis_of rfl))) (sgs_cons (sg_sub (se_var (i := 2) rfl (vis_of rfl)) (se_var (i := 10) rfl (vis_of rfl))) (sgs_nil))))) (sb_nil)))) (sb_cons (ss_par rfl sc__law_do.nd (i := 9) (j := 10) rfl rfl (by decide) rfl rfl (sa_cons (se_ix (se_var (i := 5) rfl (vis_of rfl)) (se_ix (se_var (i := 4) rfl (vis_of rfl)) (se_int))) (sa_cons (se_ix (se_var (i := 5) rfl (vis_of rfl)) (se_ix (se_var (i := 4) rfl (vis_of rfl)) (se_int))) (sa_nil))) rfl) (sb_cons (ss_if (st_cmp op_in_seq (inU_all (K := K) false) (se_var (i := 6) rfl (vis_of rfl)) (se_tup (sa_cons (se_str) (sa_cons (se_str) (sa_nil))))) (sb_one (ss_par rfl sc__law_do.nd (i := 9) (j := 10) rfl rfl (by decide) rfl rfl (sa_cons (se_fn h__law_word (by decide) tk hr rfl (sa_cons (se_var (i := 2) rfl (vis_of rfl)) (sa_cons (se_var (i := 9) rfl (vis_of rfl)) (sa_nil)))) (sa_cons (se_fn h__law_word (by decide) tk hr rfl (sa_cons (se_var (i := 2) rfl (vis_of rfl)) (sa_cons (se_var (i := 10) rfl (vis_of rfl)) (sa_nil)))) (sa_nil))) rfl)) (sb_nil)) (sb_cons (ss_set sc__law_do.nd (i := 11) rfl (loc_of rfl) (se_if (st_cmp (op_eqD hr.units) (eqU_ok (K := K)) (se_var (i := 6) rfl (vis_of rfl)) (se_str)) (se_cmp (op_eqD hr.units) (eqU_ok (K := K)) (se_var (i := 9) rfl (vis_of rfl)) (se_var (i := 10) rfl (vis_of rfl))) (se_if (st_cmp (op_eqD hr.units) (eqU_ok (K := K)) (se_var (i := 6) rfl (vis_of rfl)) (se_str)) (se_cmp op_le (leU_ok (K := K)) (se_var (i := 9) rfl (vis_of rfl)) (se_var (i := 10) rfl (vis_of rfl))) (se_cmp op_lt (ltU_ok (K := K)) (se_var (i := 9) rfl (vis_of rfl)) (se_var (i := 10) rfl (vis_of rfl)))))) (sb_one (ss_asG (se_if (st_val (se_var (i := 11) rfl (vis_of rfl))) (se_ix (se_var (i := 4) rfl (vis_of rfl)) (se_int)) (se_ix (se_var (i := 3) rfl (vis_of rfl)) (se_int))) (sg_sub (se_var (i := 3) rfl (vis_of rfl)) (se_int)))))))))))))) (sb_one (ss_ret (se_bl))))))))
/-! _law_is_let -/
abbrev s__law_is_let : Stmt := top 36
theorem sc__law_is_let : FnScope ["functions", "frames", "frame", "one", "told", "first", "last", "places", "r"] ["functions", "frames"] (defScope s__law_is_let) := ⟨rfl, rfl, rfl, by decide +kernel, rfl, by decide +kernel, by decide +kernel⟩
def b__law_is_let : En → Sto → O := sSeq (sAs (e2 ixU (eV 1) (e1 negU (eC (.int 1)))) (.nm 2)) (sSeq (sTup 2 (aCons (e2 ixU (e2 ixU (e2 ixU (eV 0) (e2 ixU (eV 2) (eC (.int 0)))) (eC (.int 2))) (e2 ixU (eV 2) (eC (.int 1)))) (aCons (e2 ixU (eV 2) (eC (.int 2))) (aNil))) (gs1 (gN 3) (gs1 (gN 4) (gs0)))) (sSeq (sPar 5 6 (aCons (e2 ixU (eV 4) (eC (.int 0))) (aCons (e2 ixU (eV 4) (eC (.int 1))) (aNil)))) (sSeq (sIf (eB (e2 (inU false) (e2 ixU (eV 3) (eC (.int 0))) (eTup (aCons (eC (.str "swap")) (aCons (eC (.str "atmost")) (aCons (eC (.str "below")) (aNil))))))) (sRt (vAnd (e2 leU (eV 5) (eB1 minB (aCons (e2 ixU (eV 4) (e2 ixU (eV 3) (eC (.int 1)))) (aCons (e2 ixU (eV 4) (e2 ixU (eV 3) (eC (.int 2)))) (aNil))))) (e2 ltU (eB1 maxB (aCons (e2 ixU (eV 4) (e2 ixU (eV 3) (eC (.int 1)))) (aCons (e2 ixU (eV 4) (e2 ixU (eV 3) (eC (.int 2)))) (aNil)))) (eV 6)))) (sNx)) (sSeq (sIf (eB (e2 (inU false) (e2 ixU (eV 3) (eC (.int 0))) (eTup (aCons (eC (.str "move")) (aCons (eC (.str "step")) (aCons (eC (.str "back")) (aNil))))))) (sRt (e3c leU leU (eV 5) (e2 addU (e2 ixU (eV 4) (e2 ixU (eV 3) (eC (.int 2)))) (eDix [("move", 0), ("step", 1), ("back", (-1))] (e2 ixU (eV 3) (eC (.int 0))))) (eV 6))) (sNx)) (sSeq (sIf (eB (e2 (eqU' false) (e2 ixU (eV 3) (eC (.int 0))) (eC (.str "call")))) (sSeq (sAs (eComp [8] (wT (e2 ixU (eV 3) (eC (.int 2)))) (.nm 8) (cTrue) (e2 ixU (eV 4) (eV 8))) (.nm 7)) (sRt (vAnd (e2 leU (eV 5) (e2 ixU (eV 7) (eC (.int 0)))) (vAnd (e2 leU (e2 ixU (eV 7) (eC (.int 1))) (eV 6)) (e2 leU (e2 ixU (eV 7) (eC (.int 0))) (e2 ixU (eV 7) (eC (.int 1)))))))) (sNx)) (sRt (eC (.bool true))))))))
def C__law_is_let : List U → Sto → R U := runC 9 b__law_is_let
theorem fn__law_is_let (F : FnP K "_law_is_let" s__law_is_let f fd) (gm : mg "_law_is_let" = some (.ref f)) (fr : Fr mg) : FnB P w K mg base 1 "_law_is_let" 2 C__law_is_let :=
  fn_mk F sc__law_is_let gm (F.bindsN fun _ _ _ _ _ _ us hl => match us, hl with | [_, _], _ => rfl) fun cdv A outer s H E hr tk => sb_cons (ss_set sc__law_is_let.nd (i := 2) rfl (loc_of rfl) (se_ix (se_var (i := 1) rfl (vis_of rfl)) (se_neg (se_int)))) (sb_cons (ss_tup rfl (sa_cons (se_ix (se_ix (se_ix (se_var (i := 0) rfl (vis_of rfl)) (se_ix (se_var (i := 2) rfl (vis_of rfl)) (se_int))) (se_int)) (se_ix (se_var (i := 2) rfl (vis_of rfl)) (se_int))) (sa_cons (se_ix (se_var (i := 2) rfl (vis_of rfl)) (se_int)) (sa_nil))) (sgs_cons (sg_name sc__law_is_let.nd (i := 3) rfl (loc_of rfl)) (sgs_cons (sg_name sc__law_is_let.nd (i := 4) rfl (loc_of rfl)) (sgs_nil)))) (sb_cons (ss_par rfl sc__law_is_let.nd (i := 5) (j := 6) rfl rfl (by decide) rfl rfl (sa_cons (se_ix (se_var (i := 4) rfl (vis_of rfl)) (se_int)) (sa_cons (se_ix (se_var (i := 4) rfl (vis_of rfl)) (se_int)) (sa_nil))) rfl) (sb_cons (ss_if (st_cmp op_in_seq (inU_all (K := K) false) (se_ix (se_var (i := 3) rfl (vis_of rfl)) (se_int)) (se_tup (sa_cons (se_str) (sa_cons (se_str) (sa_cons (se_str) (sa_nil)))))) (sb_one (ss_ret (se_and (se_cmp op_le (leU_ok (K := K)) (se_var (i := 5) rfl (vis_of rfl)) (se_callB (call_min2 rfl) minB_ok rfl fr.min boot_min (sa_cons (se_ix (se_var (i := 4) rfl (vis_of rfl)) (se_ix (se_var (i := 3) rfl (vis_of rfl)) (se_int))) (sa_cons (se_ix (se_var (i := 4) rfl (vis_of rfl)) (se_ix (se_var (i := 3) rfl (vis_of rfl)) (se_int))) (sa_nil))))) (se_one (se_cmp op_lt (ltU_ok (K := K)) (se_callB (call_max2 rfl) maxB_ok rfl fr.max boot_max (sa_cons (se_ix (se_var (i := 4) rfl (vis_of rfl)) (se_ix (se_var (i := 3) rfl (vis_of rfl)) (se_int))) (sa_cons (se_ix (se_var (i := 4) rfl (vis_of rfl)) (se_ix (se_var (i := 3) rfl (vis_of rfl)) (se_int))) (sa_nil)))) (se_var (i := 6) rfl (vis_of rfl))))))) (sb_nil)) (sb_cons (ss_if (st_cmp op_in_seq (inU_all (K := K) false) (se_ix (se_var (i := 3) rfl (vis_of rfl)) (se_int)) (se_tup (sa_cons (se_str) (sa_cons (se_str) (sa_cons (se_str) (sa_nil)))))) (sb_one (ss_ret (se_chain op_le (leU_ok (K := K)) op_le (leU_ok (K := K)) (se_var (i := 5) rfl (vis_of rfl)) (se_op op_addA (addU_ok (K := K)) (se_ix (se_var (i := 4) rfl (vis_of rfl)) (se_ix (se_var (i := 3) rfl (vis_of rfl)) (se_int))) (se_dix (ps := [("move", 0), ("step", 1), ("back", (-1))]) (Nat.lt_of_le_of_lt (Nat.add_le_add_left (by decide : 1 ≤ 64) _) hr.units) (pps_cons pe_str pe_int (pps_cons pe_str pe_int (pps_cons pe_str pe_negC (pps_nil)))) (se_ix (se_var (i := 3) rfl (vis_of rfl)) (se_int)))) (se_var (i := 6) rfl (vis_of rfl))))) (sb_nil)) (sb_cons (ss_if (st_cmp (op_eqD hr.units) (eqU_ok (K := K)) (se_ix (se_var (i := 3) rfl (vis_of rfl)) (se_int)) (se_str)) (sb_cons (ss_comp rfl sc__law_is_let.nd (i := 7) rfl rfl rfl rfl rfl (own := [("r", 8)]) (g := .nm 8) (si_tup (se_ix (se_var (i := 3) rfl (vis_of rfl)) (se_int))) (blkOk_by (N := ["functions", "frames", "frame", "one", "told", "first", "last", "places", "r"]) (sc := defScope s__law_is_let) (by decide +kernel)) (fun _ _ _ _ _ => (pg_name sc__law_is_let.nd (i := 8) rfl (loc_of rfl))) (by decide) (fun _ _ _ _ _ => pts_true) (fun _ _ _ _ _ => se_ix (se_var (i := 4) rfl (vis_of rfl)) (se_var (i := 8) rfl (vis_of rfl)))) (sb_one (ss_ret (se_and (se_cmp op_le (leU_ok (K := K)) (se_var (i := 5) rfl (vis_of rfl)) (se_ix (se_var (i := 7) rfl (vis_of rfl)) (se_int))) (se_and (se_cmp op_le (leU_ok (K := K)) (se_ix (se_var (i := 7) rfl (vis_of rfl)) (se_int)) (se_var (i := 6) rfl (vis_of rfl))) (se_one (se_cmp op_le (leU_ok (K := K)) (se_ix (se_var (i := 7) rfl (vis_of rfl)) (se_int)) (se_ix (se_var (i := 7) rfl (vis_of rfl)) (se_int))))))))) (sb_nil)) (sb_one (ss_ret (se_bl))))))))
/-! _law_stand -/
abbrev s__law_stand : Stmt := top 37
theorem sc__law_stand : FnScope ["frames", "row", "frame"] ["frames", "row"] (defScope s__law_stand) := ⟨rfl, rfl, rfl, by decide +kernel, rfl, by decide +kernel, by decide +kernel⟩
def b__law_stand : En → Sto → O := sRt (eTup (aCons (eB1 tupleB (aCons (eComp [2] (wL (eV 0)) (.nm 2) (cTrue) (eTup (aCons (e2 ixU (eV 2) (eC (.int 0))) (aCons (e2 ixU (eV 2) (eC (.int 1))) (aCons (eB1 tupleB (aCons (e2 ixU (eV 2) (eC (.int 2))) (aNil))) (aCons (e2 ixU (eV 2) (eC (.int 3))) (aNil))))))) (aNil))) (aCons (eB1 tupleB (aCons (eV 1) (aNil))) (aNil))))
def C__law_stand : List U → Sto → R U := runC 3 b__law_stand
theorem fn__law_stand (F : FnP K "_law_stand" s__law_stand f fd) (gm : mg "_law_stand" = some (.ref f)) (fr : Fr mg) : FnB P w K mg base 1 "_law_stand" 2 C__law_stand :=
  fn_mk F sc__law_stand gm (F.bindsN fun _ _ _ _ _ _ us hl => match us, hl with | [_, _], _ => rfl) fun cdv A outer s H E hr tk => sb_one (ss_ret (se_tup (sa_cons (se_callTy call_tuple_of tupleB_ok rfl fr.tuple PyProof.Rows.boot_tuple (sa_cons (se_comp rfl sc__law_stand.nd (own := [("frame", 2)]) (g := .nm 2) (si_list (se_var (i := 0) rfl (vis_of rfl))) (blkOk_by (N := ["frames", "row", "frame"]) (sc := defScope s__law_stand) (by decide +kernel)) (fun _ _ _ _ _ => (pg_name sc__law_stand.nd (i := 2) rfl (loc_of rfl))) (by decide) (fun _ _ _ _ _ => pts_true) (fun _ _ _ _ _ => se_tup (sa_cons (se_ix (se_var (i := 2) rfl (vis_of rfl)) (se_int)) (sa_cons (se_ix (se_var (i := 2) rfl (vis_of rfl)) (se_int)) (sa_cons (se_callTy call_tuple_of tupleB_ok rfl fr.tuple PyProof.Rows.boot_tuple (sa_cons (se_ix (se_var (i := 2) rfl (vis_of rfl)) (se_int)) (sa_nil))) (sa_cons (se_ix (se_var (i := 2) rfl (vis_of rfl)) (se_int)) (sa_nil))))))) (sa_nil))) (sa_cons (se_callTy call_tuple_of tupleB_ok rfl fr.tuple PyProof.Rows.boot_tuple (sa_cons (se_var (i := 1) rfl (vis_of rfl)) (sa_nil))) (sa_nil)))))
/-! _law_trap -/
abbrev s__law_trap : Stmt := top 38
theorem sc__law_trap : FnScope ["functions", "stand", "error"] ["functions", "stand"] (defScope s__law_trap) := ⟨rfl, rfl, rfl, by decide +kernel, rfl, by decide +kernel, by decide +kernel⟩
def b__law_trap : En → Sto → O := sSeq (sTryF mt_Trap 2 "number" "at" (sEx (eCall C_checked_step (aCons (eV 0) (aCons (eV 1) (aNil))) 2))) (sRt (eC .none))
def C__law_trap : List U → Sto → R U := runC 3 b__law_trap
theorem fn__law_trap (F : FnP K "_law_trap" s__law_trap f fd) (gm : mg "_law_trap" = some (.ref f)) (h_checked_step : FnB P w K mg base 5 "checked_step" 2 C_checked_step) (c_Trap : CatF K mg "Trap" "number" "at" mt_Trap) : FnB P w K mg base 6 "_law_trap" 2 C__law_trap :=
  fn_mk F sc__law_trap gm (F.bindsN fun _ _ _ _ _ _ us hl => match us, hl with | [_, _], _ => rfl) fun cdv A outer s H E hr tk => sb_cons (try_of (n := "error") (i := 2) c_Trap rfl rfl sc__law_trap.nd rfl rfl (vis_of rfl) rfl tk (fun W1 pn xe tk1 pa1 => sb_one (ss_expr (se_fn h_checked_step (by decide) tk1 hr rfl (sa_cons (se_var (i := 0) rfl (vis_of rfl)) (sa_cons (se_var (i := 1) rfl (vis_of rfl)) (sa_nil))))))) (sb_one (ss_ret (se_non)))
/-! _law_is_nothing -/
abbrev s__law_is_nothing : Stmt := top 30
theorem sc__law_is_nothing : FnScope ["act"] ["act"] (defScope s__law_is_nothing) := ⟨rfl, rfl, rfl, by decide +kernel, rfl, by decide +kernel, by decide +kernel⟩
def b__law_is_nothing : En → Sto → O := sBad
def C__law_is_nothing : List U → Sto → R U := runC 1 b__law_is_nothing
def b_law_f0 : En → Sto → O := sSeq (sIf (bOr (eB (e2 (eqU' true) (eV 7) (eCall C__law_stand (aCons (eV 8) (aCons (eV 4) (aNil))) 2))) (eB (eCall C_is_ended (aCons (eV 7) (aNil)) 1))) (sRt (eC (.bool false))) (sNx)) (sSeq (sAs (eCall C__law_is_let (aCons (eV 3) (aCons (eV 8) (aNil))) 2) (.nm 12)) (sSeq (sEx (eM isL appU (eV 10) (aCons (eV 12) (aNil)))) (sSeq (sIf (bOr (eB (e2 (eqU' true) (eCall C_is_within (aCons (eV 3) (aCons (eV 7) (aNil))) 2) (eV 12))) (eB (e2 (eqU' true) (e2 (isU false) (eCall C__law_trap (aCons (eV 3) (aCons (eV 7) (aNil))) 2) (eC .none)) (eV 12)))) (sRt (eC (.bool false))) (sNx)) (sSeq (sIf (bAnd (bNot (eB (eV 12))) (eB (e2 (eqU' true) (eCall C__law_trap (aCons (eV 3) (aCons (eV 7) (aNil))) 2) (eTup (aCons (e2 ixU (e2 ixU (eV 8) (e1 negU (eC (.int 1)))) (eC (.int 0))) (aCons (e2 ixU (e2 ixU (eV 8) (e1 negU (eC (.int 1)))) (eC (.int 1))) (aNil))))))) (sRt (eC (.bool false))) (sNx)) (sSeq (sAs (eCall C_step (aCons (eV 3) (aCons (eV 7) (aNil))) 2) (.nm 13)) (sSeq (sIf (bAnd (eB (eV 12)) (eB (e2 (eqU' true) (eCall C_checked_step (aCons (eV 3) (aCons (eV 7) (aNil))) 2) (eV 13)))) (sRt (eC (.bool false))) (sNx)) (sSeq (sAs (eCall C__law_do (aCons (eV 3) (aCons (eV 8) (aCons (eV 4) (aNil)))) 3) (.nm 14)) (sSeq (sAs (eV 13) (.nm 7)) (sIf (bOr (eB (eV 14)) (eB (e2 gtU (eB1 lenB (aCons (eV 8) (aNil))) (eC (.int 20))))) (sBk) (sNx))))))))))
def b_law_f1 : En → Sto → O := sSeq (sTup 2 (aCons (eCall C__law_code (aCons (eV 1) (aNil)) 1) (aCons (eB1 listB (aCons (eCall C__law_drawn_row (aCons (eV 1) (aCons (eCall C__law_take (aCons (eV 1) (aCons (eC (.int 5)) (aNil))) 2) (aNil))) 2) (aNil))) (aNil))) (gs1 (gN 3) (gs1 (gN 4) (gs0)))) (sSeq (sPar 5 6 (aCons (eCall C__law_take (aCons (eV 1) (aCons (eC (.int 2)) (aNil))) 2) (aCons (eTup (aCons (eCall C__law_take (aCons (eV 1) (aCons (eC (.int 3)) (aNil))) 2) (aCons (eCall C__law_take (aCons (eV 1) (aCons (eC (.int 6)) (aNil))) 2) (aNil)))) (aNil)))) (sSeq (sTup 2 (aCons (eCall C_begin (aCons (eV 3) (aCons (eV 5) (aCons (eB1 tupleB (aCons (eV 4) (aNil))) (aCons (eV 6) (aNil))))) 4) (aCons (eLst (aCons (eCall C__law_entered (aCons (eV 3) (aCons (eV 5) (aCons (eV 6) (aCons (eC .none) (aNil))))) 4) (aNil))) (aNil))) (gs1 (gN 7) (gs1 (gN 8) (gs0)))) (sSeq (sPar 9 10 (aCons (eV 7) (aCons (eLst (aNil)) (aNil)))) (sSeq (sFor (wR1 (aCons (eC (.int 40)) (aNil))) (.nm 11) (b_law_f0)) (sSeq (sIf (bOr (eB (e2 (eqU' true) (eV 7) (eCall C__law_stand (aCons (eV 8) (aCons (eV 4) (aNil))) 2))) (eB (e2 (eqU' true) (eCall C_run (aCons (eV 3) (aCons (eV 9) (aCons (eB1 lenB (aCons (eV 10) (aNil))) (aNil)))) 3) (eV 7)))) (sRt (eC (.bool false))) (sNx)) (sSeq (sIf (bAnd (eB (e2 (inU true) (eC (.bool false)) (eV 10))) (eB (e2 (eqU' true) (eCall C_checked_run (aCons (eV 3) (aCons (eV 9) (aCons (eB1 lenB (aCons (eV 10) (aNil))) (aNil)))) 3) (eV 7)))) (sRt (eC (.bool false))) (sNx)) (sSeq (sIf (eB (eCall C_is_ended (aCons (eV 7) (aNil)) 1)) (sIf (bOr (eB (e2 (eqU' true) (eCall C_end_of (aCons (eV 7) (aNil)) 1) (eTup (aCons (eB1 tupleB (aCons (eV 4) (aNil))) (aCons (e2 ixU (e2 ixU (eV 8) (eC (.int 0))) (eC (.int 1))) (aNil)))))) (bNot (eB (eLam mt_Nothing (eCall C_step (aCons (eV 3) (aCons (eV 7) (aNil))) 2))))) (sRt (eC (.bool false))) (sNx)) (sIf (bNot (eB (eLam mt_Nothing (eCall C_end_of (aCons (eV 7) (aNil)) 1)))) (sRt (eC (.bool false))) (sNx))) (sIf (eB (e2 (eqU' true) (eB1 sortB (aCons (e2 ixU (eV 7) (eC (.int 1))) (aNil))) (eB1 sortB (aCons (e2 ixU (eV 9) (eC (.int 1))) (aNil))))) (sRt (eC (.bool false))) (sNx)))))))))
/-! law -/
abbrev s_law : Stmt := top 39
theorem sc_law : FnScope ["script", "bag", "lap", "functions", "row", "number", "places", "stand", "frames", "first", "ways", "turn", "so", "later", "is_over"] ["script"] (defScope s_law) := ⟨rfl, rfl, rfl, by decide +kernel, rfl, by decide +kernel, by decide +kernel⟩
def b_law : En → Sto → O := sSeq (sAs (eCall C__law_bag (aCons (eV 0) (aNil)) 1) (.nm 1)) (sSeq (sFor (wR1 (aCons (eC (.int 5)) (aNil))) (.nm 2) (b_law_f1)) (sRt (eC (.bool true))))
def C_law : List U → Sto → R U := runC 15 b_law
theorem fn_law (F : FnP K "law" s_law f fd) (fr : Fr mg) (h__law_bag : FnB P w K mg base 1 "_law_bag" 1 C__law_bag) (h__law_take : FnB P w K mg base 1 "_law_take" 2 C__law_take) (h__law_drawn_row : FnB P w K mg base 2 "_law_drawn_row" 2 C__law_drawn_row) (h__law_code : FnB P w K mg base 4 "_law_code" 1 C__law_code) (h__law_entered : FnB P w K mg base 1 "_law_entered" 4 C__law_entered) (h_begin : FnB P w K mg base 2 "begin" 4 C_begin) (h__law_stand : FnB P w K mg base 1 "_law_stand" 2 C__law_stand) (h_is_ended : FnB P w K mg base 1 "is_ended" 1 C_is_ended) (h__law_is_let : FnB P w K mg base 1 "_law_is_let" 2 C__law_is_let) (h_is_within : FnB P w K mg base 3 "is_within" 2 C_is_within) (h__law_trap : FnB P w K mg base 6 "_law_trap" 2 C__law_trap) (h_step : FnB P w K mg base 4 "step" 2 C_step) (h_checked_step : FnB P w K mg base 5 "checked_step" 2 C_checked_step) (h__law_do : FnB P w K mg base 2 "_law_do" 3 C__law_do) (h_run : FnB P w K mg base 5 "run" 3 C_run) (h_checked_run : FnB P w K mg base 6 "checked_run" 3 C_checked_run) (h_end_of : FnB P w K mg base 2 "end_of" 1 C_end_of) {fN c T : Addr} {fdN : FuncData} (FN : FnP K "_law_is_nothing" s__law_is_nothing fN fdN) (gN : mg "_law_is_nothing" = some (.ref fN)) (gE : mg "Nothing" = some (.ref (He.ga K "Nothing"))) (xm : Takes1 K (.ref (He.ga K "Nothing")) mt_Nothing) (TB : LamX.TabB base mg c T) (hcd : ∀ cdv, (∃ oc od osl, K.lookup f = some ⟨oc, od, .func fd, osl⟩ ∧ fd.code = cdv) → cdv = .ref c) (hmT : (T, (("law" : Str) ++ ".<locals>.") ++ "<lambda>") ∈ LT.T) (hu : ∀ p ∈ LT.T, p.1 = T → p.2 = (("law" : Str) ++ ".<locals>.") ++ "<lambda>") : FnOk P w K mg base (L2.CX P w) 7 f fd ["script"] (spF K 1 C_law) :=
  RS.fn_law F sc_law fun cdv hcv A outer s H E hr tk => sb_cons (ss_set sc_law.nd (i := 1) rfl (loc_of rfl) (se_fn h__law_bag (by decide) tk hr rfl (sa_cons (se_var (i := 0) rfl (vis_of rfl)) (sa_nil)))) (sb_cons (ss_for (g := .nm 2) (passes_of rfl) rfl (si_range1 rfl fr.range (sa_cons (se_int) (sa_nil))) (pg_name sc_law.nd (i := 2) rfl (loc_of rfl)) (sb_cons (ss_tup rfl (sa_cons (se_fn h__law_code (by decide) tk hr rfl (sa_cons (se_var (i := 1) rfl (vis_of rfl)) (sa_nil))) (sa_cons (se_callTy call_list_of listB_ok rfl fr.list PyProof.Rows.boot_list (sa_cons (se_fn h__law_drawn_row (by decide) tk hr rfl (sa_cons (se_var (i := 1) rfl (vis_of rfl)) (sa_cons (se_fn h__law_take (by decide) tk hr rfl (sa_cons (se_var (i := 1) rfl (vis_of rfl)) (sa_cons (se_int) (sa_nil)))) (sa_nil)))) (sa_nil))) (sa_nil))) (sgs_cons (sg_name sc_law.nd (i := 3) rfl (loc_of rfl)) (sgs_cons (sg_name sc_law.nd (i := 4) rfl (loc_of rfl)) (sgs_nil)))) (sb_cons (ss_par rfl sc_law.nd (i := 5) (j := 6) rfl rfl (by decide) rfl rfl (sa_cons (se_fn h__law_take (by decide) tk hr rfl (sa_cons (se_var (i := 1) rfl (vis_of rfl)) (sa_cons (se_int) (sa_nil)))) (sa_cons (se_tup (sa_cons (se_fn h__law_take (by decide) tk hr rfl (sa_cons (se_var (i := 1) rfl (vis_of rfl)) (sa_cons (se_int) (sa_nil)))) (sa_cons (se_fn h__law_take (by decide) tk hr rfl (sa_cons (se_var (i := 1) rfl (vis_of rfl)) (sa_cons (se_int) (sa_nil)))) (sa_nil)))) (sa_nil))) rfl) (sb_cons (ss_tup rfl (sa_cons (se_fn h_begin (by decide) tk hr rfl (sa_cons (se_var (i := 3) rfl (vis_of rfl)) (sa_cons (se_var (i := 5) rfl (vis_of rfl)) (sa_cons (se_callTy call_tuple_of tupleB_ok rfl fr.tuple PyProof.Rows.boot_tuple (sa_cons (se_var (i := 4) rfl (vis_of rfl)) (sa_nil))) (sa_cons (se_var (i := 6) rfl (vis_of rfl)) (sa_nil)))))) (sa_cons (se_lst (sa_cons (se_fn h__law_entered (by decide) tk hr rfl (sa_cons (se_var (i := 3) rfl (vis_of rfl)) (sa_cons (se_var (i := 5) rfl (vis_of rfl)) (sa_cons (se_var (i := 6) rfl (vis_of rfl)) (sa_cons (se_non) (sa_nil)))))) (sa_nil))) (sa_nil))) (sgs_cons (sg_name sc_law.nd (i := 7) rfl (loc_of rfl)) (sgs_cons (sg_name sc_law.nd (i := 8) rfl (loc_of rfl)) (sgs_nil)))) (sb_cons (ss_par rfl sc_law.nd (i := 9) (j := 10) rfl rfl (by decide) rfl rfl (sa_cons (se_var (i := 7) rfl (vis_of rfl)) (sa_cons (se_lst (sa_nil)) (sa_nil))) rfl) (sb_cons (ss_for (g := .nm 11) (passes_of rfl) rfl (si_range1 rfl fr.range (sa_cons (se_int) (sa_nil))) (pg_name sc_law.nd (i := 11) rfl (loc_of rfl)) (sb_cons (ss_if (st_of (sw_or (st_cmp (op_neD hr.units) (neU_ok (K := K)) (se_var (i := 7) rfl (vis_of rfl)) (se_fn h__law_stand (by decide) tk hr rfl (sa_cons (se_var (i := 8) rfl (vis_of rfl)) (sa_cons (se_var (i := 4) rfl (vis_of rfl)) (sa_nil))))) (sw_or1 (st_val (se_fn h_is_ended (by decide) tk hr rfl (sa_cons (se_var (i := 7) rfl (vis_of rfl)) (sa_nil))))))) (sb_one (ss_ret (se_bl))) (sb_nil)) (sb_cons (ss_set sc_law.nd (i := 12) rfl (loc_of rfl) (se_fn h__law_is_let (by decide) tk hr rfl (sa_cons (se_var (i := 3) rfl (vis_of rfl)) (sa_cons (se_var (i := 8) rfl (vis_of rfl)) (sa_nil))))) (sb_cons (ss_expr (se_bm PySem.F.plainAttrs_list PySem.F.slot_list_append PySem.F.type_list_append mt_append append_ok (se_var (i := 10) rfl (vis_of rfl)) (sa_cons (se_var (i := 12) rfl (vis_of rfl)) (sa_nil)))) (sb_cons (ss_if (st_of (sw_or (st_cmp (op_neD hr.units) (neU_ok (K := K)) (se_fn h_is_within (by decide) tk hr rfl (sa_cons (se_var (i := 3) rfl (vis_of rfl)) (sa_cons (se_var (i := 7) rfl (vis_of rfl)) (sa_nil)))) (se_var (i := 12) rfl (vis_of rfl))) (sw_or1 (st_cmp (op_neD hr.units) (neU_ok (K := K)) (se_cmp op_isN (isU_ok (K := K)) (se_fn h__law_trap (by decide) tk hr rfl (sa_cons (se_var (i := 3) rfl (vis_of rfl)) (sa_cons (se_var (i := 7) rfl (vis_of rfl)) (sa_nil)))) (se_non)) (se_var (i := 12) rfl (vis_of rfl)))))) (sb_one (ss_ret (se_bl))) (sb_nil)) (sb_cons (ss_if (st_of (sw_and (st_not (st_val (se_var (i := 12) rfl (vis_of rfl)))) (sw_and1 (st_cmp (op_neD hr.units) (neU_ok (K := K)) (se_fn h__law_trap (by decide) tk hr rfl (sa_cons (se_var (i := 3) rfl (vis_of rfl)) (sa_cons (se_var (i := 7) rfl (vis_of rfl)) (sa_nil)))) (se_tup (sa_cons (se_ix (se_ix (se_var (i := 8) rfl (vis_of rfl)) (se_neg (se_int))) (se_int)) (sa_cons (se_ix (se_ix (se_var (i := 8) rfl (vis_of rfl)) (se_neg (se_int))) (se_int)) (sa_nil)))))))) (sb_one (ss_ret (se_bl))) (sb_nil)) (sb_cons (ss_set sc_law.nd (i := 13) rfl (loc_of rfl) (se_fn h_step (by decide) tk hr rfl (sa_cons (se_var (i := 3) rfl (vis_of rfl)) (sa_cons (se_var (i := 7) rfl (vis_of rfl)) (sa_nil))))) (sb_cons (ss_if (st_of (sw_and (st_val (se_var (i := 12) rfl (vis_of rfl))) (sw_and1 (st_cmp (op_neD hr.units) (neU_ok (K := K)) (se_fn h_checked_step (by decide) tk hr rfl (sa_cons (se_var (i := 3) rfl (vis_of rfl)) (sa_cons (se_var (i := 7) rfl (vis_of rfl)) (sa_nil)))) (se_var (i := 13) rfl (vis_of rfl)))))) (sb_one (ss_ret (se_bl))) (sb_nil)) (sb_cons (ss_set sc_law.nd (i := 14) rfl (loc_of rfl) (se_fn h__law_do (by decide) tk hr rfl (sa_cons (se_var (i := 3) rfl (vis_of rfl)) (sa_cons (se_var (i := 8) rfl (vis_of rfl)) (sa_cons (se_var (i := 4) rfl (vis_of rfl)) (sa_nil)))))) (sb_cons (ss_set sc_law.nd (i := 7) rfl (loc_of rfl) (se_var (i := 13) rfl (vis_of rfl))) (sb_one (ss_if (st_of (sw_or (st_val (se_var (i := 14) rfl (vis_of rfl))) (sw_or1 (st_cmp op_gt (gtU_ok (K := K)) (se_callB call_lenA lenB_ok rfl fr.len boot_len (sa_cons (se_var (i := 8) rfl (vis_of rfl)) (sa_nil))) (se_int))))) (sb_one (ss_break)) (sb_nil))))))))))))) (sb_cons (ss_if (st_of (sw_or (st_cmp (op_neD hr.units) (neU_ok (K := K)) (se_var (i := 7) rfl (vis_of rfl)) (se_fn h__law_stand (by decide) tk hr rfl (sa_cons (se_var (i := 8) rfl (vis_of rfl)) (sa_cons (se_var (i := 4) rfl (vis_of rfl)) (sa_nil))))) (sw_or1 (st_cmp (op_neD hr.units) (neU_ok (K := K)) (se_fn h_run (by decide) tk hr rfl (sa_cons (se_var (i := 3) rfl (vis_of rfl)) (sa_cons (se_var (i := 9) rfl (vis_of rfl)) (sa_cons (se_callB call_lenA lenB_ok rfl fr.len boot_len (sa_cons (se_var (i := 10) rfl (vis_of rfl)) (sa_nil))) (sa_nil))))) (se_var (i := 7) rfl (vis_of rfl)))))) (sb_one (ss_ret (se_bl))) (sb_nil)) (sb_cons (ss_if (st_of (sw_and (st_cmp op_notIn_seq (inU_all (K := K) true) (se_bl) (se_var (i := 10) rfl (vis_of rfl))) (sw_and1 (st_cmp (op_neD hr.units) (neU_ok (K := K)) (se_fn h_checked_run (by decide) tk hr rfl (sa_cons (se_var (i := 3) rfl (vis_of rfl)) (sa_cons (se_var (i := 9) rfl (vis_of rfl)) (sa_cons (se_callB call_lenA lenB_ok rfl fr.len boot_len (sa_cons (se_var (i := 10) rfl (vis_of rfl)) (sa_nil))) (sa_nil))))) (se_var (i := 7) rfl (vis_of rfl)))))) (sb_one (ss_ret (se_bl))) (sb_nil)) (sb_cons (ss_if (st_val (se_fn h_is_ended (by decide) tk hr rfl (sa_cons (se_var (i := 7) rfl (vis_of rfl)) (sa_nil)))) (sb_one (ss_if (st_of (sw_or (st_cmp (op_neD hr.units) (neU_ok (K := K)) (se_fn h_end_of (by decide) tk hr rfl (sa_cons (se_var (i := 7) rfl (vis_of rfl)) (sa_nil))) (se_tup (sa_cons (se_callTy call_tuple_of tupleB_ok rfl fr.tuple PyProof.Rows.boot_tuple (sa_cons (se_var (i := 4) rfl (vis_of rfl)) (sa_nil))) (sa_cons (se_ix (se_ix (se_var (i := 8) rfl (vis_of rfl)) (se_int)) (se_int)) (sa_nil))))) (sw_or1 (st_not (st_val (se_lamB (k := 4) FN gN (FN.bindsN fun _ _ _ _ _ _ us hl => match us, hl with | [_], _ => rfl) sc__law_is_nothing rfl (vis_of rfl) (fun _ => is_gives rfl gE (by decide) (fun _ => rfl)) xm TB (hcd _ hcv) hmT hu (by decide) hr rfl (LamX.lamS_by (sc := defScope s_law) (by decide +kernel)) rfl (fun _ _ _ _ _ => rfl) (fun A2 outer2 s2 H2 E2 f2 c2 hr2 => have tk2 := takes_of rfl rfl rfl rfl; se_fn h_step (by decide) tk2 hr2 rfl (sa_cons (se_var (i := 3) rfl (vis_of rfl)) (sa_cons (se_var (i := 7) rfl (vis_of rfl)) (sa_nil)))))))))) (sb_one (ss_ret (se_bl))) (sb_nil))) (sb_one (ss_if (st_not (st_val (se_lamB (k := 4) FN gN (FN.bindsN fun _ _ _ _ _ _ us hl => match us, hl with | [_], _ => rfl) sc__law_is_nothing rfl (vis_of rfl) (fun _ => is_gives rfl gE (by decide) (fun _ => rfl)) xm TB (hcd _ hcv) hmT hu (by decide) hr rfl (LamX.lamS_by (sc := defScope s_law) (by decide +kernel)) rfl (fun _ _ _ _ _ => rfl) (fun A2 outer2 s2 H2 E2 f2 c2 hr2 => have tk2 := takes_of rfl rfl rfl rfl; se_fn h_end_of (by decide) tk2 hr2 rfl (sa_cons (se_var (i := 7) rfl (vis_of rfl)) (sa_nil)))))) (sb_one (ss_ret (se_bl))) (sb_nil)))) (sb_one (ss_if (st_cmp (op_neD hr.units) (neU_ok (K := K)) (se_callB call_sortA sortB_ok rfl fr.sorted PyProof.Rows.boot_sorted (sa_cons (se_ix (se_var (i := 7) rfl (vis_of rfl)) (se_int)) (sa_nil))) (se_callB call_sortA sortB_ok rfl fr.sorted PyProof.Rows.boot_sorted (sa_cons (se_ix (se_var (i := 9) rfl (vis_of rfl)) (se_int)) (sa_nil)))) (sb_one (ss_ret (se_bl))) (sb_nil)))))))))))) (sb_one (ss_ret (se_bl))))
end RSK

end
section
set_option Elab.async false
set_option linter.all false
set_option autoImplicit false
set_option maxRecDepth 100000
set_option maxHeartbeats 1000000
/-! K06A: what the program's defs compute. -/
namespace RSK
open PySem PySem.Spec PyProof.Rows L2 RS
/-! ### codes, stands -/
inductive Ins where
  | mv (k : Fin 3) (r q : Nat) | swap (r q : Nat) | cmp (k : Fin 4) (r q g : Nat) | jump (g : Nat) | call (n a b : Nat) (o : Option Nat) | ret (o : Option Nat)
def oD : Option Nat → PyData
  | none => .none
  | some r => .int r
def mvW : Fin 3 → Str
  | 0 => "move"
  | 1 => "step"
  | 2 => "back"
def cmpW : Fin 4 → Str
  | 0 => "same"
  | 1 => "ahead"
  | 2 => "atmost"
  | 3 => "below"
def Ins.d : Ins → PyData
  | .mv k r q => .tuple [.str (mvW k), .int r, .int q]
  | .swap r q => .tuple [.str "swap", .int r, .int q]
  | .cmp k r q g => .tuple [.str (cmpW k), .int r, .int q, .int g]
  | .jump g => .tuple [.str "jump", .int g]
  | .call n a b o => .tuple [.str "call", .int n, .tuple [.int a, .int b], oD o]
  | .ret o => .tuple [.str "ret", oD o]
structure Fn where
  many : Nat
  code : List Ins
def Fn.d (f : Fn) : PyData := .tuple [.int 2, .int f.many, .tuple (f.code.map Ins.d)]
def fnsD (F : List Fn) : PyData := .tuple (F.map Fn.d)
structure Frm where
  num : Nat
  at_ : Nat
  regs : List Int
  into : Option Nat
def intsD (l : List Int) : PyData := .tuple (l.map .int)
def Frm.d (f : Frm) : PyData := .tuple [.int f.num, .int f.at_, intsD f.regs, oD f.into]
def stD (fs : List Frm) (row : List Int) : PyData := .tuple [.tuple (fs.map Frm.d), intsD row]
/-! ### the small ones -/
theorem c_word_at (row : List Int) (p : Int) (M : Sto) : C_word_at [.d (intsD row), .d (.int p)] M = .ok (.d (.int (if 0 ≤ p ∧ p < row.length then row.getD p.toNat 0 else 0))) M := by
  simp [C_word_at, b_word_at, runC, intsD]
  by_cases h0 : 0 ≤ p
  · obtain ⟨n, rfl⟩ := Int.eq_ofNat_of_zero_le h0
    by_cases h : n < row.length
    · simp [h0, h, atN]
    · simp [h0, h]
  · simp [h0]
theorem line_lt {n : Nat} (h : n < 1000000) : n ≤ sizeLine := Nat.le_of_lt (Nat.lt_trans h line_big)
@[simp] theorem line4 : (4 ≤ sizeLine) = True := eq_true (line_lt (by decide))
@[simp] theorem line1 : (1 ≤ sizeLine) = True := eq_true (line_lt (by decide))
@[simp] theorem line3 : (3 ≤ sizeLine) = True := eq_true (line_lt (by decide))
@[simp] theorem line2 : (2 ≤ sizeLine) = True := eq_true (line_lt (by decide))
theorem c_with_frame (gs : List Frm) (f : Frm) (row : List Int) (a : Int) (rs : List Int) (M : Sto) (hl : gs.length < 100) : C_with_frame [.d (stD (gs ++ [f]) row), .d (.int a), .d (intsD rs)] M =
    .ok (.d (.tuple [.tuple (gs.map Frm.d ++ [.tuple [.int f.num, .int a, intsD rs, oD f.into]]), intsD row])) M := by
  have h1 : gs.length + 1 ≤ sizeLine := line_lt (by omega)
  simp [-List.map_map, -List.map_take, -List.map_drop, C_with_frame, b_with_frame, runC, stD, Tg.en, setAll, L2.atI_last, sl_init, intsD, Frm.d, h1]
theorem c_with_frame' (gs : List Frm) (f : Frm) (row : List Int) (a : Nat) (rs : List Int) (M : Sto) (hl : gs.length < 100) : C_with_frame [.d (stD (gs ++ [f]) row), .d (.int (a : Int)), .d (intsD rs)] M =
    .ok (.d (stD (gs ++ [{ f with at_ := a, regs := rs }]) row)) M := by
  rw [c_with_frame gs f row a rs M hl]
  simp [-List.map_map, -List.map_take, -List.map_drop, stD, Frm.d]
theorem c_with_reg0 (gs : List Frm) (f : Frm) (row : List Int) (u : U) (M : Sto) (hl : gs.length < 100) : C_with_register [.d (stD (gs ++ [f]) row), .d .none, u] M =
    .ok (.d (stD (gs ++ [{ f with at_ := f.at_ + 1 }]) row)) M := by
  have h1 := c_with_frame' gs f row (f.at_ + 1) f.regs M hl
  simp only [stD, List.map_append, List.map_cons, List.map_nil, Frm.d, intsD, Int.natCast_add, Int.natCast_one] at h1
  simp [-List.map_map, -List.map_take, -List.map_drop, C_with_register, b_with_register, runC, stD, Tg.en, setAll, L2.atI_last, intsD, Frm.d, h1]
theorem c_with_reg (gs : List Frm) (f : Frm) (row : List Int) (r : Nat) (p : Int) (M : Sto) (hl : gs.length < 100) (hr : r < f.regs.length) (hr2 : f.regs.length < 100) : C_with_register [.d (stD (gs ++ [f]) row), .d (.int r), .d (.int p)] M =
    .ok (.d (stD (gs ++ [{ f with at_ := f.at_ + 1, regs := f.regs.set r p }]) row)) M := by
  have h1 := c_with_frame' gs f row (f.at_ + 1) (f.regs.set r p) M hl
  have e : (f.regs.map PyData.int).take r ++ PyData.int p :: (f.regs.map PyData.int).drop (r + 1) = (f.regs.set r p).map PyData.int := by
    rw [← List.map_take, ← List.map_drop, ← List.map_cons, ← List.map_append, List.set_eq_take_append_cons_drop, if_pos hr]
  have s1 := sl_take (M := M) (f.regs.map PyData.int) r (by simpa using hr)
  have s2 := sl_drop (M := M) (f.regs.map PyData.int) (r + 1) (by omega) (by simp; omega)
  simp only [Int.natCast_add, Int.natCast_one] at s2
  have h2 : f.regs.length ≤ sizeLine := line_lt (by omega)
  simp only [stD, List.map_set, List.map_append, List.map_cons, List.map_nil, Frm.d, intsD, Int.natCast_add, Int.natCast_one] at h1
  simp [-List.map_map, -List.map_take, -List.map_drop, C_with_register, b_with_register, runC, stD, Tg.en, setAll, L2.atI_last, intsD, Frm.d, s1, s2, h2, e, h1]
theorem zeros (n : Nat) : (List.replicate n [PyData.int 0]).flatten = (List.replicate n (0 : Int)).map PyData.int := by
  induction n with
  | zero => rfl
  | succ n ih => simp [List.replicate_succ, ih]
theorem c_entered (F : List Fn) (n : Nat) (fn : Fn) (hF : F[n]? = some fn) (ps : List Int) (hp : ps ≠ []) (hm : ps.length ≤ fn.many) (hm2 : fn.many < 100) (x : PyData) (M : Sto) : C_entered [.d (fnsD F), .d (.int n), .d (intsD ps), .d x] M =
    .ok (.d (.tuple [.int n, .int 0, intsD (ps ++ List.replicate (fn.many - ps.length) 0), x])) M := by
  have h1 : mulU (.d (.tuple [.int 0])) (.d (.int ((fn.many : Int) - ps.length))) M = .ok (.d (.tuple ((List.replicate (fn.many - ps.length) (0 : Int)).map PyData.int))) M := by
    have e : ((fn.many : Int) - ps.length).toNat = fn.many - ps.length := by omega
    simp only [mulU]
    rw [if_pos ⟨by simp, by simp, by omega, by omega⟩, e, zeros]
  have h2 : addU (.d (.tuple (ps.map PyData.int))) (.d (.tuple ((List.replicate (fn.many - ps.length) (0 : Int)).map PyData.int))) M = .ok (.d (.tuple ((ps ++ List.replicate (fn.many - ps.length) 0).map PyData.int))) M := by
    simp only [addU]
    rw [if_pos ⟨by simpa using hp, line_lt (by simp; omega)⟩, List.map_append]
  have h3 : (F.map Fn.d)[n]? = some fn.d := by simp [hF]
  simp [-List.map_map, -List.map_append, -List.map_replicate, -List.getElem?_map, C_entered, b_entered, runC, fnsD, atN, h3, Fn.d, intsD, h1, h2]
theorem c_is_ended (k : Int) (r : List PyData) (fs : List PyData) (row : PyData) (M : Sto) : C_is_ended [.d (.tuple [.tuple (.tuple (.int k :: r) :: fs), row])] M = .ok (.d (.bool (decide (k = -1)))) M := by
  simp [-List.map_map, -List.map_take, -List.map_drop, C_is_ended, b_is_ended, runC]
theorem c_is_ended' (gs : List Frm) (f : Frm) (row : List Int) (M : Sto) : C_is_ended [.d (stD (gs ++ [f]) row)] M = .ok (.d (.bool false)) M := by
  cases gs with
  | nil =>
    have h := c_is_ended f.num [.int f.at_, intsD f.regs, oD f.into] [] (intsD row) M
    rw [decide_eq_false (by omega)] at h
    exact h
  | cons g gs =>
    have h := c_is_ended g.num [.int g.at_, intsD g.regs, oD g.into] ((gs ++ [f]).map Frm.d) (intsD row) M
    rw [decide_eq_false (by omega)] at h
    exact h
theorem c_instr (F : List Fn) (gs : List Frm) (f : Frm) (row : List Int) (fn : Fn) (i : Ins) (hF : F[f.num]? = some fn) (hi : fn.code[f.at_]? = some i) (M : Sto) : C_instruction_at [.d (fnsD F), .d (stD (gs ++ [f]) row)] M = .ok (.d i.d) M := by
  have h := c_is_ended' gs f row M
  have s1 : slU (.d (.tuple [.int f.num, .int f.at_, intsD f.regs, oD f.into])) none (some 2) M = .ok (.d (.tuple [.int f.num, .int f.at_])) M := sl_take _ 2 (by simp)
  have h3 : (F.map Fn.d)[f.num]? = some fn.d := by simp [hF]
  have h4 : (fn.code.map Ins.d)[f.at_]? = some i.d := by simp [hi]
  simp only [stD, List.map_append, List.map_cons, List.map_nil, Frm.d, intsD] at h s1
  simp [-List.map_map, -List.getElem?_map, C_instruction_at, b_instruction_at, runC, Tg.en, setAll, stD, L2.atI_last, Frm.d, intsD, h, s1, fnsD, atN, h3, h4, Fn.d]
theorem c_instr0 (F U0 : U) (place : PyData) (regs row : PyData) (M : Sto) : C_instruction_at [F, .d (.tuple [.tuple [.tuple [.int (-1), place, regs, .none]], row])] M = .ex "Nothing" [] M := by
  have h := c_is_ended (-1) [place, regs, .none] [] row M
  simp [C_instruction_at, b_instruction_at, runC, h]
theorem c_begin (F : List Fn) (n : Nat) (fn : Fn) (hF : F[n]? = some fn) (a b : Int) (row : List Int) (hm : 2 ≤ fn.many) (hm2 : fn.many < 100) (M : Sto) : C_begin [.d (fnsD F), .d (.int n), .d (intsD row), .d (intsD [a, b])] M =
    .ok (.d (stD [⟨n, 0, a :: b :: List.replicate (fn.many - 2) 0, none⟩] row)) M := by
  have h := c_entered F n fn hF [a, b] (by simp) hm hm2 .none M
  have h3 : (F.map Fn.d)[n]? = some fn.d := by simp [hF]
  have hn : n < F.length := (List.getElem?_eq_some_iff.mp hF).1
  simp only [fnsD, intsD, List.map_cons, List.map_nil, List.length_cons, List.length_nil, List.cons_append, List.nil_append, List.map_replicate] at h
  simp [-List.map_map, -List.getElem?_map, C_begin, b_begin, runC, fnsD, atN, h3, Fn.d, intsD, h, hn, stD, Frm.d, oD]
def endD (place : PyData) (regs row : List Int) : PyData := .tuple [.tuple [.tuple [.int (-1), place, intsD regs, .none]], intsD row]
theorem c_end_of0 (gs : List Frm) (f : Frm) (row : List Int) (M : Sto) : C_end_of [.d (stD (gs ++ [f]) row)] M = .ex "Nothing" [] M := by
  have h := c_is_ended' gs f row M
  simp [C_end_of, b_end_of, runC, h]
theorem c_end_of (place : PyData) (regs row : List Int) (M : Sto) : C_end_of [.d (endD place regs row)] M = .ok (.d (.tuple [intsD row, place])) M := by
  have h := c_is_ended (-1) [place, intsD regs, .none] [] (intsD row) M
  simp [C_end_of, b_end_of, runC, h, endD]
theorem c_ended (place : PyData) (regs row : List Int) (M : Sto) : C_is_ended [.d (endD place regs row)] M = .ok (.d (.bool true)) M := by
  have h := c_is_ended (-1) [place, intsD regs, .none] [] (intsD row) M
  simpa [endD] using h
def swapP (row : List Int) (x y : Int) : List Int := if (0 ≤ x ∧ x < row.length) ∧ 0 ≤ y ∧ y < row.length then (row.set x.toNat (row.getD y.toNat 0)).set y.toNat (row.getD x.toNat 0) else row
theorem set_new (M : Sto) (x y : Ob) : (M ++ [x]).set M.length y = M ++ [y] := by
  rw [List.set_append_right _ _ (Nat.le_refl _), Nat.sub_self]
  rfl
theorem setU_at {M : Sto} {l : Nat} {us : List U} (h : M[l]? = some (.lst us)) (n : Nat) (hn : n < us.length) (v : U) : setU (.r l) (.d (.int n)) v M = some (M.set l (.lst (us.set n v))) := by
  have e : ixN us.length (n : Int) = some n := by
    unfold ixN
    rw [if_pos (by omega), if_pos (by omega)]
    simp
  simp only [setU, h, e]
theorem c_swapped (row : List Int) (x y : Int) (M : Sto) : ∃ J, C_swapped [.d (intsD row), .d (.int x), .d (.int y)] M = .ok (.d (intsD (swapP row x y))) (M ++ J) := by
  by_cases hx : 0 ≤ x ∧ x < row.length
  · by_cases hy : 0 ≤ y ∧ y < row.length
    · refine ⟨[.lst (((swapP row x y).map PyData.int).map U.d)], ?_⟩
      obtain ⟨n, rfl⟩ := Int.eq_ofNat_of_zero_le hx.1
      obtain ⟨m, rfl⟩ := Int.eq_ofNat_of_zero_le hy.1
      have hn : n < row.length := by omega
      have hm : m < row.length := by omega
      have e1 := setU_at (M := M ++ [.lst ((row.map PyData.int).map U.d)]) (l := M.length) (us := (row.map PyData.int).map U.d) (by simp) n (by simpa using hn) (.d (.int row[m]))
      rw [set_new] at e1
      have e2 := setU_at (M := M ++ [.lst (((row.map PyData.int).map U.d).set n (.d (.int row[m])))]) (l := M.length) (us := ((row.map PyData.int).map U.d).set n (.d (.int row[m]))) (by simp) m (by simpa using hm) (.d (.int row[n]))
      rw [set_new] at e2
      have e3 : swapP row n m = (row.set n row[m]).set m row[n] := by
        unfold swapP
        rw [if_pos ⟨by omega, by omega⟩]
        simp [hn, hm]
      simp [-List.map_map, C_swapped, b_swapped, runC, intsD, hx.1, hx.2, hy.1, hy.2, atN, hn, hm, Tg.en, e1, e2, e3]
      have e4 : ((((row.map PyData.int).map U.d).set n (.d (.int row[m]))).set m (.d (.int row[n]))) = (((row.map PyData.int).set n (.int row[m])).set m (.int row[n])).map U.d := by
        rw [List.map_set, List.map_set]
      rw [e4]
      simp [-List.map_map, -List.map_set]
    · refine ⟨[], ?_⟩
      have e3 : swapP row x y = row := by unfold swapP; rw [if_neg (by omega)]
      rw [e3]
      by_cases h0 : 0 ≤ y
      · have h1 : ¬ y < row.length := fun z => hy ⟨h0, z⟩
        simp [-List.map_map, C_swapped, b_swapped, runC, intsD, hx.1, hx.2, h0, h1]
      · simp [-List.map_map, C_swapped, b_swapped, runC, intsD, hx.1, hx.2, h0]
  · refine ⟨[], ?_⟩
    have e3 : swapP row x y = row := by unfold swapP; rw [if_neg (by omega)]
    rw [e3]
    by_cases h0 : 0 ≤ x
    · have h1 : ¬ x < row.length := fun z => hx ⟨h0, z⟩
      simp [-List.map_map, C_swapped, b_swapped, runC, intsD, h0, h1]
    · simp [-List.map_map, C_swapped, b_swapped, runC, intsD, h0]
/-! ### steps -/
def reg (f : Frm) (q : Nat) : Int := f.regs.getD q 0
def mvI : Fin 3 → Int
  | 0 => 0
  | 1 => 1
  | 2 => -1
def cellP (row : List Int) (p : Int) : Int := if 0 ≤ p ∧ p < row.length then row.getD p.toNat 0 else 0
def cmpP (k : Fin 4) (row : List Int) (x y : Int) : Bool := match k with
  | 0 => decide (x = y)
  | 1 => decide (x < y)
  | 2 => decide (cellP row x ≤ cellP row y)
  | 3 => decide (cellP row x < cellP row y)
def adv (f : Frm) : Frm := { f with at_ := f.at_ + 1 }
inductive Nxt where
  | go (fs : List Frm) (row : List Int) | done (place : PyData) (regs row : List Int)
def Nxt.d : Nxt → PyData
  | .go fs row => stD fs row
  | .done p regs row => endD p regs row
def optI (f : Frm) : Option Nat → PyData
  | none => .none
  | some q => .int (reg f q)
def retP (gs : List Frm) (f : Frm) (row : List Int) (o : Option Nat) : Nxt := match gs.getLast? with
  | none => .done (optI f o) f.regs row
  | some g => match f.into with
    | none => .go gs row
    | some r => .go (gs.dropLast ++ [{ g with regs := g.regs.set r (reg f (o.getD 0)) }]) row
def stepP (F : List Fn) (gs : List Frm) (f : Frm) (row : List Int) : Ins → Nxt
  | .mv k r q => .go (gs ++ [{ adv f with regs := f.regs.set r (reg f q + mvI k) }]) row
  | .swap r q => .go (gs ++ [adv f]) (swapP row (reg f r) (reg f q))
  | .cmp k r q g => .go (gs ++ [if cmpP k row (reg f r) (reg f q) then { f with at_ := g } else adv f]) row
  | .jump g => .go (gs ++ [{ f with at_ := g }]) row
  | .call n a b o => .go (gs ++ [adv f, ⟨n, 0, reg f a :: reg f b :: List.replicate ((F.getD n ⟨2, []⟩).many - 2) 0, o⟩]) row
  | .ret o => retP gs f row o
/-- an instruction fits a def of m registers, size g, among the defs F -/
def Ins.ok (F : List Fn) (m s : Nat) : Ins → Prop
  | .mv _ r q => r < m ∧ q < m
  | .swap r q => r < m ∧ q < m
  | .cmp _ r q g => r < m ∧ q < m ∧ g < s
  | .jump g => g < s
  | .call n a b o => n < F.length ∧ a < m ∧ b < m ∧ ∀ r, o = some r → r < m
  | .ret o => ∀ r, o = some r → r < m
end RSK

end
section
set_option Elab.async false
set_option linter.all false
set_option autoImplicit false
set_option maxRecDepth 100000
set_option maxHeartbeats 1000000
namespace RSK
open PySem PySem.Spec PyProof.Rows L2 RS
/-! ### words -/
def wordB (a b : Str) : Bool := SeqAt.shaped (.str a) && (SeqAt.shaped (.str b) && (PyData.eqv (.str a) (.str b) == decide (a = b)))
theorem u_eqS {a b : Str} (h : wordB a b = true) (M : Sto) : eqU' false (.d (.str a)) (.d (.str b)) M = .ok (.d (.bool (decide (a = b)))) M := by
  simp only [wordB, Bool.and_eq_true, beq_iff_eq] at h
  obtain ⟨h1, h2, h3⟩ := h
  show (if (SeqAt.shaped (.str a) && SeqAt.shaped (.str b)) = true then R.ok (U.d (.bool (if false = true then !PyData.eqv (.str a) (.str b) else PyData.eqv (.str a) (.str b)))) M else R.bad) = _
  rw [h1, h2, h3]
  rfl
def allW : List Str := ["move", "step", "back", "swap", "same", "ahead", "atmost", "below", "jump", "call", "ret"]
theorem allW_ok : (allW.all fun a => allW.all fun b => wordB a b) = true := by decide +kernel
theorem eqW {a b : Str} (ha : a ∈ allW) (hb : b ∈ allW) (M : Sto) : eqU' false (.d (.str a)) (.d (.str b)) M = .ok (.d (.bool (decide (a = b)))) M :=
  u_eqS (List.all_eq_true.mp (List.all_eq_true.mp allW_ok a ha) b hb) M
theorem eqWy {a : Str} (ha : allW.contains a = true) (M : Sto) : eqU' false (.d (.str a)) (.d (.str a)) M = .ok (.d (.bool true)) M := by
  rw [eqW (List.contains_iff_mem.mp ha) (List.contains_iff_mem.mp ha), decide_eq_true rfl]
theorem eqWn {a b : Str} (h : (allW.contains a && allW.contains b && !decide (a = b)) = true) (M : Sto) : eqU' false (.d (.str a)) (.d (.str b)) M = .ok (.d (.bool false)) M := by
  simp only [Bool.and_eq_true, Bool.not_eq_true'] at h
  rw [eqW (List.contains_iff_mem.mp h.1.1) (List.contains_iff_mem.mp h.1.2), h.2]
theorem inW {a : Str} {xs : List PyData} {b : Bool} {M : Sto} (h1 : (flatD (.str a) && xs.all flatD) = true) (h2 : xs.any (fun y => PyData.eqv y (.str a)) = b) : inU false (.d (.str a)) (.d (.tuple xs)) M = .ok (.d (.bool b)) M := by
  unfold inU
  simp only [u_itT, u_asM]
  rw [if_pos h1, h2]
  rfl
@[simp] theorem w_move_swap (M : Sto) : eqU' false (.d (.str "move")) (.d (.str "swap")) M = .ok (.d (.bool false)) M := eqWn (by decide) M
@[simp] theorem w_move_call (M : Sto) : eqU' false (.d (.str "move")) (.d (.str "call")) M = .ok (.d (.bool false)) M := eqWn (by decide) M
@[simp] theorem w_move_ret (M : Sto) : eqU' false (.d (.str "move")) (.d (.str "ret")) M = .ok (.d (.bool false)) M := eqWn (by decide) M
@[simp] theorem w_move_jump (M : Sto) : eqU' false (.d (.str "move")) (.d (.str "jump")) M = .ok (.d (.bool false)) M := eqWn (by decide) M
@[simp] theorem w_move_same (M : Sto) : eqU' false (.d (.str "move")) (.d (.str "same")) M = .ok (.d (.bool false)) M := eqWn (by decide) M
@[simp] theorem w_move_ahead (M : Sto) : eqU' false (.d (.str "move")) (.d (.str "ahead")) M = .ok (.d (.bool false)) M := eqWn (by decide) M
@[simp] theorem w_move_atmost (M : Sto) : eqU' false (.d (.str "move")) (.d (.str "atmost")) M = .ok (.d (.bool false)) M := eqWn (by decide) M
@[simp] theorem w_step_swap (M : Sto) : eqU' false (.d (.str "step")) (.d (.str "swap")) M = .ok (.d (.bool false)) M := eqWn (by decide) M
@[simp] theorem w_step_call (M : Sto) : eqU' false (.d (.str "step")) (.d (.str "call")) M = .ok (.d (.bool false)) M := eqWn (by decide) M
@[simp] theorem w_step_ret (M : Sto) : eqU' false (.d (.str "step")) (.d (.str "ret")) M = .ok (.d (.bool false)) M := eqWn (by decide) M
@[simp] theorem w_step_jump (M : Sto) : eqU' false (.d (.str "step")) (.d (.str "jump")) M = .ok (.d (.bool false)) M := eqWn (by decide) M
@[simp] theorem w_step_same (M : Sto) : eqU' false (.d (.str "step")) (.d (.str "same")) M = .ok (.d (.bool false)) M := eqWn (by decide) M
@[simp] theorem w_step_ahead (M : Sto) : eqU' false (.d (.str "step")) (.d (.str "ahead")) M = .ok (.d (.bool false)) M := eqWn (by decide) M
@[simp] theorem w_step_atmost (M : Sto) : eqU' false (.d (.str "step")) (.d (.str "atmost")) M = .ok (.d (.bool false)) M := eqWn (by decide) M
@[simp] theorem w_back_swap (M : Sto) : eqU' false (.d (.str "back")) (.d (.str "swap")) M = .ok (.d (.bool false)) M := eqWn (by decide) M
@[simp] theorem w_back_call (M : Sto) : eqU' false (.d (.str "back")) (.d (.str "call")) M = .ok (.d (.bool false)) M := eqWn (by decide) M
@[simp] theorem w_back_ret (M : Sto) : eqU' false (.d (.str "back")) (.d (.str "ret")) M = .ok (.d (.bool false)) M := eqWn (by decide) M
@[simp] theorem w_back_jump (M : Sto) : eqU' false (.d (.str "back")) (.d (.str "jump")) M = .ok (.d (.bool false)) M := eqWn (by decide) M
@[simp] theorem w_back_same (M : Sto) : eqU' false (.d (.str "back")) (.d (.str "same")) M = .ok (.d (.bool false)) M := eqWn (by decide) M
@[simp] theorem w_back_ahead (M : Sto) : eqU' false (.d (.str "back")) (.d (.str "ahead")) M = .ok (.d (.bool false)) M := eqWn (by decide) M
@[simp] theorem w_back_atmost (M : Sto) : eqU' false (.d (.str "back")) (.d (.str "atmost")) M = .ok (.d (.bool false)) M := eqWn (by decide) M
@[simp] theorem w_swap_swap (M : Sto) : eqU' false (.d (.str "swap")) (.d (.str "swap")) M = .ok (.d (.bool true)) M := eqWy (by decide) M
@[simp] theorem w_swap_call (M : Sto) : eqU' false (.d (.str "swap")) (.d (.str "call")) M = .ok (.d (.bool false)) M := eqWn (by decide) M
@[simp] theorem w_swap_ret (M : Sto) : eqU' false (.d (.str "swap")) (.d (.str "ret")) M = .ok (.d (.bool false)) M := eqWn (by decide) M
@[simp] theorem w_swap_jump (M : Sto) : eqU' false (.d (.str "swap")) (.d (.str "jump")) M = .ok (.d (.bool false)) M := eqWn (by decide) M
@[simp] theorem w_swap_same (M : Sto) : eqU' false (.d (.str "swap")) (.d (.str "same")) M = .ok (.d (.bool false)) M := eqWn (by decide) M
@[simp] theorem w_swap_ahead (M : Sto) : eqU' false (.d (.str "swap")) (.d (.str "ahead")) M = .ok (.d (.bool false)) M := eqWn (by decide) M
@[simp] theorem w_swap_atmost (M : Sto) : eqU' false (.d (.str "swap")) (.d (.str "atmost")) M = .ok (.d (.bool false)) M := eqWn (by decide) M
@[simp] theorem w_same_swap (M : Sto) : eqU' false (.d (.str "same")) (.d (.str "swap")) M = .ok (.d (.bool false)) M := eqWn (by decide) M
@[simp] theorem w_same_call (M : Sto) : eqU' false (.d (.str "same")) (.d (.str "call")) M = .ok (.d (.bool false)) M := eqWn (by decide) M
@[simp] theorem w_same_ret (M : Sto) : eqU' false (.d (.str "same")) (.d (.str "ret")) M = .ok (.d (.bool false)) M := eqWn (by decide) M
@[simp] theorem w_same_jump (M : Sto) : eqU' false (.d (.str "same")) (.d (.str "jump")) M = .ok (.d (.bool false)) M := eqWn (by decide) M
@[simp] theorem w_same_same (M : Sto) : eqU' false (.d (.str "same")) (.d (.str "same")) M = .ok (.d (.bool true)) M := eqWy (by decide) M
@[simp] theorem w_same_ahead (M : Sto) : eqU' false (.d (.str "same")) (.d (.str "ahead")) M = .ok (.d (.bool false)) M := eqWn (by decide) M
@[simp] theorem w_same_atmost (M : Sto) : eqU' false (.d (.str "same")) (.d (.str "atmost")) M = .ok (.d (.bool false)) M := eqWn (by decide) M
@[simp] theorem w_ahead_swap (M : Sto) : eqU' false (.d (.str "ahead")) (.d (.str "swap")) M = .ok (.d (.bool false)) M := eqWn (by decide) M
@[simp] theorem w_ahead_call (M : Sto) : eqU' false (.d (.str "ahead")) (.d (.str "call")) M = .ok (.d (.bool false)) M := eqWn (by decide) M
@[simp] theorem w_ahead_ret (M : Sto) : eqU' false (.d (.str "ahead")) (.d (.str "ret")) M = .ok (.d (.bool false)) M := eqWn (by decide) M
@[simp] theorem w_ahead_jump (M : Sto) : eqU' false (.d (.str "ahead")) (.d (.str "jump")) M = .ok (.d (.bool false)) M := eqWn (by decide) M
@[simp] theorem w_ahead_same (M : Sto) : eqU' false (.d (.str "ahead")) (.d (.str "same")) M = .ok (.d (.bool false)) M := eqWn (by decide) M
@[simp] theorem w_ahead_ahead (M : Sto) : eqU' false (.d (.str "ahead")) (.d (.str "ahead")) M = .ok (.d (.bool true)) M := eqWy (by decide) M
@[simp] theorem w_ahead_atmost (M : Sto) : eqU' false (.d (.str "ahead")) (.d (.str "atmost")) M = .ok (.d (.bool false)) M := eqWn (by decide) M
@[simp] theorem w_atmost_swap (M : Sto) : eqU' false (.d (.str "atmost")) (.d (.str "swap")) M = .ok (.d (.bool false)) M := eqWn (by decide) M
@[simp] theorem w_atmost_call (M : Sto) : eqU' false (.d (.str "atmost")) (.d (.str "call")) M = .ok (.d (.bool false)) M := eqWn (by decide) M
@[simp] theorem w_atmost_ret (M : Sto) : eqU' false (.d (.str "atmost")) (.d (.str "ret")) M = .ok (.d (.bool false)) M := eqWn (by decide) M
@[simp] theorem w_atmost_jump (M : Sto) : eqU' false (.d (.str "atmost")) (.d (.str "jump")) M = .ok (.d (.bool false)) M := eqWn (by decide) M
@[simp] theorem w_atmost_same (M : Sto) : eqU' false (.d (.str "atmost")) (.d (.str "same")) M = .ok (.d (.bool false)) M := eqWn (by decide) M
@[simp] theorem w_atmost_ahead (M : Sto) : eqU' false (.d (.str "atmost")) (.d (.str "ahead")) M = .ok (.d (.bool false)) M := eqWn (by decide) M
@[simp] theorem w_atmost_atmost (M : Sto) : eqU' false (.d (.str "atmost")) (.d (.str "atmost")) M = .ok (.d (.bool true)) M := eqWy (by decide) M
@[simp] theorem w_below_swap (M : Sto) : eqU' false (.d (.str "below")) (.d (.str "swap")) M = .ok (.d (.bool false)) M := eqWn (by decide) M
@[simp] theorem w_below_call (M : Sto) : eqU' false (.d (.str "below")) (.d (.str "call")) M = .ok (.d (.bool false)) M := eqWn (by decide) M
@[simp] theorem w_below_ret (M : Sto) : eqU' false (.d (.str "below")) (.d (.str "ret")) M = .ok (.d (.bool false)) M := eqWn (by decide) M
@[simp] theorem w_below_jump (M : Sto) : eqU' false (.d (.str "below")) (.d (.str "jump")) M = .ok (.d (.bool false)) M := eqWn (by decide) M
@[simp] theorem w_below_same (M : Sto) : eqU' false (.d (.str "below")) (.d (.str "same")) M = .ok (.d (.bool false)) M := eqWn (by decide) M
@[simp] theorem w_below_ahead (M : Sto) : eqU' false (.d (.str "below")) (.d (.str "ahead")) M = .ok (.d (.bool false)) M := eqWn (by decide) M
@[simp] theorem w_below_atmost (M : Sto) : eqU' false (.d (.str "below")) (.d (.str "atmost")) M = .ok (.d (.bool false)) M := eqWn (by decide) M
@[simp] theorem w_jump_swap (M : Sto) : eqU' false (.d (.str "jump")) (.d (.str "swap")) M = .ok (.d (.bool false)) M := eqWn (by decide) M
@[simp] theorem w_jump_call (M : Sto) : eqU' false (.d (.str "jump")) (.d (.str "call")) M = .ok (.d (.bool false)) M := eqWn (by decide) M
@[simp] theorem w_jump_ret (M : Sto) : eqU' false (.d (.str "jump")) (.d (.str "ret")) M = .ok (.d (.bool false)) M := eqWn (by decide) M
@[simp] theorem w_jump_jump (M : Sto) : eqU' false (.d (.str "jump")) (.d (.str "jump")) M = .ok (.d (.bool true)) M := eqWy (by decide) M
@[simp] theorem w_jump_same (M : Sto) : eqU' false (.d (.str "jump")) (.d (.str "same")) M = .ok (.d (.bool false)) M := eqWn (by decide) M
@[simp] theorem w_jump_ahead (M : Sto) : eqU' false (.d (.str "jump")) (.d (.str "ahead")) M = .ok (.d (.bool false)) M := eqWn (by decide) M
@[simp] theorem w_jump_atmost (M : Sto) : eqU' false (.d (.str "jump")) (.d (.str "atmost")) M = .ok (.d (.bool false)) M := eqWn (by decide) M
@[simp] theorem w_call_swap (M : Sto) : eqU' false (.d (.str "call")) (.d (.str "swap")) M = .ok (.d (.bool false)) M := eqWn (by decide) M
@[simp] theorem w_call_call (M : Sto) : eqU' false (.d (.str "call")) (.d (.str "call")) M = .ok (.d (.bool true)) M := eqWy (by decide) M
@[simp] theorem w_call_ret (M : Sto) : eqU' false (.d (.str "call")) (.d (.str "ret")) M = .ok (.d (.bool false)) M := eqWn (by decide) M
@[simp] theorem w_call_jump (M : Sto) : eqU' false (.d (.str "call")) (.d (.str "jump")) M = .ok (.d (.bool false)) M := eqWn (by decide) M
@[simp] theorem w_call_same (M : Sto) : eqU' false (.d (.str "call")) (.d (.str "same")) M = .ok (.d (.bool false)) M := eqWn (by decide) M
@[simp] theorem w_call_ahead (M : Sto) : eqU' false (.d (.str "call")) (.d (.str "ahead")) M = .ok (.d (.bool false)) M := eqWn (by decide) M
@[simp] theorem w_call_atmost (M : Sto) : eqU' false (.d (.str "call")) (.d (.str "atmost")) M = .ok (.d (.bool false)) M := eqWn (by decide) M
@[simp] theorem w_ret_swap (M : Sto) : eqU' false (.d (.str "ret")) (.d (.str "swap")) M = .ok (.d (.bool false)) M := eqWn (by decide) M
@[simp] theorem w_ret_call (M : Sto) : eqU' false (.d (.str "ret")) (.d (.str "call")) M = .ok (.d (.bool false)) M := eqWn (by decide) M
@[simp] theorem w_ret_ret (M : Sto) : eqU' false (.d (.str "ret")) (.d (.str "ret")) M = .ok (.d (.bool true)) M := eqWy (by decide) M
@[simp] theorem w_ret_jump (M : Sto) : eqU' false (.d (.str "ret")) (.d (.str "jump")) M = .ok (.d (.bool false)) M := eqWn (by decide) M
@[simp] theorem w_ret_same (M : Sto) : eqU' false (.d (.str "ret")) (.d (.str "same")) M = .ok (.d (.bool false)) M := eqWn (by decide) M
@[simp] theorem w_ret_ahead (M : Sto) : eqU' false (.d (.str "ret")) (.d (.str "ahead")) M = .ok (.d (.bool false)) M := eqWn (by decide) M
@[simp] theorem w_ret_atmost (M : Sto) : eqU' false (.d (.str "ret")) (.d (.str "atmost")) M = .ok (.d (.bool false)) M := eqWn (by decide) M
@[simp] theorem lk_move : List.lookup ("move" : Str) [(("move" : Str), (0 : Int)), ("step", 1), ("back", -1)] = some (0) := by decide
@[simp] theorem lk_step : List.lookup ("step" : Str) [(("move" : Str), (0 : Int)), ("step", 1), ("back", -1)] = some (1) := by decide
@[simp] theorem lk_back : List.lookup ("back" : Str) [(("move" : Str), (0 : Int)), ("step", 1), ("back", -1)] = some (-1) := by decide
@[simp] theorem lk_swap : List.lookup ("swap" : Str) [(("move" : Str), (0 : Int)), ("step", 1), ("back", -1)] = none := by decide
@[simp] theorem lk_same : List.lookup ("same" : Str) [(("move" : Str), (0 : Int)), ("step", 1), ("back", -1)] = none := by decide
@[simp] theorem lk_ahead : List.lookup ("ahead" : Str) [(("move" : Str), (0 : Int)), ("step", 1), ("back", -1)] = none := by decide
@[simp] theorem lk_atmost : List.lookup ("atmost" : Str) [(("move" : Str), (0 : Int)), ("step", 1), ("back", -1)] = none := by decide
@[simp] theorem lk_below : List.lookup ("below" : Str) [(("move" : Str), (0 : Int)), ("step", 1), ("back", -1)] = none := by decide
@[simp] theorem lk_jump : List.lookup ("jump" : Str) [(("move" : Str), (0 : Int)), ("step", 1), ("back", -1)] = none := by decide
@[simp] theorem lk_call : List.lookup ("call" : Str) [(("move" : Str), (0 : Int)), ("step", 1), ("back", -1)] = none := by decide
@[simp] theorem lk_ret : List.lookup ("ret" : Str) [(("move" : Str), (0 : Int)), ("step", 1), ("back", -1)] = none := by decide
@[simp] theorem in_cells_move (M : Sto) : inU false (.d (.str "move")) (.d (.tuple [.str "swap", .str "atmost", .str "below"])) M = .ok (.d (.bool false)) M := inW (by decide +kernel) (by decide +kernel)
@[simp] theorem in_cells_step (M : Sto) : inU false (.d (.str "step")) (.d (.tuple [.str "swap", .str "atmost", .str "below"])) M = .ok (.d (.bool false)) M := inW (by decide +kernel) (by decide +kernel)
@[simp] theorem in_cells_back (M : Sto) : inU false (.d (.str "back")) (.d (.tuple [.str "swap", .str "atmost", .str "below"])) M = .ok (.d (.bool false)) M := inW (by decide +kernel) (by decide +kernel)
@[simp] theorem in_cells_swap (M : Sto) : inU false (.d (.str "swap")) (.d (.tuple [.str "swap", .str "atmost", .str "below"])) M = .ok (.d (.bool true)) M := inW (by decide +kernel) (by decide +kernel)
@[simp] theorem in_cells_same (M : Sto) : inU false (.d (.str "same")) (.d (.tuple [.str "swap", .str "atmost", .str "below"])) M = .ok (.d (.bool false)) M := inW (by decide +kernel) (by decide +kernel)
@[simp] theorem in_cells_ahead (M : Sto) : inU false (.d (.str "ahead")) (.d (.tuple [.str "swap", .str "atmost", .str "below"])) M = .ok (.d (.bool false)) M := inW (by decide +kernel) (by decide +kernel)
@[simp] theorem in_cells_atmost (M : Sto) : inU false (.d (.str "atmost")) (.d (.tuple [.str "swap", .str "atmost", .str "below"])) M = .ok (.d (.bool true)) M := inW (by decide +kernel) (by decide +kernel)
@[simp] theorem in_cells_below (M : Sto) : inU false (.d (.str "below")) (.d (.tuple [.str "swap", .str "atmost", .str "below"])) M = .ok (.d (.bool true)) M := inW (by decide +kernel) (by decide +kernel)
@[simp] theorem in_cells_jump (M : Sto) : inU false (.d (.str "jump")) (.d (.tuple [.str "swap", .str "atmost", .str "below"])) M = .ok (.d (.bool false)) M := inW (by decide +kernel) (by decide +kernel)
@[simp] theorem in_cells_call (M : Sto) : inU false (.d (.str "call")) (.d (.tuple [.str "swap", .str "atmost", .str "below"])) M = .ok (.d (.bool false)) M := inW (by decide +kernel) (by decide +kernel)
@[simp] theorem in_cells_ret (M : Sto) : inU false (.d (.str "ret")) (.d (.tuple [.str "swap", .str "atmost", .str "below"])) M = .ok (.d (.bool false)) M := inW (by decide +kernel) (by decide +kernel)
@[simp] theorem in_steps_move (M : Sto) : inU false (.d (.str "move")) (.d (.tuple [.str "move", .str "step", .str "back"])) M = .ok (.d (.bool true)) M := inW (by decide +kernel) (by decide +kernel)
@[simp] theorem in_steps_step (M : Sto) : inU false (.d (.str "step")) (.d (.tuple [.str "move", .str "step", .str "back"])) M = .ok (.d (.bool true)) M := inW (by decide +kernel) (by decide +kernel)
@[simp] theorem in_steps_back (M : Sto) : inU false (.d (.str "back")) (.d (.tuple [.str "move", .str "step", .str "back"])) M = .ok (.d (.bool true)) M := inW (by decide +kernel) (by decide +kernel)
@[simp] theorem in_steps_swap (M : Sto) : inU false (.d (.str "swap")) (.d (.tuple [.str "move", .str "step", .str "back"])) M = .ok (.d (.bool false)) M := inW (by decide +kernel) (by decide +kernel)
@[simp] theorem in_steps_same (M : Sto) : inU false (.d (.str "same")) (.d (.tuple [.str "move", .str "step", .str "back"])) M = .ok (.d (.bool false)) M := inW (by decide +kernel) (by decide +kernel)
@[simp] theorem in_steps_ahead (M : Sto) : inU false (.d (.str "ahead")) (.d (.tuple [.str "move", .str "step", .str "back"])) M = .ok (.d (.bool false)) M := inW (by decide +kernel) (by decide +kernel)
@[simp] theorem in_steps_atmost (M : Sto) : inU false (.d (.str "atmost")) (.d (.tuple [.str "move", .str "step", .str "back"])) M = .ok (.d (.bool false)) M := inW (by decide +kernel) (by decide +kernel)
@[simp] theorem in_steps_below (M : Sto) : inU false (.d (.str "below")) (.d (.tuple [.str "move", .str "step", .str "back"])) M = .ok (.d (.bool false)) M := inW (by decide +kernel) (by decide +kernel)
@[simp] theorem in_steps_jump (M : Sto) : inU false (.d (.str "jump")) (.d (.tuple [.str "move", .str "step", .str "back"])) M = .ok (.d (.bool false)) M := inW (by decide +kernel) (by decide +kernel)
@[simp] theorem in_steps_call (M : Sto) : inU false (.d (.str "call")) (.d (.tuple [.str "move", .str "step", .str "back"])) M = .ok (.d (.bool false)) M := inW (by decide +kernel) (by decide +kernel)
@[simp] theorem in_steps_ret (M : Sto) : inU false (.d (.str "ret")) (.d (.tuple [.str "move", .str "step", .str "back"])) M = .ok (.d (.bool false)) M := inW (by decide +kernel) (by decide +kernel)
@[simp] theorem in_rows_move (M : Sto) : inU false (.d (.str "move")) (.d (.tuple [.str "atmost", .str "below"])) M = .ok (.d (.bool false)) M := inW (by decide +kernel) (by decide +kernel)
@[simp] theorem in_rows_step (M : Sto) : inU false (.d (.str "step")) (.d (.tuple [.str "atmost", .str "below"])) M = .ok (.d (.bool false)) M := inW (by decide +kernel) (by decide +kernel)
@[simp] theorem in_rows_back (M : Sto) : inU false (.d (.str "back")) (.d (.tuple [.str "atmost", .str "below"])) M = .ok (.d (.bool false)) M := inW (by decide +kernel) (by decide +kernel)
@[simp] theorem in_rows_swap (M : Sto) : inU false (.d (.str "swap")) (.d (.tuple [.str "atmost", .str "below"])) M = .ok (.d (.bool false)) M := inW (by decide +kernel) (by decide +kernel)
@[simp] theorem in_rows_same (M : Sto) : inU false (.d (.str "same")) (.d (.tuple [.str "atmost", .str "below"])) M = .ok (.d (.bool false)) M := inW (by decide +kernel) (by decide +kernel)
@[simp] theorem in_rows_ahead (M : Sto) : inU false (.d (.str "ahead")) (.d (.tuple [.str "atmost", .str "below"])) M = .ok (.d (.bool false)) M := inW (by decide +kernel) (by decide +kernel)
@[simp] theorem in_rows_atmost (M : Sto) : inU false (.d (.str "atmost")) (.d (.tuple [.str "atmost", .str "below"])) M = .ok (.d (.bool true)) M := inW (by decide +kernel) (by decide +kernel)
@[simp] theorem in_rows_below (M : Sto) : inU false (.d (.str "below")) (.d (.tuple [.str "atmost", .str "below"])) M = .ok (.d (.bool true)) M := inW (by decide +kernel) (by decide +kernel)
@[simp] theorem in_rows_jump (M : Sto) : inU false (.d (.str "jump")) (.d (.tuple [.str "atmost", .str "below"])) M = .ok (.d (.bool false)) M := inW (by decide +kernel) (by decide +kernel)
@[simp] theorem in_rows_call (M : Sto) : inU false (.d (.str "call")) (.d (.tuple [.str "atmost", .str "below"])) M = .ok (.d (.bool false)) M := inW (by decide +kernel) (by decide +kernel)
@[simp] theorem in_rows_ret (M : Sto) : inU false (.d (.str "ret")) (.d (.tuple [.str "atmost", .str "below"])) M = .ok (.d (.bool false)) M := inW (by decide +kernel) (by decide +kernel)
@[simp] theorem in_four_move (M : Sto) : inU false (.d (.str "move")) (.d (.tuple [.str "move", .str "step", .str "back", .str "swap"])) M = .ok (.d (.bool true)) M := inW (by decide +kernel) (by decide +kernel)
@[simp] theorem in_four_step (M : Sto) : inU false (.d (.str "step")) (.d (.tuple [.str "move", .str "step", .str "back", .str "swap"])) M = .ok (.d (.bool true)) M := inW (by decide +kernel) (by decide +kernel)
@[simp] theorem in_four_back (M : Sto) : inU false (.d (.str "back")) (.d (.tuple [.str "move", .str "step", .str "back", .str "swap"])) M = .ok (.d (.bool true)) M := inW (by decide +kernel) (by decide +kernel)
@[simp] theorem in_four_swap (M : Sto) : inU false (.d (.str "swap")) (.d (.tuple [.str "move", .str "step", .str "back", .str "swap"])) M = .ok (.d (.bool true)) M := inW (by decide +kernel) (by decide +kernel)
@[simp] theorem in_four_same (M : Sto) : inU false (.d (.str "same")) (.d (.tuple [.str "move", .str "step", .str "back", .str "swap"])) M = .ok (.d (.bool false)) M := inW (by decide +kernel) (by decide +kernel)
@[simp] theorem in_four_ahead (M : Sto) : inU false (.d (.str "ahead")) (.d (.tuple [.str "move", .str "step", .str "back", .str "swap"])) M = .ok (.d (.bool false)) M := inW (by decide +kernel) (by decide +kernel)
@[simp] theorem in_four_atmost (M : Sto) : inU false (.d (.str "atmost")) (.d (.tuple [.str "move", .str "step", .str "back", .str "swap"])) M = .ok (.d (.bool false)) M := inW (by decide +kernel) (by decide +kernel)
@[simp] theorem in_four_below (M : Sto) : inU false (.d (.str "below")) (.d (.tuple [.str "move", .str "step", .str "back", .str "swap"])) M = .ok (.d (.bool false)) M := inW (by decide +kernel) (by decide +kernel)
@[simp] theorem in_four_jump (M : Sto) : inU false (.d (.str "jump")) (.d (.tuple [.str "move", .str "step", .str "back", .str "swap"])) M = .ok (.d (.bool false)) M := inW (by decide +kernel) (by decide +kernel)
@[simp] theorem in_four_call (M : Sto) : inU false (.d (.str "call")) (.d (.tuple [.str "move", .str "step", .str "back", .str "swap"])) M = .ok (.d (.bool false)) M := inW (by decide +kernel) (by decide +kernel)
@[simp] theorem in_four_ret (M : Sto) : inU false (.d (.str "ret")) (.d (.tuple [.str "move", .str "step", .str "back", .str "swap"])) M = .ok (.d (.bool false)) M := inW (by decide +kernel) (by decide +kernel)
@[simp] theorem dx_move : valV (mergeK [] ([(("move" : Str), (0 : Int)), ("step", 1), ("back", -1)].map fun p => ((.inr p.1 : Key), V.int p.2))) (.inr "move") = some (.int (0)) := by decide +kernel
@[simp] theorem dx_step : valV (mergeK [] ([(("move" : Str), (0 : Int)), ("step", 1), ("back", -1)].map fun p => ((.inr p.1 : Key), V.int p.2))) (.inr "step") = some (.int (1)) := by decide +kernel
@[simp] theorem dx_back : valV (mergeK [] ([(("move" : Str), (0 : Int)), ("step", 1), ("back", -1)].map fun p => ((.inr p.1 : Key), V.int p.2))) (.inr "back") = some (.int (-1)) := by decide +kernel
theorem atR (f : Frm) (q : Nat) (h : q < f.regs.length) : (f.regs.map PyData.int)[q]? = some (.int (reg f q)) := by
  simp [reg, h]
theorem c_test (k : Fin 4) (r q g : Nat) (f : Frm) (row : List Int) (hr : r < f.regs.length) (hq : q < f.regs.length) (M : Sto) : C_is_test_so [.d (Ins.cmp k r q g).d, .d (intsD f.regs), .d (intsD row)] M = .ok (.d (.bool (cmpP k row (reg f r) (reg f q)))) M := by
  have e1 := atR f r hr
  have e2 := atR f q hq
  have e3 := c_word_at row (reg f r) M
  have e4 := c_word_at row (reg f q) M
  simp only [intsD] at e3 e4
  match k with
  | 0 => simp [-List.getElem?_map, C_is_test_so, b_is_test_so, runC, Ins.d, cmpW, intsD, atN, e1, e2, cmpP]
  | 1 => simp [-List.getElem?_map, C_is_test_so, b_is_test_so, runC, Ins.d, cmpW, intsD, atN, e1, e2, cmpP]
  | 2 => simp [-List.getElem?_map, C_is_test_so, b_is_test_so, runC, Ins.d, cmpW, intsD, atN, e1, e2, cmpP, e3, e4, cellP]
  | 3 => simp [-List.getElem?_map, C_is_test_so, b_is_test_so, runC, Ins.d, cmpW, intsD, atN, e1, e2, cmpP, e3, e4, cellP]
end RSK

end
section
set_option Elab.async false
set_option linter.all false
set_option autoImplicit false
set_option maxRecDepth 100000
set_option maxHeartbeats 1000000
/-! K06C: a step. -/
namespace RSK
open PySem PySem.Spec PyProof.Rows L2 RS
@[simp] theorem at_seqT (xs : List PyData) (i : Nat) (M : Sto) : (Wk.seq (.d (.tuple xs))).at i M = some (xs.map U.d)[i]? := at_seq (u_itT xs) i
@[simp] theorem many_seqT (xs : List PyData) (M : Sto) : (Wk.seq (.d (.tuple xs))).many M = xs.length + 1 := by rw [many_seq (u_itT xs), List.length_map]
theorem line0 : 0 < sizeLine := by decide
@[simp] theorem line1' : (1 < sizeLine) = True := eq_true (by decide)
theorem nat_inj (gs : List Frm) (f : Frm) : (gs ++ [f]).map Frm.d = gs.map Frm.d ++ [f.d] := by simp
/-- the registers of the top frame, the frame -/
theorem c_called (F : List Fn) (gs : List Frm) (f : Frm) (row : List Int) (n a b : Nat) (o : Option Nat) (fn : Fn) (hF : F[n]? = some fn) (hm : 2 ≤ fn.many) (hm2 : fn.many < 100) (ha : a < f.regs.length) (hb : b < f.regs.length) (hl : gs.length < 100) (M : Sto) :
    ∃ J, C_called [.d (fnsD F), .d (stD (gs ++ [f]) row), .d (Ins.call n a b o).d] M = .ok (.d (stepP F gs f row (.call n a b o)).d) (M ++ J) := by
  refine ⟨[.lst [.d (.int (reg f a)), .d (.int (reg f b))]], ?_⟩
  have k1 := atR f a ha
  have k2 := atR f b hb
  have hg := c_with_reg0 gs f row (.d .none) M hl
  have h := c_entered F n fn hF [reg f a, reg f b] (by simp) hm hm2 (oD o) (M ++ [.lst [.d (.int (reg f a)), .d (.int (reg f b))]])
  have h1 : gs.length + 1 + 1 ≤ sizeLine := line_lt (by omega)
  simp only [stD, List.map_append, List.map_cons, List.map_nil, Frm.d, intsD, List.cons_append, List.nil_append, List.length_cons, List.length_nil, Int.natCast_add, Int.natCast_one] at hg h
  simp [-List.map_map, -List.getElem?_map, C_called, b_called, runC, Tg.en, stD, Frm.d, intsD, Ins.d, L2.atI_last, hg, cLoop, wipeE, atN, k1, k2, cTrue, line0, h, h1, stepP, Nxt.d, adv, hF]
theorem at_one (x : PyData) : atI [x] (-1) = some x := L2.atI_last [] x
theorem isN_o (r : Nat) : isNone (.d (oD (some r))) = false := rfl
theorem c_left0 (f : Frm) (row : List Int) (p : PyData) (M : Sto) : C_left [.d (stD [f] row), .d p] M = .ok (.d (endD p f.regs row)) M := by
  simp [-List.map_map, -List.getElem?_map, C_left, b_left, runC, Tg.en, setAll, stD, Frm.d, intsD, endD, at_one]
theorem c_left1 (gs : List Frm) (g f : Frm) (row : List Int) (p : PyData) (hi : f.into = none) (hl : gs.length < 99) (M : Sto) : C_left [.d (stD (gs ++ [g] ++ [f]) row), .d p] M = .ok (.d (stD (gs ++ [g]) row)) M := by
  have k1 := sl_init (M := M) ((gs ++ [g]).map Frm.d) f.d
  have k2 := L2.atI_last ((gs ++ [g]).map Frm.d) f.d
  have h1 : ¬ ((gs.length : Int) + 1 + 1 = 1) := by omega
  simp only [List.map_append, List.map_cons, List.map_nil, Frm.d, intsD, hi, oD] at k1 k2
  simp [-List.map_map, -List.getElem?_map, -List.append_assoc, C_left, b_left, runC, Tg.en, setAll, stD, Frm.d, intsD, k1, k2, hi, oD, h1]
theorem c_left2 (gs : List Frm) (g f : Frm) (row : List Int) (p : PyData) (r : Nat) (v : Int) (hi : f.into = some r) (hr : r < g.regs.length) (hr2 : g.regs.length < 100) (h0 : 0 < f.regs.length) (hv : p = .int v ∨ (p = .none ∧ v = reg f 0)) (hl : gs.length < 99) (M : Sto) :
    C_left [.d (stD (gs ++ [g] ++ [f]) row), .d p] M = .ok (.d (stD (gs ++ [{ g with regs := g.regs.set r v }]) row)) M := by
  have k1 := sl_init (M := M) ((gs ++ [g]).map Frm.d) f.d
  have k2 := L2.atI_last ((gs ++ [g]).map Frm.d) f.d
  have k3 := L2.atI_last (gs.map Frm.d) g.d
  have h1 : ¬ ((gs.length : Int) + 1 + 1 = 1) := by omega
  have k4 := c_with_frame' gs g row g.at_ (g.regs.set r v) M (by omega)
  have k5 : (g.regs.map PyData.int).take r ++ PyData.int v :: (g.regs.map PyData.int).drop (r + 1) = (g.regs.map PyData.int).set r (.int v) := by
    rw [List.set_eq_take_append_cons_drop, if_pos (by simpa using hr)]
  have s1 := sl_take (M := M) (g.regs.map PyData.int) r (by simpa using hr)
  have s2 := sl_drop (M := M) (g.regs.map PyData.int) (r + 1) (by omega) (by simp; omega)
  have h2 : g.regs.length ≤ sizeLine := line_lt (by omega)
  have k6 := atR f 0 h0
  simp only [List.map_append, List.map_cons, List.map_nil, Frm.d, intsD, hi, oD, stD, List.map_set, Int.natCast_add, Int.natCast_one] at k1 k2 k3 k4 s2
  rcases hv with rfl | ⟨rfl, rfl⟩
  · simp [-List.map_map, -List.getElem?_map, -List.append_assoc, -List.map_take, -List.map_drop, C_left, b_left, runC, Tg.en, setAll, stD, Frm.d, intsD, k1, k2, k3, hi, oD, h1, s1, s2, k5, h2, k4]
  · simp [-List.map_map, -List.getElem?_map, -List.append_assoc, -List.map_take, -List.map_drop, C_left, b_left, runC, Tg.en, setAll, stD, Frm.d, intsD, k1, k2, k3, hi, oD, h1, s1, s2, k5, h2, k4, k6]
/-! ### what is right -/
structure FnK (F : List Fn) (fn : Fn) : Prop where
  m3 : 3 ≤ fn.many
  m9 : fn.many < 100
  ins : ∀ (j : Nat) (i : Ins), fn.code[j]? = some i → i.ok F fn.many fn.code.length
  last : ∀ (j : Nat) (i : Ins), fn.code[j]? = some i → (∀ o, i ≠ .ret o) → j + 1 < fn.code.length
  c0 : 0 < fn.code.length
theorem FnK.m2 {F : List Fn} {fn : Fn} (h : FnK F fn) : 2 ≤ fn.many := Nat.le_of_succ_le h.m3
def FsK (F : List Fn) : Prop := ∀ (n : Nat) (fn : Fn), F[n]? = some fn → FnK F fn
structure FrK (F : List Fn) (f : Frm) : Prop where
  ex : ∃ fn, F[f.num]? = some fn ∧ f.at_ < fn.code.length ∧ f.regs.length = fn.many
/-- the frames, the top one first -/
def StkK (F : List Fn) : List Frm → Prop
  | [] => False
  | [f] => FrK F f ∧ f.into = none
  | f :: g :: r => FrK F f ∧ (∀ q, f.into = some q → q < g.regs.length) ∧ StkK F (g :: r)
theorem StkK.top {F : List Fn} {f : Frm} {r : List Frm} (h : StkK F (f :: r)) : FrK F f := by
  cases r with
  | nil => exact h.1
  | cons g r => exact h.1
section
variable {M : Sto}
@[simp] theorem tg_nm (i : Nat) (u : U) (en : En) : (Tg.nm i).en u en = some (en.set i (some u)) := rfl
@[simp] theorem tg_tp (is : List Nat) (xs : List PyData) (en : En) : (Tg.tp is).en (.d (.tuple xs)) en = if xs.length = is.length then some (setAll en is (xs.map .d)) else none := rfl
@[simp] theorem setAll0 (en : En) (us : List U) : setAll en [] us = en := by cases us <;> rfl
@[simp] theorem setAll1 (en : En) (i : Nat) (is : List Nat) (u : U) (us : List U) : setAll en (i :: is) (u :: us) = setAll (en.set i (some u)) is us := rfl
@[simp] theorem st0 (fs : List Frm) (row : List Int) : ixU (.d (stD fs row)) (.d (.int 0)) M = .ok (.d (.tuple (fs.map Frm.d))) M := by simp [stD]
@[simp] theorem st1 (fs : List Frm) (row : List Int) : ixU (.d (stD fs row)) (.d (.int 1)) M = .ok (.d (intsD row)) M := by simp [stD]
@[simp] theorem stL (xs : List PyData) (x : PyData) : ixU (.d (.tuple (xs ++ [x]))) (.d (.int (-1))) M = .ok (.d x) M := by simp [L2.atI_last]
@[simp] theorem fr0 (f : Frm) : ixU (.d f.d) (.d (.int 0)) M = .ok (.d (.int f.num)) M := by simp [Frm.d]
@[simp] theorem fr1 (f : Frm) : ixU (.d f.d) (.d (.int 1)) M = .ok (.d (.int f.at_)) M := by simp [Frm.d]
@[simp] theorem fr2 (f : Frm) : ixU (.d f.d) (.d (.int 2)) M = .ok (.d (intsD f.regs)) M := by simp [Frm.d]
theorem regx (f : Frm) (q : Nat) (h : q < f.regs.length) : ixU (.d (intsD f.regs)) (.d (.int q)) M = .ok (.d (.int (reg f q))) M := by
  have := atR f q h
  simp [-List.getElem?_map, intsD, atN, this]
end
theorem c_step {F : List Fn} (hFs : FsK F) {f : Frm} {r : List Frm} (h : StkK F (f :: r)) (hl : r.length < 99) {fn : Fn} (hF : F[f.num]? = some fn) (hr : f.regs.length = fn.many) {i : Ins} (hi : fn.code[f.at_]? = some i) (row : List Int) (M : Sto) :
    ∃ J, C_step [.d (fnsD F), .d (stD (r.reverse ++ [f]) row)] M = .ok (.d (stepP F r.reverse f row i).d) (M ++ J) := by
  have R := hFs _ _ hF
  have ok := R.ins _ _ hi
  have hl' : r.reverse.length < 100 := by rw [List.length_reverse]; omega
  have k0 := c_instr F r.reverse f row fn i hF hi M
  have m9 := R.m9
  have m2 := R.m2
  rw [← hr] at m9 ok m2
  cases i with
  | mv k a q =>
    have k1 := regx (M := M) f q ok.2
    have k2 := c_with_reg r.reverse f row a (reg f q + mvI k) M hl' ok.1 m9
    refine ⟨[], ?_⟩
    match k with
    | 0 =>
      simp only [Ins.d, mvW, mvI, Int.add_zero] at k0 k2
      simp [C_step, b_step, runC, L2.atI_last, k0, k1, k2, stepP, Nxt.d, adv, mvI]
    | 1 =>
      simp only [Ins.d, mvW, mvI, Int.add_zero] at k0 k2
      simp [C_step, b_step, runC, L2.atI_last, k0, k1, k2, stepP, Nxt.d, adv, mvI]
    | 2 =>
      simp only [Ins.d, mvW, mvI, Int.add_zero] at k0 k2
      simp [C_step, b_step, runC, L2.atI_last, k0, k1, k2, stepP, Nxt.d, adv, mvI]
  | swap a q =>
    have k1 := regx (M := M) f a ok.1
    have k2 := regx (M := M) f q ok.2
    have k3 := c_with_reg0 r.reverse f row (.d .none) M hl'
    obtain ⟨J, k4⟩ := c_swapped row (reg f a) (reg f q) M
    refine ⟨J, ?_⟩
    simp only [Ins.d] at k0
    simp [C_step, b_step, runC, L2.atI_last, k0, k1, k2, k3, k4, stepP, Nxt.d, adv]
    simp [stD]
  | cmp k a q g =>
    have k1 := c_test k a q g f row ok.1 ok.2.1 M
    have k3 := c_with_reg0 r.reverse f row (.d .none) M hl'
    have k4 := c_with_frame' r.reverse f row g f.regs M hl'
    refine ⟨[], ?_⟩
    cases hb : cmpP k row (reg f a) (reg f q) with
    | true =>
      rw [hb] at k1
      match k with
      | 0 =>
        simp only [Ins.d, cmpW] at k0 k1
        simp [C_step, b_step, runC, L2.atI_last, k0, k1, k3, k4, stepP, Nxt.d, adv, hb]
      | 1 =>
        simp only [Ins.d, cmpW] at k0 k1
        simp [C_step, b_step, runC, L2.atI_last, k0, k1, k3, k4, stepP, Nxt.d, adv, hb]
      | 2 =>
        simp only [Ins.d, cmpW] at k0 k1
        simp [C_step, b_step, runC, L2.atI_last, k0, k1, k3, k4, stepP, Nxt.d, adv, hb]
      | 3 =>
        simp only [Ins.d, cmpW] at k0 k1
        simp [C_step, b_step, runC, L2.atI_last, k0, k1, k3, k4, stepP, Nxt.d, adv, hb]
    | false =>
      rw [hb] at k1
      match k with
      | 0 =>
        simp only [Ins.d, cmpW] at k0 k1
        simp [C_step, b_step, runC, L2.atI_last, k0, k1, k3, k4, stepP, Nxt.d, adv, hb]
      | 1 =>
        simp only [Ins.d, cmpW] at k0 k1
        simp [C_step, b_step, runC, L2.atI_last, k0, k1, k3, k4, stepP, Nxt.d, adv, hb]
      | 2 =>
        simp only [Ins.d, cmpW] at k0 k1
        simp [C_step, b_step, runC, L2.atI_last, k0, k1, k3, k4, stepP, Nxt.d, adv, hb]
      | 3 =>
        simp only [Ins.d, cmpW] at k0 k1
        simp [C_step, b_step, runC, L2.atI_last, k0, k1, k3, k4, stepP, Nxt.d, adv, hb]
  | jump g =>
    have k4 := c_with_frame' r.reverse f row g f.regs M hl'
    refine ⟨[], ?_⟩
    simp only [Ins.d] at k0
    simp [C_step, b_step, runC, L2.atI_last, k0, k4, stepP, Nxt.d, adv]
  | call n a b o =>
    obtain ⟨hn, ha, hb, _⟩ := ok
    have hFn : F[n]? = some F[n] := List.getElem?_eq_getElem hn
    obtain ⟨J, k1⟩ := c_called F r.reverse f row n a b o F[n] hFn (hFs _ _ hFn).m2 (hFs _ _ hFn).m9 ha hb hl' M
    refine ⟨J, ?_⟩
    simp only [Ins.d] at k0 k1
    simp [C_step, b_step, runC, L2.atI_last, k0, k1]
  | ret o =>
    refine ⟨[], ?_⟩
    have h0 : 0 < f.regs.length := by omega
    have key : C_left [.d (stD (r.reverse ++ [f]) row), .d (optI f o)] M = .ok (.d (retP r.reverse f row o).d) M := by
      cases r with
      | nil =>
        simp only [List.reverse_nil, List.nil_append]
        rw [c_left0]
        rfl
      | cons g r =>
        have hl2 : r.reverse.length < 99 := by rw [List.length_reverse]; simp at hl; omega
        simp only [List.reverse_cons]
        unfold retP
        rw [List.getLast?_append]
        simp only [List.getLast?_singleton, Option.some_or, List.dropLast_concat]
        cases hi2 : f.into with
        | none =>
          rw [c_left1 r.reverse g f row _ hi2 hl2]
          rfl
        | some q =>
          have hq := h.2.1 q hi2
          have hg := h.2.2.top
          obtain ⟨fn2, hF2, _, hr2⟩ := hg.ex
          rw [c_left2 r.reverse g f row _ q (reg f (o.getD 0)) hi2 hq (by rw [hr2]; exact (hFs _ _ hF2).m9) h0 (by cases o <;> simp [optI]) hl2]
          rfl
    cases o with
    | none =>
      simp only [Ins.d, oD, optI] at k0 key
      simp [C_step, b_step, runC, L2.atI_last, k0, key, stepP]
    | some q =>
      have k1 := regx (M := M) f q (ok q rfl)
      simp only [Ins.d, oD, optI] at k0 key
      simp [C_step, b_step, runC, L2.atI_last, k0, key, k1, stepP]
end RSK

end
section
set_option Elab.async false
set_option linter.all false
set_option autoImplicit false
set_option maxRecDepth 100000
set_option maxHeartbeats 1000000
/-! K06D: the checked step, runs. -/
namespace RSK
open PySem PySem.Spec PyProof.Rows L2 RS
def inP (f : Frm) (q : Nat) : Bool := decide (reg f 0 ≤ reg f q) && decide (reg f q < reg f 1)
def letP (f : Frm) : Ins → Bool
  | .mv k r q => decide (reg f 0 ≤ reg f q + mvI k) && decide (reg f q + mvI k ≤ reg f 1)
  | .swap r q => inP f r && inP f q
  | .cmp 0 r q g => true
  | .cmp 1 r q g => true
  | .cmp _ r q g => inP f r && inP f q
  | .jump g => true
  | .call n a b o => decide (reg f 0 ≤ reg f a) && decide (reg f b ≤ reg f 1) && decide (reg f a ≤ reg f b)
  | .ret o => true
@[simp] theorem bools_r (g : List Bool → Bool) (l : Nat) (M : Sto) : boolsB g [.r l] M = (match M[l]? with
    | some (.lst vs) => (match asBs vs with
      | some ks => .ok (.d (.bool (g ks))) M
      | none => .bad)
    | _ => .bad) := rfl
@[simp] theorem asBs0 : asBs [] = some [] := rfl
@[simp] theorem asBs1 (b : Bool) (r : List U) : asBs (.d (.bool b) :: r) = (asBs r).map (b :: ·) := by
  show (match asBs r with
    | some ks => some (b :: ks)
    | none => none) = _
  cases asBs r <;> rfl
@[simp] theorem isD_r (l : Nat) : isD (U.r l) = false := rfl
theorem at_seqR {l : Nat} {M : Sto} {us : List U} (h : M[l]? = some (.lst us)) (i : Nat) : (Wk.seq (.r l)).at i M = some us[i]? := at_seq (by rw [u_it, h]) i
theorem many_seqR {l : Nat} {M : Sto} {us : List U} (h : M[l]? = some (.lst us)) : (Wk.seq (.r l)).many M = us.length + 1 := many_seq (by rw [u_it, h])
theorem c_within {F : List Fn} (hFs : FsK F) {f : Frm} {r : List Frm} {fn : Fn} (hF : F[f.num]? = some fn) (hr : f.regs.length = fn.many) {i : Ins} (hi : fn.code[f.at_]? = some i) (row : List Int) (M : Sto) :
    ∃ J, C_is_within [.d (fnsD F), .d (stD (r.reverse ++ [f]) row)] M = .ok (.d (.bool (letP f i))) (M ++ J) := by
  have R := hFs _ _ hF
  have ok := R.ins _ _ hi
  have k0 := c_instr F r.reverse f row fn i hF hi M
  have m9 := R.m9
  have m2 := R.m2
  rw [← hr] at m9 ok m2
  have m3 := R.m3
  rw [← hr] at m3
  have kr : slU (.d (intsD f.regs)) none (some 2) M = .ok (.d (.tuple [.int (reg f 0), .int (reg f 1)])) M := by
    have e := sl_take (M := M) (f.regs.map PyData.int) 2 (by simp; omega)
    have e2 : (f.regs.map PyData.int).take 2 = [.int (reg f 0), .int (reg f 1)] := by
      match hq : f.regs with
      | a :: b :: l => simp [reg, hq]
      | [a] => rw [hq] at m2; simp at m2
      | [] => rw [hq] at m2; simp at m2
    rw [e2] at e
    exact e
  cases i with
  | mv k a q =>
    have k1 := regx (M := M) f q ok.2
    refine ⟨[], ?_⟩
    match k with
    | 0 =>
      simp only [Ins.d, mvW, mvI] at k0
      simp [C_is_within, b_is_within, runC, L2.atI_last, k0, k1, kr, letP, mvI]
    | 1 =>
      simp only [Ins.d, mvW, mvI] at k0
      simp [C_is_within, b_is_within, runC, L2.atI_last, k0, k1, kr, letP, mvI]
      try rfl
    | 2 =>
      simp only [Ins.d, mvW, mvI] at k0
      simp [C_is_within, b_is_within, runC, L2.atI_last, k0, k1, kr, letP, mvI]
      try rfl
  | swap a q =>
    have k1 := regx (M := M) f a ok.1
    have k2 := regx (M := M) f q ok.2
    have k3 : slU (.d (.tuple [.str "swap", .int (a : Int), .int (q : Int)])) (some 1) (some 3) M = .ok (.d (.tuple [.int a, .int q])) M := sl_cut _ 1 3 (by decide) (by decide) (by simp)
    refine ⟨[.lst [.d (.bool (inP f a)), .d (.bool (inP f q))]], ?_⟩
    simp only [Ins.d] at k0
    simp [C_is_within, b_is_within, runC, L2.atI_last, k0, k1, k2, k3, kr, letP, inP, cLoop, wipeE, cTrue, line0]
  | cmp k a q g =>
    have k1 := regx (M := M) f a ok.1
    have k2 := regx (M := M) f q ok.2.1
    match k with
    | 0 =>
      refine ⟨[], ?_⟩
      simp only [Ins.d, cmpW] at k0
      simp [C_is_within, b_is_within, runC, L2.atI_last, k0, kr, letP]
    | 1 =>
      refine ⟨[], ?_⟩
      simp only [Ins.d, cmpW] at k0
      simp [C_is_within, b_is_within, runC, L2.atI_last, k0, kr, letP]
    | 2 =>
      have k3 : slU (.d (.tuple [.str "atmost", .int (a : Int), .int (q : Int), .int (g : Int)])) (some 1) (some 3) M = .ok (.d (.tuple [.int a, .int q])) M := sl_cut _ 1 3 (by decide) (by decide) (by simp)
      refine ⟨[.lst [.d (.bool (inP f a)), .d (.bool (inP f q))]], ?_⟩
      simp only [Ins.d, cmpW] at k0
      simp [C_is_within, b_is_within, runC, L2.atI_last, k0, k1, k2, k3, kr, letP, inP, cLoop, wipeE, cTrue, line0]
    | 3 =>
      have k3 : slU (.d (.tuple [.str "below", .int (a : Int), .int (q : Int), .int (g : Int)])) (some 1) (some 3) M = .ok (.d (.tuple [.int a, .int q])) M := sl_cut _ 1 3 (by decide) (by decide) (by simp)
      refine ⟨[.lst [.d (.bool (inP f a)), .d (.bool (inP f q))]], ?_⟩
      simp only [Ins.d, cmpW] at k0
      simp [C_is_within, b_is_within, runC, L2.atI_last, k0, k1, k2, k3, kr, letP, inP, cLoop, wipeE, cTrue, line0]
  | jump g =>
    refine ⟨[], ?_⟩
    simp only [Ins.d] at k0
    simp [C_is_within, b_is_within, runC, L2.atI_last, k0, kr, letP]
  | call n a b o =>
    have k1 := regx (M := M) f a ok.2.1
    have k2 := regx (M := M) f b ok.2.2.1
    simp only [Ins.d] at k0
    by_cases h1 : reg f 0 ≤ reg f a
    · by_cases h2 : reg f b ≤ reg f 1
      · refine ⟨[.lst [.d (.int (reg f a)), .d (.int (reg f b))], .lst [.d (.bool (decide (reg f a ≤ reg f a) && decide (reg f a ≤ reg f b))), .d (.bool (decide (reg f a ≤ reg f b) && decide (reg f b ≤ reg f b)))]], ?_⟩
        simp [C_is_within, b_is_within, runC, L2.atI_last, k0, k1, k2, kr, letP, cLoop, wipeE, cTrue, line0, h1, h2, at_seqR (st_new _), many_seqR (st_new _)]
      · refine ⟨[.lst [.d (.int (reg f a)), .d (.int (reg f b))]], ?_⟩
        simp [C_is_within, b_is_within, runC, L2.atI_last, k0, k1, k2, kr, letP, cLoop, wipeE, cTrue, line0, h1, h2]
    · refine ⟨[.lst [.d (.int (reg f a)), .d (.int (reg f b))]], ?_⟩
      simp [C_is_within, b_is_within, runC, L2.atI_last, k0, k1, k2, kr, letP, cLoop, wipeE, cTrue, line0, h1]
  | ret o =>
    refine ⟨[], ?_⟩
    simp only [Ins.d] at k0
    simp [C_is_within, b_is_within, runC, L2.atI_last, k0, kr, letP]
end RSK

end
section
set_option Elab.async false
set_option linter.all false
set_option autoImplicit false
set_option maxRecDepth 100000
set_option maxHeartbeats 1000000
/-! K06E: checked steps, runs. -/
namespace RSK
open PySem PySem.Spec PyProof.Rows L2 RS
theorem c_checked1 {F : List Fn} (hFs : FsK F) {f : Frm} {r : List Frm} (h : StkK F (f :: r)) (hl : r.length < 99) {fn : Fn} (hF : F[f.num]? = some fn) (hr : f.regs.length = fn.many) {i : Ins} (hi : fn.code[f.at_]? = some i) (hb : letP f i = true) (row : List Int) (M : Sto) :
    ∃ J, C_checked_step [.d (fnsD F), .d (stD (r.reverse ++ [f]) row)] M = .ok (.d (stepP F r.reverse f row i).d) (M ++ J) := by
  obtain ⟨J1, k1⟩ := c_within hFs hF hr hi row M (r := r)
  obtain ⟨J2, k2⟩ := c_step hFs h hl hF hr hi row (M ++ J1)
  rw [hb] at k1
  refine ⟨J1 ++ J2, ?_⟩
  simp [C_checked_step, b_checked_step, runC, k1, k2]
theorem c_checked0 {F : List Fn} (hFs : FsK F) {f : Frm} {r : List Frm} {fn : Fn} (hF : F[f.num]? = some fn) (hr : f.regs.length = fn.many) {i : Ins} (hi : fn.code[f.at_]? = some i) (hb : letP f i = false) (row : List Int) (M : Sto) :
    ∃ J, C_checked_step [.d (fnsD F), .d (stD (r.reverse ++ [f]) row)] M = .ex "Trap" [("number", .int f.num), ("at", .int f.at_)] (M ++ J) := by
  obtain ⟨J1, k1⟩ := c_within hFs hF hr hi row M (r := r)
  rw [hb] at k1
  have k2 : slU (.d f.d) none (some 2) (M ++ J1) = .ok (.d (.tuple [.int f.num, .int f.at_])) (M ++ J1) := sl_take [.int f.num, .int f.at_, intsD f.regs, oD f.into] 2 (by simp)
  refine ⟨J1, ?_⟩
  simp [C_checked_step, b_checked_step, runC, k1, k2, L2.atI_last, zipF]
/-! ### the run of a stand -/
inductive StT where
  | on (stk : List Frm) (row : List Int) | off (place : PyData) (regs row : List Int)
def StT.d : StT → PyData
  | .on stk row => stD stk.reverse row
  | .off p regs row => endD p regs row
def Nxt.st : Nxt → StT
  | .go fs row => .on fs.reverse row
  | .done p regs row => .off p regs row
theorem Nxt.st_d (n : Nxt) : n.st.d = n.d := by
  cases n with
  | go fs row => simp [Nxt.st, StT.d, Nxt.d]
  | done p regs row => rfl
def insAt (F : List Fn) (f : Frm) : Option Ins := (F[f.num]?).bind fun fn => fn.code[f.at_]?
def stepS (F : List Fn) : StT → StT
  | .on (f :: r) row => match insAt F f with
    | some i => (stepP F r.reverse f row i).st
    | none => .on (f :: r) row
  | s => s
def iter (F : List Fn) (s : StT) : Nat → StT
  | 0 => s
  | n + 1 => stepS F (iter F s n)
/-- a stand from which a step is taken -/
def Live (F : List Fn) (s : StT) : Prop := ∃ f r row, s = .on (f :: r) row ∧ StkK F (f :: r) ∧ r.length < 99
theorem live_ins {F : List Fn} (hFs : FsK F) {f : Frm} {r : List Frm} (h : StkK F (f :: r)) : ∃ fn i, F[f.num]? = some fn ∧ f.regs.length = fn.many ∧ fn.code[f.at_]? = some i ∧ insAt F f = some i := by
  obtain ⟨fn, h1, h2, h3⟩ := h.top.ex
  exact ⟨fn, fn.code[f.at_], h1, h3, List.getElem?_eq_getElem h2, by unfold insAt; rw [h1]; exact List.getElem?_eq_getElem h2⟩
theorem d_on (f : Frm) (r : List Frm) (row : List Int) : (StT.on (f :: r) row).d = stD (r.reverse ++ [f]) row := by
  show stD (f :: r).reverse row = _
  rw [List.reverse_cons]
theorem stepS_on {F : List Fn} {f : Frm} {i : Ins} (h : insAt F f = some i) {r : List Frm} {row : List Int} : stepS F (.on (f :: r) row) = (stepP F r.reverse f row i).st := by
  show (match insAt F f with
    | some i => (stepP F r.reverse f row i).st
    | none => .on (f :: r) row) = _
  rw [h]
theorem c_stepS {F : List Fn} (hFs : FsK F) {s : StT} (h : Live F s) (M : Sto) : ∃ J, C_step [.d (fnsD F), .d s.d] M = .ok (.d (stepS F s).d) (M ++ J) := by
  obtain ⟨f, r, row, rfl, h1, h2⟩ := h
  obtain ⟨fn, i, k1, k2, k3, k4⟩ := live_ins hFs h1
  obtain ⟨J, k⟩ := c_step hFs h1 h2 k1 k2 k3 row M
  refine ⟨J, ?_⟩
  rw [d_on, stepS_on k4, Nxt.st_d]
  exact k
def letS (F : List Fn) : StT → Bool
  | .on (f :: _) _ => match insAt F f with
    | some i => letP f i
    | none => true
  | _ => true
theorem c_chkS {F : List Fn} (hFs : FsK F) {s : StT} (h : Live F s) (hb : letS F s = true) (M : Sto) : ∃ J, C_checked_step [.d (fnsD F), .d s.d] M = .ok (.d (stepS F s).d) (M ++ J) := by
  obtain ⟨f, r, row, rfl, h1, h2⟩ := h
  obtain ⟨fn, i, k1, k2, k3, k4⟩ := live_ins hFs h1
  have hb : letP f i = true := by
    have : (match insAt F f with
      | some i => letP f i
      | none => true) = true := hb
    rw [k4] at this
    exact this
  obtain ⟨J, k⟩ := c_checked1 hFs h1 h2 k1 k2 k3 hb row M
  refine ⟨J, ?_⟩
  rw [d_on, stepS_on k4, Nxt.st_d]
  exact k
theorem c_endS {F : List Fn} {s : StT} (h : Live F s) (M : Sto) : C_is_ended [.d s.d] M = .ok (.d (.bool false)) M := by
  obtain ⟨f, r, row, rfl, h1, h2⟩ := h
  rw [d_on]
  exact c_is_ended' _ _ _ _
theorem c_run {F : List Fn} (hFs : FsK F) {s : StT} {n : Nat} (hn : n ≤ 1000) (h : ∀ k, k < n → Live F (iter F s k)) (M : Sto) : ∃ J, C_run [.d (fnsD F), .d s.d, .d (.int n)] M = .ok (.d (iter F s n).d) (M ++ J) := by
  have key := for_rng (n := n) (g := .nm 3) (body := sSeq (sIf (eB (eCall C_is_ended (aCons (eV 1) (aNil)) 1)) (sBk) (sNx)) (sAs (eCall C_step (aCons (eV 0) (aCons (eV 1) (aNil))) 2) (.nm 1)))
    (fun k en M' => ∃ x J, en = [some (.d (fnsD F)), some (.d (iter F s k).d), some (.d (.int n)), x] ∧ M' = M ++ J)
    (fun o => ∃ x J, o = .nx [some (.d (fnsD F)), some (.d (iter F s n).d), some (.d (.int n)), x] (M ++ J))
    (fun i en M' hi hI => by
      obtain ⟨x, J, rfl, rfl⟩ := hI
      obtain ⟨J2, k2⟩ := c_stepS hFs (h i hi) (M ++ J)
      have k1 := c_endS (h i hi) (M ++ J)
      refine ⟨_, rfl, .inl ⟨[some (.d (fnsD F)), some (.d (iter F s (i + 1)).d), some (.d (.int n)), some (.d (.int (0 + i)))], M ++ (J ++ J2), .inl ?_, _, J ++ J2, rfl, rfl⟩⟩
      simp [k1, k2, iter])
    (fun en M' hI => by
      obtain ⟨x, J, rfl, rfl⟩ := hI
      exact ⟨x, J, rfl⟩) n 0 [some (.d (fnsD F)), some (.d s.d), some (.d (.int n)), none] M (by omega) (by omega) ⟨none, [], rfl, by simp⟩
  obtain ⟨x, J, k⟩ := key
  refine ⟨J, ?_⟩
  have hn2 : (n : Int) ≤ 1000000 := by omega
  have hn3 : (-1000000 : Int) ≤ n := by omega
  simp only [C_run, b_run, runC, x_Seq, x_For, x_R1, x_Cons, x_Nil, x_V]
  simp [hn2, hn3, -x_Seq, k]

theorem c_crun {F : List Fn} (hFs : FsK F) {s : StT} {n : Nat} (hn : n ≤ 1000) (h : ∀ k, k < n → Live F (iter F s k)) (hb : ∀ k, k < n → letS F (iter F s k) = true) (M : Sto) : ∃ J, C_checked_run [.d (fnsD F), .d s.d, .d (.int n)] M = .ok (.d (iter F s n).d) (M ++ J) := by
  have key := for_rng (n := n) (g := .nm 3) (body := sSeq (sIf (eB (eCall C_is_ended (aCons (eV 1) (aNil)) 1)) (sBk) (sNx)) (sAs (eCall C_checked_step (aCons (eV 0) (aCons (eV 1) (aNil))) 2) (.nm 1)))
    (fun k en M' => ∃ x J, en = [some (.d (fnsD F)), some (.d (iter F s k).d), some (.d (.int n)), x] ∧ M' = M ++ J)
    (fun o => ∃ x J, o = .nx [some (.d (fnsD F)), some (.d (iter F s n).d), some (.d (.int n)), x] (M ++ J))
    (fun i en M' hi hI => by
      obtain ⟨x, J, rfl, rfl⟩ := hI
      obtain ⟨J2, k2⟩ := c_chkS hFs (h i hi) (hb i hi) (M ++ J)
      have k1 := c_endS (h i hi) (M ++ J)
      refine ⟨_, rfl, .inl ⟨[some (.d (fnsD F)), some (.d (iter F s (i + 1)).d), some (.d (.int n)), some (.d (.int (0 + i)))], M ++ (J ++ J2), .inl ?_, _, J ++ J2, rfl, rfl⟩⟩
      simp [k1, k2, iter])
    (fun en M' hI => by
      obtain ⟨x, J, rfl, rfl⟩ := hI
      exact ⟨x, J, rfl⟩) n 0 [some (.d (fnsD F)), some (.d s.d), some (.d (.int n)), none] M (by omega) (by omega) ⟨none, [], rfl, by simp⟩
  obtain ⟨x, J, k⟩ := key
  refine ⟨J, ?_⟩
  have hn2 : (n : Int) ≤ 1000000 := by omega
  have hn3 : (-1000000 : Int) ≤ n := by omega
  simp only [C_checked_run, b_checked_run, runC, x_Seq, x_For, x_R1, x_Cons, x_Nil, x_V]
  simp [hn2, hn3, -x_Seq, k]
/-! ### what is right stays right -/
theorem adv_ok {F : List Fn} (hFs : FsK F) {f : Frm} {fn : Fn} {i : Ins} (hF : F[f.num]? = some fn) (hr : f.regs.length = fn.many) (hi : fn.code[f.at_]? = some i) (hn : ∀ o, i ≠ .ret o) (rs : List Int) (hrs : rs.length = f.regs.length) : FrK F { f with at_ := f.at_ + 1, regs := rs } :=
  ⟨fn, hF, (hFs _ _ hF).last _ _ hi hn, hrs.trans hr⟩
theorem StkK.top_of {F : List Fn} {f f' : Frm} {r : List Frm} (h : StkK F (f :: r)) (hf : FrK F f') (hi : f'.into = f.into) : StkK F (f' :: r) := by
  cases r with
  | nil => exact ⟨hf, hi.trans h.2⟩
  | cons g r => exact ⟨hf, fun q hq => h.2.1 q (hi ▸ hq), h.2.2⟩
theorem StkK.push {F : List Fn} {f f' : Frm} {r : List Frm} (h : StkK F (f :: r)) (hf : FrK F f') (hi : ∀ q, f'.into = some q → q < f.regs.length) : StkK F (f' :: f :: r) := ⟨hf, hi, h⟩
theorem step_wf {F : List Fn} (hFs : FsK F) {f : Frm} {r : List Frm} (h : StkK F (f :: r)) {i : Ins} (hi : insAt F f = some i) {row : List Int} {stk' : List Frm} {row' : List Int} (e : (stepP F r.reverse f row i).st = .on stk' row') : StkK F stk' ∧ stk'.length ≤ r.length + 2 := by
  obtain ⟨fn, j, k1, k2, k3, k4⟩ := live_ins hFs h
  rw [hi] at k4
  cases k4
  have R := hFs _ _ k1
  have ok := R.ins _ _ k3
  have go : ∀ f' : Frm, FrK F f' → f'.into = f.into → ∀ row2, (Nxt.go (r.reverse ++ [f']) row2).st = .on stk' row' → StkK F stk' ∧ stk'.length ≤ r.length + 2 := fun f' hf hn row2 e => by
    simp only [Nxt.st, List.reverse_append, List.reverse_cons, List.reverse_nil, List.nil_append, List.reverse_reverse, List.cons_append, StT.on.injEq] at e
    rw [← e.1]
    exact ⟨h.top_of hf hn, by simp⟩
  cases i with
  | mv k a q => exact go _ (adv_ok hFs k1 k2 k3 (by intro o z; cases z) _ (by simp)) rfl row e
  | swap a q => exact go _ (adv_ok hFs k1 k2 k3 (by intro o z; cases z) _ rfl) rfl _ e
  | cmp k a q g =>
    simp only [stepP] at e
    split at e
    · exact go { f with at_ := g } ⟨fn, k1, ok.2.2, k2⟩ rfl row e
    · exact go _ (adv_ok hFs k1 k2 k3 (by intro o z; cases z) _ rfl) rfl row e
  | jump g => exact go { f with at_ := g } ⟨fn, k1, ok, k2⟩ rfl row e
  | call n a b o =>
    obtain ⟨hn, ha, hb, ho⟩ := ok
    have hFn : F[n]? = some F[n] := List.getElem?_eq_getElem hn
    have hm := (hFs _ _ hFn).m2
    simp only [stepP, Nxt.st, List.reverse_append, List.reverse_cons, List.reverse_nil, List.nil_append, List.reverse_reverse, List.cons_append, StT.on.injEq] at e
    rw [← e.1]
    refine ⟨(h.top_of (f' := adv f) (adv_ok hFs k1 k2 k3 (by intro o z; cases z) _ rfl) rfl).push ⟨F[n], hFn, (hFs _ _ hFn).c0, ?_⟩ (fun q hq => ?_), by simp⟩
    · have : F.getD n ⟨2, []⟩ = F[n] := by simp [hn]
      rw [this]
      simp
      omega
    · show q < f.regs.length
      rw [k2]
      exact ho q hq
  | ret o =>
    simp only [stepP] at e
    unfold retP at e
    cases r with
    | nil => simp [Nxt.st] at e
    | cons g r =>
      rw [List.reverse_cons, List.getLast?_append] at e
      simp only [List.getLast?_singleton, Option.some_or, List.dropLast_concat] at e
      cases hi2 : f.into with
      | none =>
        rw [hi2] at e
        simp only [Nxt.st, List.reverse_append, List.reverse_cons, List.reverse_nil, List.nil_append, List.reverse_reverse, List.cons_append, StT.on.injEq] at e
        rw [← e.1]
        exact ⟨h.2.2, by simp⟩
      | some q =>
        rw [hi2] at e
        simp only [Nxt.st, List.reverse_append, List.reverse_cons, List.reverse_nil, List.nil_append, List.reverse_reverse, List.cons_append, StT.on.injEq] at e
        rw [← e.1]
        have hg := h.2.2.top
        obtain ⟨fn2, g1, g2, g3⟩ := hg.ex
        exact ⟨h.2.2.top_of (f' := { g with regs := g.regs.set q (reg f (o.getD 0)) }) ⟨fn2, g1, g2, by simpa using g3⟩ rfl, by simp⟩
/-! ### the row -/
theorem swapP_perm (row : List Int) (x y : Int) : (swapP row x y).Perm row := by
  unfold swapP
  split
  · rename_i h
    obtain ⟨n, rfl⟩ := Int.eq_ofNat_of_zero_le h.1.1
    obtain ⟨m, rfl⟩ := Int.eq_ofNat_of_zero_le h.2.1
    have hn : n < row.length := by omega
    have hm : m < row.length := by omega
    have e1 : row.getD n 0 = row[n] := by simp [hn]
    have e2 : row.getD m 0 = row[m] := by simp [hm]
    simp only [Int.ofNat_eq_natCast, Int.toNat_natCast, e1, e2]
    exact List.set_set_perm hn hm
  · exact .refl _
def StT.row : StT → List Int
  | .on _ row => row
  | .off _ _ row => row
theorem step_row (F : List Fn) (gs : List Frm) (f : Frm) (row : List Int) (i : Ins) : (stepP F gs f row i).st.row.Perm row := by
  cases i with
  | swap a q => exact swapP_perm _ _ _
  | ret o =>
    simp only [stepP, retP]
    cases gs.getLast? with
    | none => exact .refl _
    | some g => cases f.into with
      | none => exact .refl _
      | some q => exact .refl _
  | _ => exact .refl _
theorem stepS_row (F : List Fn) (s : StT) : (stepS F s).row.Perm s.row := by
  unfold stepS
  split
  · split
    · exact step_row _ _ _ _ _
    · exact .refl _
  · exact .refl _
theorem iter_row (F : List Fn) (s : StT) : ∀ n, (iter F s n).row.Perm s.row
  | 0 => .refl _
  | n + 1 => (stepS_row F _).trans (iter_row F s n)
end RSK

end
section
set_option Elab.async false
set_option linter.all false
set_option autoImplicit false
set_option maxRecDepth 100000
set_option maxHeartbeats 1000000
/-! K06F: the law's stand, read. -/
namespace RSK
open PySem PySem.Spec PyProof.Rows L2 RS
def intsU (l : List Int) : List U := l.map fun i => .d (.int i)
theorem asDs_ints (l : List Int) : asDs (intsU l) = some (l.map .int) := by
  have : intsU l = (l.map PyData.int).map U.d := by simp [intsU]
  rw [this, u_asM]
theorem atU (f : Frm) (q : Nat) (h : q < f.regs.length) : atI (intsU f.regs) (q : Int) = some (.d (.int (reg f q))) := by
  rw [atN]
  simp [intsU, reg, h]
/-- a frame as the law holds it: its list, its registers' list -/
def FrAt (M : Sto) (p : Nat × Nat) (a b : PyData) (regs : List Int) (c : PyData) : Prop := M[p.1]? = some (.lst [.d a, .d b, .r p.2, .d c]) ∧ M[p.2]? = some (.lst (intsU regs))
def frD (a b : PyData) (regs : List Int) (c : PyData) : PyData := .tuple [a, b, intsD regs, c]
def rd (M : Sto) (u : U) : U := match u with
  | .r l => (match M[l]? with
    | some (.lst [.d a, .d b, .r t, .d c]) => (match M[t]? with
      | some (.lst us) => (match asDs us with
        | some xs => .d (.tuple [a, b, .tuple xs, c])
        | none => u)
      | _ => u)
    | _ => u)
  | _ => u
theorem rd_at {M : Sto} {p : Nat × Nat} {a b : PyData} {regs : List Int} {c : PyData} (h : FrAt M p a b regs c) : rd M (.r p.1) = .d (frD a b regs c) := by
  simp only [rd, h.1, h.2, asDs_ints]
  rfl
/-- each place reads as its data -/
def Reads (M : Sto) (us : List U) (xs : List PyData) : Prop := Paired (fun u x => ∃ p a b regs c, u = .r (p : Nat × Nat).1 ∧ FrAt M p a b regs c ∧ x = frD a b regs c) us xs
theorem Reads.map {M : Sto} {us : List U} {xs : List PyData} (h : Reads M us xs) : us.map (rd M) = xs.map .d := by
  unfold Reads at h
  induction h with
  | nil => rfl
  | cons h t ih =>
    obtain ⟨p, a, b, regs, c, rfl, h1, rfl⟩ := h
    rw [List.map_cons, List.map_cons, ih, rd_at h1]
theorem Reads.each {M : Sto} {us : List U} {xs : List PyData} (h : Reads M us xs) : ∀ u ∈ us, ∃ p a b regs c, u = .r (p : Nat × Nat).1 ∧ FrAt M p a b regs c := by
  unfold Reads at h
  induction h with
  | nil => intro u hu; cases hu
  | cons h t ih =>
    intro u hu
    rcases List.mem_cons.mp hu with rfl | hu
    · obtain ⟨p, a, b, regs, c, e, h1, _⟩ := h
      exact ⟨p, a, b, regs, c, e, h1⟩
    · exact ih u hu
theorem c_law_stand {lf lr : Nat} {us : List U} {xs : List PyData} {row : List Int} {M : Sto} (hf : M[lf]? = some (.lst us)) (hl : us.length < 1000) (hr : M[lr]? = some (.lst (intsU row))) (h : Reads M us xs) :
    ∃ J, C__law_stand [.r lf, .r lr] M = .ok (.d (.tuple [.tuple xs, intsD row])) (M ++ J) := by
  have hz : us.length < sizeLine := Nat.lt_trans (Nat.lt_trans hl (by decide)) line_big
  have k := comp_pure (M := M) (M0 := M) (u := .r lf) (us := us) (own := [2]) (g := .nm 2) (fi := wL (eV 0)) (en := [some (.r lf), some (.r lr), none])
    (fe := eTup (aCons (RS.e2 ixU (eV 2) (eC (.int 0))) (aCons (RS.e2 ixU (eV 2) (eC (.int 1))) (aCons (eB1 tupleB (aCons (RS.e2 ixU (eV 2) (eC (.int 2))) (aNil))) (aCons (RS.e2 ixU (eV 2) (eC (.int 3))) (aNil))))))
    (by simp [hf]) (by rw [u_it, hf]) (rd M) hz (fun u hu => by
      obtain ⟨p, a, b, regs, c, rfl, h1⟩ := h.each u hu
      refine ⟨_, rfl, ?_⟩
      rw [rd_at h1]
      simp [wipeE, h1.1, h1.2, asDs_ints, frD, intsD])
  rw [h.map] at k
  have hr2 : (M ++ [.lst (xs.map U.d)])[lr]? = some (.lst (intsU row)) := st_app hr _
  refine ⟨[.lst (xs.map U.d)], ?_⟩
  simp only [C__law_stand, b__law_stand, runC, x_Rt, x_Tup, x_Cons, x_B1, x_Nil] at *
  simp [-x_Comp, k, hr2, asDs_ints, intsD]
/-! ### shapes -/
theorem lay_ints : ∀ l : List Int, PyData.canLayAll0 (l.map .int) = true
  | [] => by simp [PyData.canLayAll0]
  | x :: l => by simp [PyData.canLayAll0, PyData.canLay0, lay_ints l]
theorem dep_ints : ∀ l : List Int, PyData.depthAll (l.map .int) ≤ 1
  | [] => by simp [PyData.depthAll]
  | x :: l => by
    have := dep_ints l
    simp only [List.map_cons, PyData.depthAll, PyData.depth]
    omega
end RSK

end
section
set_option Elab.async false
set_option linter.all false
set_option autoImplicit false
set_option maxRecDepth 100000
set_option maxHeartbeats 1000000
/-! K06F2: shapes; equality of stands; what is let. -/
namespace RSK
open PySem PySem.Spec PyProof.Rows L2 RS
def plainP (p : PyData) : Prop := p = .none ∨ ∃ v, p = .int v
theorem plain_oD (o : Option Nat) : plainP (oD o) := by
  cases o with
  | none => exact .inl rfl
  | some r => exact .inr ⟨_, rfl⟩
theorem plain_ok {p : PyData} (h : plainP p) : p.canLay0 = true ∧ p.depth = 0 := by
  rcases h with rfl | ⟨v, rfl⟩ <;> simp [PyData.canLay0, PyData.depth]
theorem frD_ok (a b : Int) (regs : List Int) {c : PyData} (h : plainP c) {b' : PyData} (hb : plainP b') : (frD (.int a) b' regs c).canLay0 = true ∧ (frD (.int a) b' regs c).depth ≤ 3 := by
  have h1 := lay_ints regs
  have h2 := dep_ints regs
  have h3 := plain_ok h
  have h4 := plain_ok hb
  constructor
  · simp [frD, intsD, PyData.canLay0, PyData.canLayAll0, h1, h3.1, h4.1]
  · simp only [frD, intsD, PyData.depth, PyData.depthAll, h3.2, h4.2]
    omega
theorem frm_ok (f : Frm) : f.d.canLay0 = true ∧ f.d.depth ≤ 3 := frD_ok f.num f.at_ f.regs (plain_oD f.into) (.inr ⟨_, rfl⟩)
theorem frms_ok : ∀ fs : List Frm, PyData.canLayAll0 (fs.map Frm.d) = true ∧ PyData.depthAll (fs.map Frm.d) ≤ 3
  | [] => by simp [PyData.canLayAll0, PyData.depthAll]
  | f :: fs => by
    have h1 := frm_ok f
    have h2 := frms_ok fs
    constructor
    · simp [PyData.canLayAll0, h1.1, h2.1]
    · simp only [List.map_cons, PyData.depthAll]
      omega
theorem shaped_of {d : PyData} (h1 : d.canLay0 = true) (h2 : d.depth ≤ 64) : SeqAt.shaped d = true := by
  show (d.canLay0 && decide (d.depth ≤ 64)) = true
  rw [h1, decide_eq_true h2]
  rfl
theorem shaped_st (fs : List Frm) (row : List Int) : SeqAt.shaped (stD fs row) = true := by
  have h1 := frms_ok fs
  have h2 := lay_ints row
  have h3 := dep_ints row
  apply shaped_of
  · simp [stD, intsD, PyData.canLay0, PyData.canLayAll0, h1.1, h2]
  · simp only [stD, intsD, PyData.depth, PyData.depthAll]
    omega
theorem shaped_end {p : PyData} (h : plainP p) (regs row : List Int) : SeqAt.shaped (endD p regs row) = true := by
  have h1 := frD_ok (-1) 0 regs (c := .none) (.inl rfl) h
  have h2 := lay_ints row
  have h3 := dep_ints row
  apply shaped_of
  · simp only [endD, PyData.canLay0, PyData.canLayAll0, intsD] at *
    simp [h2, lay_ints regs, (plain_ok h).1]
  · have h4 := dep_ints regs
    have h5 := (plain_ok h).2
    simp only [endD, intsD, PyData.depth, PyData.depthAll, h5]
    omega
theorem eq_same {d : PyData} (h : SeqAt.shaped d = true) (M : Sto) : eqU' true (.d d) (.d d) M = .ok (.d (.bool false)) M := by
  have h0 : d.canLay0 = true := by
    have : (d.canLay0 && decide (d.depth ≤ 64)) = true := h
    exact (Bool.and_eq_true_iff.mp this).1
  show (if (SeqAt.shaped d && SeqAt.shaped d) = true then R.ok (U.d (.bool (if true = true then !PyData.eqv d d else PyData.eqv d d))) M else R.bad) = _
  rw [h, PySem.SeqAt.eqv_refl d h0]
  rfl
theorem shaped_b (b : Bool) : SeqAt.shaped (.bool b) = true := by
  apply shaped_of <;> simp [PyData.canLay0, PyData.depth]
theorem eq_bool (a b : Bool) (M : Sto) : eqU' true (.d (.bool a)) (.d (.bool b)) M = .ok (.d (.bool (!decide (a = b)))) M := by
  show (if (SeqAt.shaped (.bool a) && SeqAt.shaped (.bool b)) = true then R.ok (U.d (.bool (if true = true then !PyData.eqv (.bool a) (.bool b) else PyData.eqv (.bool a) (.bool b)))) M else R.bad) = _
  rw [shaped_b, shaped_b]
  cases a <;> cases b <;> rfl
end RSK

end
section
set_option Elab.async false
set_option linter.all false
set_option autoImplicit false
set_option maxRecDepth 100000
set_option maxHeartbeats 1000000
/-! K06G: the law's store. -/
namespace RSK
open PySem PySem.Spec PyProof.Rows L2 RS
theorem pairedA {α β : Type} {F : α → β → Prop} : ∀ {xs ys : List α} {us vs : List β}, Paired F xs us → Paired F ys vs → Paired F (xs ++ ys) (us ++ vs)
  | _, _, _, _, .nil, h => h
  | _, _, _, _, .cons f t, h => .cons f (pairedA t h)
def locs : List (Nat × Nat) → List Nat
  | [] => []
  | p :: ps => p.1 :: p.2 :: locs ps
theorem locs_mem : ∀ {ps : List (Nat × Nat)} {k : Nat} {q : Nat × Nat}, ps[k]? = some q → q.1 ∈ locs ps ∧ q.2 ∈ locs ps
  | [], _, _, h => by simp at h
  | p :: ps, 0, q, h => by
    cases h
    simp [locs]
  | p :: ps, k + 1, q, h => by
    have := locs_mem (ps := ps) (k := k) h
    simp [locs, this.1, this.2]
def FrmAt (M : Sto) (p : Nat × Nat) (f : Frm) : Prop := FrAt M p (.int f.num) (.int f.at_) f.regs (oD f.into)
structure LawSt (M : Sto) (lf lr : Nat) (ps : List (Nat × Nat)) (stk : List Frm) (row : List Int) : Prop where
  len : ps.length = stk.length
  fr : M[lf]? = some (.lst (ps.reverse.map fun p => .r p.1))
  row : M[lr]? = some (.lst (intsU row))
  at_ : ∀ (k : Nat) p f, ps[k]? = some p → stk[k]? = some f → FrmAt M p f
  nd : (lf :: lr :: locs ps).Nodup
/-- what is not among the law's places stays -/
def Keep (S : List Nat) (M M' : Sto) : Prop := ∀ l, l < M.length → l ∉ S → M'[l]? = M[l]?
section
variable {M M' : Sto} {lf lr : Nat} {ps : List (Nat × Nat)} {p : Nat × Nat} {stk r : List Frm} {f f' : Frm} {row row' : List Int}
theorem FrmAt.keep (h : FrmAt M p f) (h1 : M'[p.1]? = M[p.1]?) (h2 : M'[p.2]? = M[p.2]?) : FrmAt M' p f := ⟨h1.trans h.1, h2.trans h.2⟩
theorem FrmAt.lt (h : FrmAt M p f) : p.1 < M.length ∧ p.2 < M.length := ⟨st_lt h.1, st_lt h.2⟩
theorem LawSt.top (h : LawSt M lf lr (p :: ps) (f :: r) row) : FrmAt M p f := h.at_ 0 p f rfl rfl
theorem LawSt.shape (h : LawSt M lf lr ps (f :: r) row) : ∃ p ps', ps = p :: ps' := by
  cases ps with
  | nil => have := h.len; simp at this
  | cons p ps => exact ⟨p, ps, rfl⟩
/-- the top frame, the row are written -/
theorem LawSt.put (h : LawSt M lf lr (p :: ps) (f :: r) row) (hf : FrmAt M' p f') (hr : M'[lr]? = some (.lst (intsU row'))) (k : Keep [p.1, p.2, lr] M M') : LawSt M' lf lr (p :: ps) (f' :: r) row' := by
  have nd := h.nd
  simp only [locs, List.nodup_cons, List.mem_cons, not_or] at nd
  refine ⟨h.len, ?_, hr, fun j q g hq hg => ?_, h.nd⟩
  · rw [k lf (st_lt h.fr) (by simp; exact ⟨nd.1.2.1, nd.1.2.2.1, nd.1.1⟩)]
    exact h.fr
  · cases j with
    | zero =>
      cases hq; cases hg
      exact hf
    | succ j =>
      have hq : ps[j]? = some q := hq
      have hg : r[j]? = some g := hg
      have a := h.at_ (j + 1) q g hq hg
      obtain ⟨m1, m2⟩ := locs_mem hq
      have n1 : ∀ x, x ∈ locs ps → x ≠ p.1 ∧ x ≠ p.2 ∧ x ≠ lr := fun x hx => ⟨fun z => nd.2.2.1.2 (z ▸ hx), fun z => nd.2.2.2.1 (z ▸ hx), fun z => nd.2.1.2.2 (z ▸ hx)⟩
      exact a.keep (k _ a.lt.1 (by simp; exact n1 _ m1)) (k _ a.lt.2 (by simp; exact n1 _ m2))
/-- all places lie in the store -/
theorem LawSt.below (h : LawSt M lf lr ps stk row) : ∀ l ∈ lf :: lr :: locs ps, l < M.length := by
  have key : ∀ (ps : List (Nat × Nat)) (stk : List Frm), ps.length = stk.length → (∀ (k : Nat) p f, ps[k]? = some p → stk[k]? = some f → FrmAt M p f) → ∀ l ∈ locs ps, l < M.length := by
    intro ps
    induction ps with
    | nil => intro stk _ _ l hl; cases hl
    | cons p ps ih =>
      intro stk hl ha l hm
      cases stk with
      | nil => simp at hl
      | cons f stk =>
        have a := ha 0 p f rfl rfl
        simp only [locs, List.mem_cons] at hm
        rcases hm with rfl | rfl | hm
        · exact a.lt.1
        · exact a.lt.2
        · exact ih stk (by simpa using hl) (fun k p f h1 h2 => ha (k + 1) p f h1 h2) l hm
  intro l hl
  rcases List.mem_cons.mp hl with rfl | hl
  · exact st_lt h.fr
  rcases List.mem_cons.mp hl with rfl | hl
  · exact st_lt h.row
  · exact key ps stk h.len h.at_ l hl
/-- nothing of the law's places is touched -/
theorem LawSt.keep (h : LawSt M lf lr ps stk row) (k : ∀ l ∈ lf :: lr :: locs ps, M'[l]? = M[l]?) : LawSt M' lf lr ps stk row :=
  ⟨h.len, (k lf (by simp)).trans h.fr, (k lr (by simp)).trans h.row, fun j q g hq hg => by
    obtain ⟨m1, m2⟩ := locs_mem hq
    exact (h.at_ j q g hq hg).keep (k _ (by simp [m1])) (k _ (by simp [m2])), h.nd⟩
/-- a new frame -/
theorem LawSt.push (h : LawSt M lf lr ps stk row) {q : Nat × Nat} (h1 : M.length ≤ q.1) (h2 : M.length ≤ q.2) (hq : q.1 ≠ q.2) (hf : FrmAt M' q f) (hl : M'[lf]? = some (.lst ((q :: ps).reverse.map fun p => .r p.1))) (k : Keep [lf] M M') : LawSt M' lf lr (q :: ps) (f :: stk) row := by
  have nd := h.nd
  have lt := h.below
  have ne : ∀ l ∈ lf :: lr :: locs ps, l ≠ q.1 ∧ l ≠ q.2 := fun l hl => ⟨by have := lt l hl; omega, by have := lt l hl; omega⟩
  have nd2 := nd
  simp only [List.nodup_cons, List.mem_cons, not_or] at nd2
  refine ⟨by simp [h.len], hl, ?_, fun j x g hx hg => ?_, ?_⟩
  · rw [k lr (lt _ (by simp)) (by simp; exact fun z => nd2.1.1 z.symm)]
    exact h.row
  · cases j with
    | zero => cases hx; cases hg; exact hf
    | succ j =>
      have hx : ps[j]? = some x := hx
      have a := h.at_ j x g hx hg
      obtain ⟨m1, m2⟩ := locs_mem hx
      have n1 : ∀ y, y ∈ locs ps → y ≠ lf := fun y hy z => nd2.1.2 (z ▸ hy)
      exact a.keep (k _ a.lt.1 (by simp; exact n1 _ m1)) (k _ a.lt.2 (by simp; exact n1 _ m2))
  · simp only [locs, List.nodup_cons, List.mem_cons, not_or]
    have a1 := ne lf (by simp)
    have a2 := ne lr (by simp)
    refine ⟨⟨nd2.1.1, a1.1, a1.2, nd2.1.2⟩, ⟨a2.1, a2.2, nd2.2.1⟩, ⟨hq, fun z => (ne q.1 (by simp [z])).1 rfl⟩, fun z => (ne q.2 (by simp [z])).2 rfl, nd2.2.2⟩
/-- the top frame is gone -/
theorem LawSt.pop (h : LawSt M lf lr (p :: ps) (f :: r) row) (hl : M'[lf]? = some (.lst (ps.reverse.map fun p => .r p.1))) (k : Keep [lf] M M') : LawSt M' lf lr ps r row := by
  have nd := h.nd
  simp only [locs, List.nodup_cons, List.mem_cons, not_or] at nd
  refine ⟨by have := h.len; simpa using this, hl, ?_, fun j x g hx hg => ?_, ?_⟩
  · rw [k lr (st_lt h.row) (by simp; exact fun z => nd.1.1 z.symm)]
    exact h.row
  · have a := h.at_ (j + 1) x g hx hg
    obtain ⟨m1, m2⟩ := locs_mem hx
    have n1 : ∀ y, y ∈ locs ps → y ≠ lf := fun y hy z => nd.1.2.2.2 (z ▸ hy)
    exact a.keep (k _ a.lt.1 (by simp; exact n1 _ m1)) (k _ a.lt.2 (by simp; exact n1 _ m2))
  · simp only [List.nodup_cons, List.mem_cons, not_or]
    exact ⟨⟨nd.1.1, nd.1.2.2.2⟩, nd.2.1.2.2, nd.2.2.2.2⟩
theorem LawSt.reads (h : LawSt M lf lr ps stk row) : Reads M (ps.reverse.map fun p => .r p.1) (stk.reverse.map Frm.d) := by
  have key : ∀ (ps : List (Nat × Nat)) (stk : List Frm), ps.length = stk.length → (∀ (k : Nat) p f, ps[k]? = some p → stk[k]? = some f → FrmAt M p f) → Reads M (ps.reverse.map fun p => .r p.1) (stk.reverse.map Frm.d) := by
    intro ps
    induction ps with
    | nil =>
      intro stk hl _
      cases stk with
      | nil => exact .nil
      | cons f stk => simp at hl
    | cons p ps ih =>
      intro stk hl ha
      cases stk with
      | nil => simp at hl
      | cons f stk =>
        have := ih stk (by simpa using hl) (fun k p f h1 h2 => ha (k + 1) p f h1 h2)
        rw [List.reverse_cons, List.reverse_cons, List.map_append, List.map_append]
        exact pairedA this (.cons ⟨p, _, _, _, _, rfl, ha 0 p f rfl rfl, rfl⟩ .nil)
  exact key ps stk h.len h.at_
end
end RSK

end
section
set_option Elab.async false
set_option linter.all false
set_option autoImplicit false
set_option maxRecDepth 100000
set_option maxHeartbeats 1000000
/-! K06H: what is let, by the law; its frames. -/
namespace RSK
open PySem PySem.Spec PyProof.Rows L2 RS
section
variable {M : Sto} {F : List Fn} {fn : Fn} {i : Ins}
@[simp] theorem dy_move : valV (mergeK [] [((.inr ("move" : Str) : Key), V.int 0), (.inr "step", .int 1), (.inr "back", .int (-1))]) (.inr "move") = some (.int 0) := by decide +kernel
@[simp] theorem dy_step : valV (mergeK [] [((.inr ("move" : Str) : Key), V.int 0), (.inr "step", .int 1), (.inr "back", .int (-1))]) (.inr "step") = some (.int 1) := by decide +kernel
@[simp] theorem dy_back : valV (mergeK [] [((.inr ("move" : Str) : Key), V.int 0), (.inr "step", .int 1), (.inr "back", .int (-1))]) (.inr "back") = some (.int (-1)) := by decide +kernel
theorem fnx {n : Nat} (h : F[n]? = some fn) : ixU (.d (fnsD F)) (.d (.int n)) M = .ok (.d fn.d) M := by
  have : (F.map Fn.d)[n]? = some fn.d := by simp [h]
  simp [-List.getElem?_map, fnsD, atN, this]
@[simp] theorem fn1 : ixU (.d fn.d) (.d (.int 1)) M = .ok (.d (.int fn.many)) M := by simp [Fn.d]
@[simp] theorem fn2 : ixU (.d fn.d) (.d (.int 2)) M = .ok (.d (.tuple (fn.code.map Ins.d))) M := by simp [Fn.d]
theorem codex {n : Nat} (h : fn.code[n]? = some i) : ixU (.d (.tuple (fn.code.map Ins.d))) (.d (.int n)) M = .ok (.d i.d) M := by
  have : (fn.code.map Ins.d)[n]? = some i.d := by simp [h]
  simp [-List.getElem?_map, atN, this]
@[simp] theorem u_min (i j : Int) : minB [.d (.int i), .d (.int j)] M = .ok (.d (.int (if j < i then j else i))) M := rfl
@[simp] theorem u_max (i j : Int) : maxB [.d (.int i), .d (.int j)] M = .ok (.d (.int (if j > i then j else i))) M := rfl
end
theorem minmax (a b x y : Int) : (decide (a ≤ if y < x then y else x) && decide ((if y > x then y else x) < b)) = ((decide (a ≤ x) && decide (x < b)) && (decide (a ≤ y) && decide (y < b))) := by
  rw [Bool.eq_iff_iff]
  simp only [Bool.and_eq_true, decide_eq_true_eq]
  split <;> split <;> omega
theorem setAt {M : Sto} {l : Nat} {o : Ob} (h : M[l]? = some o) (x : Ob) : (M.set l x)[l]? = some x := List.getElem?_set_self (st_lt h)
theorem c_law_let {lf lr : Nat} {p : Nat × Nat} {ps : List (Nat × Nat)} {f : Frm} {r : List Frm} {row : List Int} {M : Sto} (h : LawSt M lf lr (p :: ps) (f :: r) row) {F : List Fn} (hFs : FsK F) {fn : Fn} {i : Ins} (hF : F[f.num]? = some fn) (hr : f.regs.length = fn.many) (hi : fn.code[f.at_]? = some i) :
    ∃ J, C__law_is_let [.d (fnsD F), .r lf] M = .ok (.d (.bool (letP f i))) (M ++ J) := by
  have R := hFs _ _ hF
  have ok := R.ins _ _ hi
  have m3 := R.m3
  rw [← hr] at ok m3
  have k0 := h.fr
  rw [List.reverse_cons, List.map_append, List.map_cons, List.map_nil] at k0
  obtain ⟨k1, k2⟩ := h.top
  have k3 := fnx (M := M) hF
  have k4 := codex (M := M) hi
  have z0 : (intsU f.regs)[0]? = some (.d (.int (reg f 0))) := by rw [← atU f 0 (by omega)]; exact (at0 _).symm
  have z1 : (intsU f.regs)[1]? = some (.d (.int (reg f 1))) := by rw [← atU f 1 (by omega)]; exact (at1 _).symm
  have cmpC : ∀ (w : Str) (a q : Nat) (rest : List PyData), a < f.regs.length → q < f.regs.length → i.d = .tuple (.str w :: .int a :: .int q :: rest) → inU false (.d (.str w)) (.d (.tuple [.str "swap", .str "atmost", .str "below"])) M = .ok (.d (.bool true)) M →
      C__law_is_let [.d (fnsD F), .r lf] M = .ok (.d (.bool (inP f a && inP f q))) M := by
    intro w a q rest ha hq hd hw
    have y1 := atU f a ha
    have y2 := atU f q hq
    have mm := minmax (reg f 0) (reg f 1) (reg f a) (reg f q)
    simp [C__law_is_let, b__law_is_let, runC, k0, L2.atI_last, k1, k2, k3, k4, hd, z0, z1, hw, y1, y2]
    rw [mm]
    rfl
  cases i with
  | mv k a q =>
    have y := atU f q ok.2
    refine ⟨[], ?_⟩
    match k with
    | 0 =>
      simp only [Ins.d, mvW] at k4
      simp [C__law_is_let, b__law_is_let, runC, k0, L2.atI_last, k1, k2, k3, k4, z0, z1, y, letP, mvI]
    | 1 =>
      simp only [Ins.d, mvW] at k4
      simp [C__law_is_let, b__law_is_let, runC, k0, L2.atI_last, k1, k2, k3, k4, z0, z1, y, letP, mvI]
      try rfl
    | 2 =>
      simp only [Ins.d, mvW] at k4
      simp [C__law_is_let, b__law_is_let, runC, k0, L2.atI_last, k1, k2, k3, k4, z0, z1, y, letP, mvI]
      try rfl
  | swap a q => exact ⟨[], by rw [List.append_nil]; exact cmpC "swap" a q [] ok.1 ok.2 rfl (by simp)⟩
  | cmp k a q g =>
    match k with
    | 0 =>
      refine ⟨[], ?_⟩
      simp only [Ins.d, cmpW] at k4
      simp [C__law_is_let, b__law_is_let, runC, k0, L2.atI_last, k1, k2, k3, k4, z0, z1, letP]
    | 1 =>
      refine ⟨[], ?_⟩
      simp only [Ins.d, cmpW] at k4
      simp [C__law_is_let, b__law_is_let, runC, k0, L2.atI_last, k1, k2, k3, k4, z0, z1, letP]
    | 2 => exact ⟨[], by rw [List.append_nil]; exact cmpC "atmost" a q [.int g] ok.1 ok.2.1 rfl (by simp)⟩
    | 3 => exact ⟨[], by rw [List.append_nil]; exact cmpC "below" a q [.int g] ok.1 ok.2.1 rfl (by simp)⟩
  | jump g =>
    refine ⟨[], ?_⟩
    simp only [Ins.d] at k4
    simp [C__law_is_let, b__law_is_let, runC, k0, L2.atI_last, k1, k2, k3, k4, z0, z1, letP]
  | call n a b o =>
    have y1 := atU f a ok.2.1
    have y2 := atU f b ok.2.2.1
    refine ⟨[.lst [.d (.int (reg f a)), .d (.int (reg f b))]], ?_⟩
    simp only [Ins.d] at k4
    simp [C__law_is_let, b__law_is_let, runC, k0, L2.atI_last, k1, k2, k3, k4, z0, z1, letP, cLoop, wipeE, cTrue, line0, y1, y2]
    rw [Bool.and_assoc]
  | ret o =>
    refine ⟨[], ?_⟩
    simp only [Ins.d] at k4
    simp [C__law_is_let, b__law_is_let, runC, k0, L2.atI_last, k1, k2, k3, k4, z0, z1, letP]
end RSK

end
section
set_option Elab.async false
set_option linter.all false
set_option autoImplicit false
set_option maxRecDepth 100000
set_option maxHeartbeats 1000000
/-! K06I: the law's frames made; traps. -/
namespace RSK
open PySem PySem.Spec PyProof.Rows L2 RS
@[simp] theorem mul_r (l : Nat) (k : Int) (M : Sto) : mulU (.r l) (.d (.int k)) M = (match M[l]? with
    | some (.lst us) => if -1000 ≤ k ∧ k ≤ 1000 ∧ us.length ≤ 1000 then .ok (.r M.length) (M ++ [.lst (List.replicate k.toNat us).flatten]) else .bad
    | _ => .bad) := rfl
@[simp] theorem add_r (l k : Nat) (M : Sto) : addU (.r l) (.r k) M = (match M[l]?, M[k]? with
    | some (.lst us), some (.lst vs) => if us.length + vs.length ≤ sizeLine then .ok (.r M.length) (M ++ [.lst (us ++ vs)]) else .bad
    | _, _ => .bad) := rfl
theorem zerosU (n : Nat) : (List.replicate n [U.d (PyData.int 0)]).flatten = intsU (List.replicate n 0) := by
  induction n with
  | zero => rfl
  | succ n ih => simp [List.replicate_succ, ih, intsU]
theorem c_law_entered {F : List Fn} {n : Nat} {fn : Fn} (hF : F[n]? = some fn) {ps : List Int} (hp : ps.length ≤ fn.many) (hm : fn.many < 100) {u : U} {M : Sto} (hu : u = .d (intsD ps) ∨ ∃ l, u = .r l ∧ M[l]? = some (.lst (intsU ps))) (c : PyData) :
    ∃ J, C__law_entered [.d (fnsD F), .d (.int n), u, .d c] M = .ok (.r (M.length + 4)) (M ++ J) ∧ J.length = 5 ∧ FrAt (M ++ J) (M.length + 4, M.length + 3) (.int n) (.int 0) (ps ++ List.replicate (fn.many - ps.length) 0) c := by
  have k3 := fun M' => fnx (M := M') hF
  have h1 : (-1000 : Int) ≤ (fn.many : Int) - ps.length := by omega
  have h2 : (fn.many : Int) - ps.length ≤ 1000 := by omega
  have h3 : ((fn.many : Int) - ps.length).toNat = fn.many - ps.length := by omega
  have h4 : ps.length + (fn.many - ps.length) ≤ sizeLine := line_lt (by omega)
  have l1 : listB [u] M = .ok (.r M.length) (M ++ [.lst (intsU ps)]) := by
    rcases hu with rfl | ⟨l, rfl, hl⟩
    · simp [intsD, intsU]
    · simp [hl]
  have l2 : ∀ J, lenB [u] (M ++ J) = .ok (.d (.int ps.length)) (M ++ J) := fun J => by
    rcases hu with rfl | ⟨l, rfl, hl⟩
    · simp [intsD]
    · simp [st_app hl J, intsU]
  refine ⟨[.lst (intsU ps), .lst [.d (.int 0)], .lst (intsU (List.replicate (fn.many - ps.length) 0)), .lst (intsU (ps ++ List.replicate (fn.many - ps.length) 0)), .lst [.d (.int n), .d (.int 0), .r (M.length + 3), .d c]], ?_, rfl, ?_, ?_⟩
  · have e : intsU (ps ++ List.replicate (fn.many - ps.length) 0) = intsU ps ++ intsU (List.replicate (fn.many - ps.length) 0) := by simp [intsU]
    have e2 : (intsU ps).length = ps.length := by simp [intsU]
    have e3 : ∀ k, (intsU (List.replicate k 0)).length = k := by simp [intsU]
    rw [e]
    simp [C__law_entered, b__law_entered, runC, l1, l2, k3, h1, h2, h3, zerosU, e2, e3, h4]
    simp [intsU]
  · simp
  · simp
theorem c_law_trap1 {F : List Fn} (hFs : FsK F) {f : Frm} {r : List Frm} (h : StkK F (f :: r)) (hl : r.length < 99) {fn : Fn} (hF : F[f.num]? = some fn) (hr : f.regs.length = fn.many) {i : Ins} (hi : fn.code[f.at_]? = some i) (hb : letP f i = true) (row : List Int) (M : Sto) :
    ∃ J, C__law_trap [.d (fnsD F), .d (stD (r.reverse ++ [f]) row)] M = .ok (.d .none) (M ++ J) := by
  obtain ⟨J, k⟩ := c_checked1 hFs h hl hF hr hi hb row M
  refine ⟨J, ?_⟩
  simp [C__law_trap, b__law_trap, runC, sTryF, k]
theorem lkAt (a b : PyData) : List.lookup ("at" : Str) [(("number" : Str), a), ("at", b)] = some b := rfl
theorem c_law_trap0 {F : List Fn} (hFs : FsK F) {f : Frm} {r : List Frm} {fn : Fn} (hF : F[f.num]? = some fn) (hr : f.regs.length = fn.many) {i : Ins} (hi : fn.code[f.at_]? = some i) (hb : letP f i = false) (row : List Int) (M : Sto) :
    ∃ J, C__law_trap [.d (fnsD F), .d (stD (r.reverse ++ [f]) row)] M = .ok (.d (.tuple [.int f.num, .int f.at_])) (M ++ J) := by
  obtain ⟨J, k⟩ := c_checked0 (r := r) hFs hF hr hi hb row M
  refine ⟨J, ?_⟩
  simp [C__law_trap, b__law_trap, runC, sTryF, k, mt_Trap, lkAt]
end RSK

end
section
set_option Elab.async false
set_option linter.all false
set_option autoImplicit false
set_option maxRecDepth 100000
set_option maxHeartbeats 2000000
/-! K06J: what the law does at a turn. -/
namespace RSK
open PySem PySem.Spec PyProof.Rows L2 RS
@[simp] theorem x_setU (l : Nat) (k : Int) (v : U) (M : Sto) : setU (.r l) (.d (.int k)) v M = (match M[l]? with
    | some (.lst us) => match ixN us.length k with
      | some j => some (M.set l (.lst (us.set j v)))
      | none => none
    | _ => none) := rfl
@[simp] theorem x_getI (l : Nat) (k : Int) (M : Sto) : getI (.r l) (.d (.int k)) M = (match M[l]? with
    | some (.lst us) => (match atI us k with
      | some (.d (.int x)) => some x
      | _ => none)
    | _ => none) := rfl
@[simp] theorem ix41 : ixN 4 1 = some 1 := rfl
theorem ixn (n k : Nat) (h : k < n) : ixN n (k : Int) = some k := by
  unfold ixN
  rw [if_pos (by omega), if_pos (by omega)]
  simp
/-- outside the law's places all stays -/
def Kept (S S' : List Nat) (M M' : Sto) : Prop := M.length ≤ M'.length ∧ ∀ t, t < M.length → t ∉ S → M'[t]? = M[t]? ∧ t ∉ S'
theorem Kept.one {S : List Nat} {M : Sto} {l : Nat} {x : Ob} (h : l ∈ S) : Kept S S M (M.set l x) :=
  ⟨by simp, fun t ht hn => ⟨List.getElem?_set_ne (fun (z : l = t) => hn (by rw [← z]; exact h)), hn⟩⟩
theorem Keep.one {S : List Nat} {M : Sto} {l : Nat} {x : Ob} (h : l ∈ S) : Keep S M (M.set l x) := fun t ht hn => List.getElem?_set_ne (fun (z : l = t) => hn (by rw [← z]; exact h))
section
variable {lf lr : Nat} {p : Nat × Nat} {ps : List (Nat × Nat)} {f : Frm} {r : List Frm} {row : List Int} {M : Sto} {F : List Fn} {fn : Fn}
/-- the law's turn, told -/
def DoOn (F : List Fn) (lf lr : Nat) (ps : List (Nat × Nat)) (M : Sto) (stk' : List Frm) (row' : List Int) : Prop :=
  ∃ M' ps', C__law_do [.d (fnsD F), .r lf, .r lr] M = .ok (.d (.bool false)) M' ∧ LawSt M' lf lr ps' stk' row' ∧ Kept (lf :: lr :: locs ps) (lf :: lr :: locs ps') M M'
theorem do_jump (h : LawSt M lf lr (p :: ps) (f :: r) row) {g : Nat} (hF : F[f.num]? = some fn) (hi : fn.code[f.at_]? = some (.jump g)) : DoOn F lf lr (p :: ps) M ({ f with at_ := g } :: r) row := by
  have k0 := h.fr
  rw [List.reverse_cons, List.map_append, List.map_cons, List.map_nil] at k0
  obtain ⟨k1, k2⟩ := h.top
  have k3 := fnx (M := M) hF
  have k4 := codex (M := M) hi
  have nd := h.nd
  simp only [locs, List.nodup_cons, List.mem_cons, not_or] at nd
  obtain ⟨⟨nfr, nf1, nf2, nfs⟩, ⟨nr1, nr2, nrs⟩, ⟨n12, n1s⟩, n2s, nds⟩ := nd
  have q1 := fun x => setAt k1 x
  refine ⟨M.set p.1 (.lst [.d (.int f.num), .d (.int g), .r p.2, .d (oD f.into)]), p :: ps, ?_, h.put ⟨setAt k1 _, (List.getElem?_set_ne n12).trans k2⟩ ((List.getElem?_set_ne (Ne.symm nr1)).trans h.row) (Keep.one (by simp)), Kept.one (by simp [locs])⟩
  simp only [Ins.d] at k4
  simp [C__law_do, b__law_do, runC, k0, L2.atI_last, k1, k2, k3, k4, q1]
theorem do_cmp (h : LawSt M lf lr (p :: ps) (f :: r) row) {k : Fin 4} {a q g : Nat} (ha : a < f.regs.length) (hq : q < f.regs.length) (hF : F[f.num]? = some fn) (hi : fn.code[f.at_]? = some (.cmp k a q g)) : DoOn F lf lr (p :: ps) M ((if cmpP k row (reg f a) (reg f q) then { f with at_ := g } else adv f) :: r) row := by
  have k0 := h.fr
  rw [List.reverse_cons, List.map_append, List.map_cons, List.map_nil] at k0
  obtain ⟨k1, k2⟩ := h.top
  have k3 := fnx (M := M) hF
  have k4 := codex (M := M) hi
  have nd := h.nd
  simp only [locs, List.nodup_cons, List.mem_cons, not_or] at nd
  obtain ⟨⟨nfr, nf1, nf2, nfs⟩, ⟨nr1, nr2, nrs⟩, ⟨n12, n1s⟩, n2s, nds⟩ := nd
  have q1 := fun x => setAt k1 x
  have q2 : ∀ x, (M.set p.1 x)[p.2]? = some (.lst (intsU f.regs)) := fun x => (List.getElem?_set_ne n12).trans k2
  have q3 : ∀ x, (M.set p.1 x)[lr]? = some (.lst (intsU row)) := fun x => (List.getElem?_set_ne (Ne.symm nr1)).trans h.row
  have y1 := atU f a ha
  have y2 := atU f q hq
  have wd : ∀ (M' : Sto), M'[lr]? = some (.lst (intsU row)) → ∀ x : Int, C__law_word [.r lr, .d (.int x)] M' = .ok (.d (.int (cellP row x))) M' := by
    intro M' hM x
    unfold cellP
    have e2 : (intsU row).length = row.length := by simp [intsU]
    by_cases h0 : 0 ≤ x
    · obtain ⟨n, rfl⟩ := Int.eq_ofNat_of_zero_le h0
      by_cases h1 : n < row.length
      · have e3 : (intsU row)[n]? = some (.d (.int (row.getD n 0))) := by simp [intsU, h1]
        have e4 : row.getD n 0 = row[n] := by simp [h1]
        rw [e4] at e3
        simp [C__law_word, b__law_word, runC, hM, e2, h1, atN, e3]
        simp [intsU]
      · simp [C__law_word, b__law_word, runC, hM, e2, h1]
    · simp [C__law_word, b__law_word, runC, hM, e2, h0]
  cases hb : cmpP k row (reg f a) (reg f q) with
  | true =>
    match k with
    | 0 =>
      simp only [Ins.d, cmpW] at k4
      simp only [cmpP, decide_eq_true_eq, decide_eq_false_iff_not] at hb
      refine ⟨M.set p.1 (.lst [.d (.int f.num), .d (.int ((g : Nat) : Int)), .r p.2, .d (oD f.into)]), p :: ps, ?_, h.put (f' := { f with at_ := g }) ⟨setAt k1 _, (List.getElem?_set_ne n12).trans k2⟩ ((List.getElem?_set_ne (Ne.symm nr1)).trans h.row) (Keep.one (by simp)), Kept.one (by simp [locs])⟩
      simp [C__law_do, b__law_do, runC, k0, L2.atI_last, k1, k2, k3, k4, q1, q2, y1, y2, wd, q3, hb]
    | 1 =>
      simp only [Ins.d, cmpW] at k4
      simp only [cmpP, decide_eq_true_eq, decide_eq_false_iff_not] at hb
      refine ⟨M.set p.1 (.lst [.d (.int f.num), .d (.int ((g : Nat) : Int)), .r p.2, .d (oD f.into)]), p :: ps, ?_, h.put (f' := { f with at_ := g }) ⟨setAt k1 _, (List.getElem?_set_ne n12).trans k2⟩ ((List.getElem?_set_ne (Ne.symm nr1)).trans h.row) (Keep.one (by simp)), Kept.one (by simp [locs])⟩
      simp [C__law_do, b__law_do, runC, k0, L2.atI_last, k1, k2, k3, k4, q1, q2, y1, y2, wd, q3, hb]
    | 2 =>
      simp only [Ins.d, cmpW] at k4
      simp only [cmpP, decide_eq_true_eq, decide_eq_false_iff_not] at hb
      refine ⟨M.set p.1 (.lst [.d (.int f.num), .d (.int ((g : Nat) : Int)), .r p.2, .d (oD f.into)]), p :: ps, ?_, h.put (f' := { f with at_ := g }) ⟨setAt k1 _, (List.getElem?_set_ne n12).trans k2⟩ ((List.getElem?_set_ne (Ne.symm nr1)).trans h.row) (Keep.one (by simp)), Kept.one (by simp [locs])⟩
      simp [C__law_do, b__law_do, runC, k0, L2.atI_last, k1, k2, k3, k4, q1, q2, y1, y2, wd, q3, hb]
    | 3 =>
      simp only [Ins.d, cmpW] at k4
      simp only [cmpP, decide_eq_true_eq, decide_eq_false_iff_not] at hb
      refine ⟨M.set p.1 (.lst [.d (.int f.num), .d (.int ((g : Nat) : Int)), .r p.2, .d (oD f.into)]), p :: ps, ?_, h.put (f' := { f with at_ := g }) ⟨setAt k1 _, (List.getElem?_set_ne n12).trans k2⟩ ((List.getElem?_set_ne (Ne.symm nr1)).trans h.row) (Keep.one (by simp)), Kept.one (by simp [locs])⟩
      simp [C__law_do, b__law_do, runC, k0, L2.atI_last, k1, k2, k3, k4, q1, q2, y1, y2, wd, q3, hb]
  | false =>
    match k with
    | 0 =>
      simp only [Ins.d, cmpW] at k4
      simp only [cmpP, decide_eq_true_eq, decide_eq_false_iff_not] at hb
      refine ⟨M.set p.1 (.lst [.d (.int f.num), .d (.int (((f.at_ + 1) : Nat) : Int)), .r p.2, .d (oD f.into)]), p :: ps, ?_, h.put (f' := { f with at_ := (f.at_ + 1) }) ⟨setAt k1 _, (List.getElem?_set_ne n12).trans k2⟩ ((List.getElem?_set_ne (Ne.symm nr1)).trans h.row) (Keep.one (by simp)), Kept.one (by simp [locs])⟩
      simp [C__law_do, b__law_do, runC, k0, L2.atI_last, k1, k2, k3, k4, q1, q2, y1, y2, wd, q3, hb]
    | 1 =>
      simp only [Ins.d, cmpW] at k4
      simp only [cmpP, decide_eq_true_eq, decide_eq_false_iff_not] at hb
      refine ⟨M.set p.1 (.lst [.d (.int f.num), .d (.int (((f.at_ + 1) : Nat) : Int)), .r p.2, .d (oD f.into)]), p :: ps, ?_, h.put (f' := { f with at_ := (f.at_ + 1) }) ⟨setAt k1 _, (List.getElem?_set_ne n12).trans k2⟩ ((List.getElem?_set_ne (Ne.symm nr1)).trans h.row) (Keep.one (by simp)), Kept.one (by simp [locs])⟩
      simp [C__law_do, b__law_do, runC, k0, L2.atI_last, k1, k2, k3, k4, q1, q2, y1, y2, wd, q3, hb]
    | 2 =>
      simp only [Ins.d, cmpW] at k4
      simp only [cmpP, decide_eq_true_eq, decide_eq_false_iff_not] at hb
      refine ⟨M.set p.1 (.lst [.d (.int f.num), .d (.int (((f.at_ + 1) : Nat) : Int)), .r p.2, .d (oD f.into)]), p :: ps, ?_, h.put (f' := { f with at_ := (f.at_ + 1) }) ⟨setAt k1 _, (List.getElem?_set_ne n12).trans k2⟩ ((List.getElem?_set_ne (Ne.symm nr1)).trans h.row) (Keep.one (by simp)), Kept.one (by simp [locs])⟩
      simp [C__law_do, b__law_do, runC, k0, L2.atI_last, k1, k2, k3, k4, q1, q2, y1, y2, wd, q3, hb]
    | 3 =>
      simp only [Ins.d, cmpW] at k4
      simp only [cmpP, decide_eq_true_eq, decide_eq_false_iff_not] at hb
      refine ⟨M.set p.1 (.lst [.d (.int f.num), .d (.int (((f.at_ + 1) : Nat) : Int)), .r p.2, .d (oD f.into)]), p :: ps, ?_, h.put (f' := { f with at_ := (f.at_ + 1) }) ⟨setAt k1 _, (List.getElem?_set_ne n12).trans k2⟩ ((List.getElem?_set_ne (Ne.symm nr1)).trans h.row) (Keep.one (by simp)), Kept.one (by simp [locs])⟩
      simp [C__law_do, b__law_do, runC, k0, L2.atI_last, k1, k2, k3, k4, q1, q2, y1, y2, wd, q3, hb]
end
end RSK

end
section
set_option Elab.async false
set_option linter.all false
set_option autoImplicit false
set_option maxRecDepth 100000
set_option maxHeartbeats 2000000
/-! K06K: moves, exchanges, calls, ends, by the law. -/
namespace RSK
open PySem PySem.Spec PyProof.Rows L2 RS
theorem intsU_len (l : List Int) : (intsU l).length = l.length := by simp [intsU]
theorem intsU_set (l : List Int) (n : Nat) (v : Int) : (intsU l).set n (.d (.int v)) = intsU (l.set n v) := by simp [intsU, List.map_set]
theorem Kept.two {S : List Nat} {M : Sto} {a b : Nat} {x y : Ob} (ha : a ∈ S) (hb : b ∈ S) : Kept S S M ((M.set a x).set b y) :=
  ⟨by simp, fun t ht hn => ⟨(List.getElem?_set_ne (fun (z : b = t) => hn (by rw [← z]; exact hb))).trans (List.getElem?_set_ne (fun (z : a = t) => hn (by rw [← z]; exact ha))), hn⟩⟩
theorem Keep.two {S : List Nat} {M : Sto} {a b : Nat} {x y : Ob} (ha : a ∈ S) (hb : b ∈ S) : Keep S M ((M.set a x).set b y) := fun t ht hn => (List.getElem?_set_ne (fun (z : b = t) => hn (by rw [← z]; exact hb))).trans (List.getElem?_set_ne (fun (z : a = t) => hn (by rw [← z]; exact ha)))
section
variable {lf lr : Nat} {p : Nat × Nat} {ps : List (Nat × Nat)} {f : Frm} {r : List Frm} {row : List Int} {M : Sto} {F : List Fn} {fn : Fn}
theorem do_mv (h : LawSt M lf lr (p :: ps) (f :: r) row) {k : Fin 3} {a q : Nat} (ha : a < f.regs.length) (hq : q < f.regs.length) (hF : F[f.num]? = some fn) (hi : fn.code[f.at_]? = some (.mv k a q)) :
    DoOn F lf lr (p :: ps) M ({ adv f with regs := f.regs.set a (reg f q + mvI k) } :: r) row := by
  have k0 := h.fr
  rw [List.reverse_cons, List.map_append, List.map_cons, List.map_nil] at k0
  obtain ⟨k1, k2⟩ := h.top
  have k3 := fnx (M := M) hF
  have k4 := codex (M := M) hi
  have nd := h.nd
  simp only [locs, List.nodup_cons, List.mem_cons, not_or] at nd
  obtain ⟨⟨nfr, nf1, nf2, nfs⟩, ⟨nr1, nr2, nrs⟩, ⟨n12, n1s⟩, n2s, nds⟩ := nd
  have q1 := fun x => setAt k1 x
  have q2 : ∀ x, (M.set p.1 x)[p.2]? = some (.lst (intsU f.regs)) := fun x => (List.getElem?_set_ne n12).trans k2
  have y2 := atU f q hq
  have w1 : ixN (intsU f.regs).length (a : Int) = some a := ixn _ _ (by rw [intsU_len]; exact ha)
  have fin : ∀ v : Int, C__law_do [.d (fnsD F), .r lf, .r lr] M = .ok (.d (.bool false)) ((M.set p.1 (.lst [.d (.int f.num), .d (.int ((f.at_ : Int) + 1)), .r p.2, .d (oD f.into)])).set p.2 (.lst (intsU (f.regs.set a v)))) →
      DoOn F lf lr (p :: ps) M ({ adv f with regs := f.regs.set a v } :: r) row := fun v hv =>
    ⟨_, p :: ps, hv, h.put (f' := { adv f with regs := f.regs.set a v }) ⟨(List.getElem?_set_ne (Ne.symm n12)).trans (q1 _), setAt (q2 _) _⟩ ((List.getElem?_set_ne (Ne.symm nr2)).trans ((List.getElem?_set_ne (Ne.symm nr1)).trans h.row)) (Keep.two (by simp) (by simp)), Kept.two (by simp [locs]) (by simp [locs])⟩
  apply fin
  match k with
  | 0 =>
    simp only [Ins.d, mvW] at k4
    simp [C__law_do, b__law_do, runC, k0, L2.atI_last, k1, k2, k3, k4, q1, q2, y2, w1, intsU_set, mvI]
  | 1 =>
    simp only [Ins.d, mvW] at k4
    simp [C__law_do, b__law_do, runC, k0, L2.atI_last, k1, k2, k3, k4, q1, q2, y2, w1, intsU_set, mvI]
  | 2 =>
    simp only [Ins.d, mvW] at k4
    simp [C__law_do, b__law_do, runC, k0, L2.atI_last, k1, k2, k3, k4, q1, q2, y2, w1, intsU_set, mvI]
theorem do_swap (h : LawSt M lf lr (p :: ps) (f :: r) row) {a q : Nat} (ha : a < f.regs.length) (hq : q < f.regs.length) (hF : F[f.num]? = some fn) (hi : fn.code[f.at_]? = some (.swap a q)) :
    DoOn F lf lr (p :: ps) M (adv f :: r) (swapP row (reg f a) (reg f q)) := by
  have k0 := h.fr
  rw [List.reverse_cons, List.map_append, List.map_cons, List.map_nil] at k0
  obtain ⟨k1, k2⟩ := h.top
  have k3 := fnx (M := M) hF
  have k4 := codex (M := M) hi
  have nd := h.nd
  simp only [locs, List.nodup_cons, List.mem_cons, not_or] at nd
  obtain ⟨⟨nfr, nf1, nf2, nfs⟩, ⟨nr1, nr2, nrs⟩, ⟨n12, n1s⟩, n2s, nds⟩ := nd
  have q1 := fun x => setAt k1 x
  have q2 : ∀ x, (M.set p.1 x)[p.2]? = some (.lst (intsU f.regs)) := fun x => (List.getElem?_set_ne n12).trans k2
  have q3 : ∀ x, (M.set p.1 x)[lr]? = some (.lst (intsU row)) := fun x => (List.getElem?_set_ne (Ne.symm nr1)).trans h.row
  have y1 := atU f a ha
  have y2 := atU f q hq
  simp only [Ins.d] at k4
  have same : swapP row (reg f a) (reg f q) = row → C__law_do [.d (fnsD F), .r lf, .r lr] M = .ok (.d (.bool false)) (M.set p.1 (.lst [.d (.int f.num), .d (.int ((f.at_ : Int) + 1)), .r p.2, .d (oD f.into)])) →
      DoOn F lf lr (p :: ps) M (adv f :: r) (swapP row (reg f a) (reg f q)) := fun e hv =>
    ⟨_, p :: ps, hv, h.put (f' := adv f) ⟨q1 _, q2 _⟩ (by rw [e]; exact q3 _) (Keep.one (by simp)), Kept.one (by simp [locs])⟩
  by_cases hx : 0 ≤ reg f a ∧ reg f a < row.length
  · by_cases hy : 0 ≤ reg f q ∧ reg f q < row.length
    · obtain ⟨n, en⟩ := Int.eq_ofNat_of_zero_le hx.1
      obtain ⟨m, em⟩ := Int.eq_ofNat_of_zero_le hy.1
      have hn : n < row.length := by omega
      have hm : m < row.length := by omega
      have e3 : swapP row (reg f a) (reg f q) = (row.set n row[m]).set m row[n] := by
        rw [en, em]
        unfold swapP
        rw [if_pos ⟨by omega, by omega⟩]
        simp [hn, hm]
      have a1 : (intsU row)[n]? = some (.d (.int row[n])) := by simp [intsU, hn]
      have a2 : (intsU row)[m]? = some (.d (.int row[m])) := by simp [intsU, hm]
      have i1 : ixN row.length (n : Int) = some n := ixn _ _ hn
      have i2 : ixN row.length (m : Int) = some m := ixn _ _ hm
      have q4 : ∀ x y, ((M.set p.1 x).set lr y)[lr]? = some y := fun x y => setAt (q3 x) y
      refine ⟨(M.set p.1 (.lst [.d (.int f.num), .d (.int ((f.at_ : Int) + 1)), .r p.2, .d (oD f.into)])).set lr (.lst (intsU ((row.set n row[m]).set m row[n]))), p :: ps, ?_, ?_, Kept.two (by simp [locs]) (by simp)⟩
      · rw [atN] at y1 y2
        simp [C__law_do, b__law_do, runC, k0, L2.atI_last, k1, k2, k3, k4, q1, q2, q3, q4, y1, y2, en, em, intsU_len, hn, hm, atN, a1, a2, i1, i2, intsU_set]
        simp [intsU, List.map_set]
      · rw [e3]
        exact h.put (f' := adv f) ⟨(List.getElem?_set_ne nr1).trans (q1 _), (List.getElem?_set_ne nr2).trans (q2 _)⟩ (q4 _ _) (Keep.two (by simp) (by simp))
    · have e3 : swapP row (reg f a) (reg f q) = row := by unfold swapP; rw [if_neg (by omega)]
      apply same e3
      by_cases h0 : 0 ≤ reg f q
      · have h1 : ¬ reg f q < row.length := fun z => hy ⟨h0, z⟩
        simp [C__law_do, b__law_do, runC, k0, L2.atI_last, k1, k2, k3, k4, q1, q2, q3, y1, y2, intsU_len, hx.1, hx.2, h0, h1]
      · simp [C__law_do, b__law_do, runC, k0, L2.atI_last, k1, k2, k3, k4, q1, q2, q3, y1, y2, intsU_len, hx.1, hx.2, h0]
  · have e3 : swapP row (reg f a) (reg f q) = row := by unfold swapP; rw [if_neg (by omega)]
    apply same e3
    by_cases h0 : 0 ≤ reg f a
    · have h1 : ¬ reg f a < row.length := fun z => hx ⟨h0, z⟩
      simp [C__law_do, b__law_do, runC, k0, L2.atI_last, k1, k2, k3, k4, q1, q2, q3, y1, y2, intsU_len, h0, h1]
    · simp [C__law_do, b__law_do, runC, k0, L2.atI_last, k1, k2, k3, k4, q1, q2, q3, y1, y2, intsU_len, h0]
end
end RSK

end
section
set_option Elab.async false
set_option linter.all false
set_option autoImplicit false
set_option maxRecDepth 100000
set_option maxHeartbeats 2000000
/-! K06L: calls and ends, by the law. -/
namespace RSK
open PySem PySem.Spec PyProof.Rows L2 RS
@[simp] theorem x_app (l : Nat) (w : U) (M : Sto) : appU (.r l) [w] M = (match M[l]? with
    | some (.lst vs) => if vs.length < sizeLine then .ok (.d .none) (M.set l (.lst (vs ++ [w]))) else .bad
    | _ => .bad) := rfl
@[simp] theorem x_pop (l : Nat) (M : Sto) : popU (.r l) [] M = (match M[l]? with
    | some (.lst vs) => (match vs[vs.length - 1]? with
      | some w => .ok w (M.set l (.lst vs.dropLast))
      | none => .bad)
    | _ => .bad) := rfl
@[simp] theorem x_isL (l : Nat) (M : Sto) : isL (.r l) M = (match M[l]? with
    | some (.lst _) => true
    | _ => false) := rfl
section
variable {lf lr : Nat} {p : Nat × Nat} {ps : List (Nat × Nat)} {f : Frm} {r : List Frm} {row : List Int} {M : Sto} {F : List Fn} {fn : Fn}
theorem do_call (h : LawSt M lf lr (p :: ps) (f :: r) row) (hl : r.length < 99) {n a b : Nat} {o : Option Nat} {fn2 : Fn} (h2 : F[n]? = some fn2) (m2 : 2 ≤ fn2.many) (m9 : fn2.many < 100) (ha : a < f.regs.length) (hb : b < f.regs.length) (hF : F[f.num]? = some fn) (hi : fn.code[f.at_]? = some (.call n a b o)) :
    DoOn F lf lr (p :: ps) M (⟨n, 0, reg f a :: reg f b :: List.replicate (fn2.many - 2) 0, o⟩ :: adv f :: r) row := by
  have k0 := h.fr
  rw [List.reverse_cons, List.map_append, List.map_cons, List.map_nil] at k0
  obtain ⟨k1, k2⟩ := h.top
  have k3 := fnx (M := M) hF
  have k4 := codex (M := M) hi
  have nd := h.nd
  simp only [locs, List.nodup_cons, List.mem_cons, not_or] at nd
  obtain ⟨⟨nfr, nf1, nf2, nfs⟩, ⟨nr1, nr2, nrs⟩, ⟨n12, n1s⟩, n2s, nds⟩ := nd
  have q1 := fun x => setAt k1 x
  have q2 : ∀ x, (M.set p.1 x)[p.2]? = some (.lst (intsU f.regs)) := fun x => (List.getElem?_set_ne n12).trans k2
  have q3 : ∀ x, (M.set p.1 x)[lf]? = some (.lst (ps.reverse.map (fun p => U.r p.1) ++ [.r p.1])) := fun x => (List.getElem?_set_ne (Ne.symm nf1)).trans k0
  have y1 := atU f a ha
  have y2 := atU f b hb
  have L1 : LawSt (M.set p.1 (.lst [.d (.int f.num), .d (.int ((f.at_ : Int) + 1)), .r p.2, .d (oD f.into)])) lf lr (p :: ps) (adv f :: r) row :=
    h.put (f' := adv f) ⟨q1 _, q2 _⟩ ((List.getElem?_set_ne (Ne.symm nr1)).trans h.row) (Keep.one (by simp))
  obtain ⟨J, e1, e2, e3⟩ := c_law_entered (M := M.set p.1 (.lst [.d (.int f.num), .d (.int ((f.at_ : Int) + 1)), .r p.2, .d (oD f.into)]) ++ [.lst [.d (.int (reg f a)), .d (.int (reg f b))]]) h2 (ps := [reg f a, reg f b]) m2 m9
    (u := .r M.length) (.inr ⟨_, rfl, by simp [intsU]⟩) (oD o)
  simp only [List.length_append, List.length_set, List.length_cons, List.length_nil] at e1 e2 e3
  have lfM : lf < M.length := st_lt h.fr
  have q4 : ∀ x J', (M.set p.1 x ++ J')[lf]? = some (.lst (ps.reverse.map (fun p => U.r p.1) ++ [.r p.1])) := fun x J' => st_app (q3 x) J'
  have q5 : ∀ x J1 J2, (M.set p.1 x ++ J1 ++ J2)[lf]? = some (.lst (ps.reverse.map (fun p => U.r p.1) ++ [.r p.1])) := fun x J1 J2 => st_app (q4 x J1) J2
  have hz : ps.length + 1 < sizeLine := by
    have := h.len
    simp at this
    exact Nat.lt_trans (show ps.length + 1 < 1000 by omega) (Nat.lt_trans (by decide) line_big)
  simp only [Ins.d] at k4
  refine ⟨(M.set p.1 (.lst [.d (.int f.num), .d (.int ((f.at_ : Int) + 1)), .r p.2, .d (oD f.into)]) ++ [Ob.lst [.d (.int (reg f a)), .d (.int (reg f b))]] ++ J).set lf (Ob.lst (ps.reverse.map (fun p : Nat × Nat => U.r p.1) ++ [U.r p.1] ++ [U.r (M.length + 1 + 4)])), (M.length + 1 + 4, M.length + 1 + 3) :: p :: ps, ?_, ?_, ?_⟩
  · simp [-List.append_assoc, C__law_do, b__law_do, runC, k0, L2.atI_last, k1, k2, k3, k4, q1, q2, q3, q4, y1, y2, cLoop, wipeE, cTrue, line0, e1, hz, q5]
  · refine L1.push (by simp; omega) (by simp; omega) (by simp) ⟨(List.getElem?_set_ne (by simp; omega)).trans e3.1, (List.getElem?_set_ne (by simp; omega)).trans e3.2⟩ ?_ ?_
    · rw [setAt (q5 _ _ _)]
      simp
    · intro l hl hn
      rw [List.getElem?_set_ne (by simpa using fun z => hn (by simp [z])), List.append_assoc, List.getElem?_append_left hl]
  · refine ⟨by simp, fun t ht hn => ⟨?_, ?_⟩⟩
    · have hn2 := hn
      simp only [locs, List.mem_cons, not_or] at hn2
      rw [List.getElem?_set_ne (fun z => hn2.1 z.symm), List.append_assoc, List.getElem?_append_left (by simpa using ht), List.getElem?_set_ne (fun z => hn2.2.2.1 z.symm)]
    · have hn2 := hn
      simp only [locs, List.mem_cons, not_or] at hn2 ⊢
      exact ⟨hn2.1, hn2.2.1, by omega, by omega, hn2.2.2⟩
end
end RSK

end
section
set_option Elab.async false
set_option linter.all false
set_option autoImplicit false
set_option maxRecDepth 100000
set_option maxHeartbeats 2000000
/-! K06M: the end of a call, by the law. -/
namespace RSK
open PySem PySem.Spec PyProof.Rows L2 RS
theorem at_oneU (x : U) : atI [x] (-1) = some x := L2.atI_last [] x
def frL (f : Frm) : PyData := .list [.int f.num, .int f.at_, .list (f.regs.map .int), oD f.into]
theorem mapM_app {α β : Type} (g : α → Option β) : ∀ (xs ys : List α) {us vs : List β}, xs.mapM g = some us → ys.mapM g = some vs → (xs ++ ys).mapM g = some (us ++ vs)
  | [], ys, us, vs, h1, h2 => by
    simp at h1
    subst h1
    simpa using h2
  | x :: xs, ys, us, vs, h1, h2 => by
    rw [List.mapM_cons] at h1
    rw [List.cons_append, List.mapM_cons]
    cases q : g x with
    | none => rw [q] at h1; cases h1
    | some y =>
      rw [q] at h1
      cases q2 : xs.mapM g with
      | none => rw [q2] at h1; cases h1
      | some zs =>
        rw [q2] at h1
        have h1 : some (y :: zs) = some us := h1
        cases h1
        rw [mapM_app g xs ys q2 h2]
        rfl
theorem mapM_ints (n : Nat) (M : Sto) : ∀ l : List Int, (intsU l).mapM (snap n M) = some (l.map .int)
  | [] => rfl
  | x :: l => by
    show ((U.d (.int x)) :: intsU l).mapM (snap n M) = _
    rw [List.mapM_cons, mapM_ints n M l]
    cases n <;> rfl
theorem snap_fr {M : Sto} {p : Nat × Nat} {f : Frm} (h : FrmAt M p f) : snap 3 M (.r p.1) = some (frL f) := by
  have e1 : snap 2 M (.r p.2) = some (.list (f.regs.map .int)) := by
    show (match M[p.2]? with
      | some (.lst us) => (us.mapM (snap 1 M)).map PyData.list
      | _ => none) = _
    rw [h.2]
    show ((intsU f.regs).mapM (snap 1 M)).map PyData.list = _
    rw [mapM_ints]
    rfl
  show (match M[p.1]? with
      | some (.lst us) => (us.mapM (snap 2 M)).map PyData.list
      | _ => none) = _
  rw [h.1]
  show (([U.d (.int f.num), .d (.int f.at_), .r p.2, .d (oD f.into)]).mapM (snap 2 M)).map PyData.list = _
  simp only [List.mapM_cons, List.mapM_nil, e1]
  rfl
theorem snap_frames {M : Sto} {lf lr : Nat} {ps : List (Nat × Nat)} {stk : List Frm} {row : List Int} (h : LawSt M lf lr ps stk row) : snap 4 M (.r lf) = some (.list (stk.reverse.map frL)) := by
  have key : ∀ (ps : List (Nat × Nat)) (stk : List Frm), ps.length = stk.length → (∀ (k : Nat) p f, ps[k]? = some p → stk[k]? = some f → FrmAt M p f) → (ps.reverse.map fun p => U.r p.1).mapM (snap 3 M) = some (stk.reverse.map frL) := by
    intro ps
    induction ps with
    | nil =>
      intro stk hl _
      cases stk with
      | nil => rfl
      | cons f stk => simp at hl
    | cons p ps ih =>
      intro stk hl ha
      cases stk with
      | nil => simp at hl
      | cons f stk =>
        have := ih stk (by simpa using hl) (fun k p f h1 h2 => ha (k + 1) p f h1 h2)
        rw [List.reverse_cons, List.reverse_cons, List.map_append, List.map_append]
        refine mapM_app _ _ _ this ?_
        have e := snap_fr (ha 0 p f rfl rfl)
        simp only [List.map_cons, List.map_nil, List.mapM_cons, List.mapM_nil, e]
        rfl
  show (match M[lf]? with
      | some (.lst us) => (us.mapM (snap 3 M)).map PyData.list
      | _ => none) = _
  rw [h.fr]
  show ((ps.reverse.map fun p => U.r p.1).mapM (snap 3 M)).map PyData.list = _
  rw [key ps stk h.len h.at_]
  rfl
theorem frL_ok (f : Frm) : (frL f).canLay0 = true ∧ (frL f).depth ≤ 3 := by
  have h1 := lay_ints f.regs
  have h2 := dep_ints f.regs
  have h3 := plain_ok (plain_oD f.into)
  constructor
  · simp [frL, PyData.canLay0, PyData.canLayAll0, h1, h3.1]
  · simp only [frL, PyData.depth, PyData.depthAll, h3.2]
    omega
theorem frLs_ok : ∀ fs : List Frm, PyData.canLayAll0 (fs.map frL) = true ∧ PyData.depthAll (fs.map frL) ≤ 3
  | [] => by simp [PyData.canLayAll0, PyData.depthAll]
  | f :: fs => by
    have h1 := frL_ok f
    have h2 := frLs_ok fs
    constructor
    · simp [PyData.canLayAll0, h1.1, h2.1]
    · simp only [List.map_cons, PyData.depthAll]
      omega
theorem shaped_frs (fs : List Frm) : SeqAt.shaped (.list (fs.map frL)) = true := by
  have h := frLs_ok fs
  apply shaped_of
  · simp only [PyData.canLay0]; exact h.1
  · simp only [PyData.depth]; omega
/-- frames == [] -/
theorem eq_empty {M : Sto} {l k : Nat} {fs : List Frm} (h : snap 4 M (.r l) = some (.list (fs.map frL))) (hk : M[k]? = some (.lst [])) : eqU' false (.r l) (.r k) M = .ok (.d (.bool fs.isEmpty)) M := by
  have h2 : snap 4 M (.r k) = some (.list []) := by
    show (match M[k]? with
      | some (.lst us) => (us.mapM (snap 3 M)).map PyData.list
      | _ => none) = _
    rw [hk]
    rfl
  have h3 : SeqAt.shaped (.list ([] : List PyData)) = true := shaped_frs []
  unfold eqU'
  rw [h, h2]
  show (if (SeqAt.shaped (.list (fs.map frL)) && SeqAt.shaped (.list [])) = true then R.ok (U.d (.bool (if false = true then !PyData.eqv (.list (fs.map frL)) (.list []) else PyData.eqv (.list (fs.map frL)) (.list [])))) M else R.bad) = _
  rw [shaped_frs, h3]
  cases fs with
  | nil => rfl
  | cons f fs => rfl
section
variable {lf lr : Nat} {p : Nat × Nat} {ps : List (Nat × Nat)} {f : Frm} {r : List Frm} {row : List Int} {M : Sto} {F : List Fn} {fn : Fn}
/-- the law's turn, the last one -/
def DoOff (F : List Fn) (lf lr : Nat) (ps : List (Nat × Nat)) (M : Sto) (place : PyData) (regs row' : List Int) : Prop :=
  ∃ M' q, C__law_do [.d (fnsD F), .r lf, .r lr] M = .ok (.d (.bool true)) M' ∧ M'[lf]? = some (.lst [.r (q : Nat × Nat).1]) ∧ FrAt M' q (.int (-1)) place regs .none ∧ M'[lr]? = some (.lst (intsU row')) ∧ Kept (lf :: lr :: locs ps) [lf, lr] M M'
theorem do_ret0 (h : LawSt M lf lr [p] [f] row) {o : Option Nat} (ho : ∀ q, o = some q → q < f.regs.length) (hF : F[f.num]? = some fn) (hi : fn.code[f.at_]? = some (.ret o)) :
    DoOff F lf lr [p] M (optI f o) f.regs row := by
  have k0 := h.fr
  simp only [List.reverse_cons, List.reverse_nil, List.nil_append, List.map_cons, List.map_nil] at k0
  obtain ⟨k1, k2⟩ := h.top
  have k3 := fnx (M := M) hF
  have k4 := codex (M := M) hi
  have nd := h.nd
  simp only [locs, List.nodup_cons, List.mem_cons, not_or] at nd
  obtain ⟨⟨nfr, nf1, nf2, nfs⟩, ⟨nr1, nr2, nrs⟩, ⟨n12, n1s⟩, n2s, nds⟩ := nd
  have lfM : lf < M.length := st_lt h.fr
  have q1 : (M.set lf (.lst []))[lf]? = some (.lst []) := setAt k0 _
  have q2 : (M.set lf (.lst []) ++ [Ob.lst []])[lf]? = some (.lst []) := st_app q1 _
  have q3 : ∀ X, (M.set lf (.lst []) ++ [Ob.lst []] ++ X)[lf]? = some (.lst []) := fun X => st_app q2 X
  have e0 := eq_empty (M := M.set lf (.lst []) ++ [Ob.lst []]) (l := lf) (k := M.length) (fs := []) (by
    show (match (M.set lf (.lst []) ++ [Ob.lst []])[lf]? with
      | some (.lst us) => (us.mapM (snap 3 (M.set lf (.lst []) ++ [Ob.lst []]))).map PyData.list
      | _ => none) = _
    rw [q2]
    rfl) (by simp)
  have mk : ∀ place : PyData, C__law_do [.d (fnsD F), .r lf, .r lr] M = .ok (.d (.bool true)) ((M.set lf (.lst []) ++ [Ob.lst []] ++ [Ob.lst [.d (.int (-1)), .d place, .r p.2, .d .none]]).set lf (.lst [.r (M.length + 1)])) → DoOff F lf lr [p] M place f.regs row := fun place hv => by
    refine ⟨_, (M.length + 1, p.2), hv, setAt (st_app q2 _) _, ⟨?_, ?_⟩, ?_, ?_, fun t ht hn => ⟨?_, ?_⟩⟩
    · rw [List.getElem?_set_ne (by simp; omega)]
      simp
    · rw [List.getElem?_set_ne nf2, List.append_assoc, List.getElem?_append_left (by simpa using st_lt k2), List.getElem?_set_ne nf2]
      exact k2
    · rw [List.getElem?_set_ne nfr, List.append_assoc, List.getElem?_append_left (by simpa using st_lt h.row), List.getElem?_set_ne nfr]
      exact h.row
    · simp
    · simp only [List.mem_cons, not_or] at hn
      rw [List.getElem?_set_ne (fun z => hn.1 z.symm), List.append_assoc, List.getElem?_append_left (by simpa using ht), List.getElem?_set_ne (fun z => hn.1 z.symm)]
    · simp only [List.mem_cons, not_or] at hn ⊢
      exact ⟨hn.1, hn.2.1, by simp⟩
  cases o with
  | none =>
    apply mk
    simp only [Ins.d, oD] at k4
    simp [-List.append_assoc, C__law_do, b__law_do, runC, k0, L2.atI_last, at_oneU, k1, k2, k3, k4, q1, q2, q3, e0, line0, optI]
  | some q =>
    apply mk
    have y := atU f q (ho q rfl)
    simp only [Ins.d, oD] at k4
    simp [-List.append_assoc, C__law_do, b__law_do, runC, k0, L2.atI_last, at_oneU, k1, k2, k3, k4, q1, q2, q3, e0, line0, y, optI]
theorem do_ret1 {p2 : Nat × Nat} {g : Frm} (h : LawSt M lf lr (p :: p2 :: ps) (f :: g :: r) row) {o : Option Nat} (ho : ∀ q, o = some q → q < f.regs.length) (h0 : 0 < f.regs.length) (hg : ∀ q, f.into = some q → q < g.regs.length) (hF : F[f.num]? = some fn) (hi : fn.code[f.at_]? = some (.ret o)) :
    DoOn F lf lr (p :: p2 :: ps) M ((match f.into with | none => g | some q => { g with regs := g.regs.set q (reg f (o.getD 0)) }) :: r) row := by
  have k0 := h.fr
  rw [List.reverse_cons, List.reverse_cons, List.map_append, List.map_append, List.map_cons, List.map_nil, List.map_cons, List.map_nil] at k0
  obtain ⟨k1, k2⟩ := h.top
  have hg2 : FrmAt M p2 g := h.at_ 1 p2 g rfl rfl
  have k3 := fnx (M := M) hF
  have k4 := codex (M := M) hi
  have nd := h.nd
  simp only [locs, List.nodup_cons, List.mem_cons, not_or] at nd
  obtain ⟨⟨nfr, nf1, nf2, nf3, nf4, nfs⟩, ⟨nr1, nr2, nr3, nr4, nrs⟩, ⟨n12, n13, n14, n1s⟩, ⟨n23, n24, n2s⟩, ⟨n34, n3s⟩, n4s, nds⟩ := nd
  have lfM : lf < M.length := st_lt h.fr
  have Lp : LawSt (M.set lf (.lst (ps.reverse.map (fun p => U.r p.1) ++ [.r p2.1])) ++ [Ob.lst []]) lf lr (p2 :: ps) (g :: r) row := by
    refine h.pop ?_ (fun l hl hn => ?_)
    · rw [st_app (setAt k0 _)]
      simp
    · rw [List.getElem?_append_left (by simpa using hl), List.getElem?_set_ne (by simpa using fun z => hn (by simp [z]))]
  have q1 := Lp.fr
  rw [List.reverse_cons, List.map_append, List.map_cons, List.map_nil] at q1
  have e0 := eq_empty (M := M.set lf (.lst (ps.reverse.map (fun p => U.r p.1) ++ [.r p2.1])) ++ [Ob.lst []]) (l := lf) (k := M.length) (fs := (g :: r).reverse) (snap_frames Lp) (by simp)
  have e1 : (g :: r).reverse.isEmpty = false := by simp
  rw [e1] at e0
  obtain ⟨g1, g2⟩ := Lp.top
  have f2 : (M.set lf (.lst (ps.reverse.map (fun p => U.r p.1) ++ [.r p2.1])) ++ [Ob.lst []])[p.2]? = some (.lst (intsU f.regs)) := by
    rw [List.getElem?_append_left (by simpa using st_lt k2), List.getElem?_set_ne nf2]
    exact k2
  have f1 : (M.set lf (.lst (ps.reverse.map (fun p => U.r p.1) ++ [.r p2.1])) ++ [Ob.lst []])[p.1]? = some (.lst [.d (.int f.num), .d (.int f.at_), .r p.2, .d (oD f.into)]) := by
    rw [List.getElem?_append_left (by simpa using st_lt k1), List.getElem?_set_ne nf1]
    exact k1
  have z0 : (intsU f.regs)[0]? = some (.d (.int (reg f 0))) := by rw [← atU f 0 h0]; exact (at0 _).symm
  simp only [Ins.d] at k4
  cases hi2 : f.into with
  | none =>
    rw [hi2] at k1 f1
    refine ⟨_, p2 :: ps, ?_, Lp, ?_⟩
    · cases o with
      | none =>
        simp only [oD] at k4 k1 f1
        simp [-List.append_assoc, -List.map_reverse, C__law_do, b__law_do, runC, k0, L2.atI_last, k1, k2, k3, k4, q1, e0, f1, f2, oD]
      | some q =>
        have y := atU f q (ho q rfl)
        simp only [oD] at k4 k1 f1
        simp [-List.append_assoc, -List.map_reverse, C__law_do, b__law_do, runC, k0, L2.atI_last, k1, k2, k3, k4, q1, e0, f1, f2, oD, y]
    · refine ⟨by simp, fun t ht hn => ⟨?_, ?_⟩⟩
      · simp only [locs, List.mem_cons, not_or] at hn
        rw [List.getElem?_append_left (by simpa using ht), List.getElem?_set_ne (fun z => hn.1 z.symm)]
      · simp only [locs, List.mem_cons, not_or] at hn ⊢
        exact ⟨hn.1, hn.2.1, hn.2.2.2.2⟩
  | some t =>
    rw [hi2] at k1 f1
    have ht := hg t hi2
    have w1 : ixN g.regs.length (t : Int) = some t := ixn _ _ ht
    have fin : ∀ v : Int, C__law_do [.d (fnsD F), .r lf, .r lr] M = .ok (.d (.bool false)) ((M.set lf (.lst (ps.reverse.map (fun p => U.r p.1) ++ [.r p2.1])) ++ [Ob.lst []]).set p2.2 (.lst (intsU (g.regs.set t v)))) →
        DoOn F lf lr (p :: p2 :: ps) M ({ g with regs := g.regs.set t v } :: r) row := fun v hv => by
      refine ⟨_, p2 :: ps, hv, Lp.put (f' := { g with regs := g.regs.set t v }) ⟨(List.getElem?_set_ne (Ne.symm n34)).trans g1, setAt g2 _⟩ ((List.getElem?_set_ne (Ne.symm nr4)).trans Lp.row) (Keep.one (by simp)), ?_⟩
      refine ⟨by simp, fun t ht hn => ⟨?_, ?_⟩⟩
      · simp only [locs, List.mem_cons, not_or] at hn
        rw [List.getElem?_set_ne (fun z => hn.2.2.2.2.2.1 z.symm), List.getElem?_append_left (by simpa using ht), List.getElem?_set_ne (fun z => hn.1 z.symm)]
      · simp only [locs, List.mem_cons, not_or] at hn ⊢
        exact ⟨hn.1, hn.2.1, hn.2.2.2.2⟩
    cases o with
    | none =>
      apply fin
      simp only [oD] at k4 k1 f1
      simp [-List.append_assoc, -List.map_reverse, C__law_do, b__law_do, runC, k0, L2.atI_last, k1, k2, k3, k4, q1, e0, f1, f2, oD, z0, g1, g2, w1, intsU_len, intsU_set]
    | some q =>
      apply fin
      have y := atU f q (ho q rfl)
      simp only [oD] at k4 k1 f1
      simp [-List.append_assoc, -List.map_reverse, C__law_do, b__law_do, runC, k0, L2.atI_last, k1, k2, k3, k4, q1, e0, f1, f2, oD, y, g1, g2, w1, intsU_len, intsU_set]
end
end RSK

end
section
set_option Elab.async false
set_option linter.all false
set_option autoImplicit false
set_option maxRecDepth 100000
set_option maxHeartbeats 2000000
/-! K06N: a turn, whole; draws. -/
namespace RSK
open PySem PySem.Spec PyProof.Rows L2 RS
section
variable {lf lr : Nat} {p : Nat × Nat} {ps : List (Nat × Nat)} {f : Frm} {r : List Frm} {row : List Int} {M : Sto} {F : List Fn} {fn : Fn}
def DoS (F : List Fn) (lf lr : Nat) (ps : List (Nat × Nat)) (M : Sto) : StT → Prop
  | .on stk row => DoOn F lf lr ps M stk row
  | .off p regs row => DoOff F lf lr ps M p regs row
theorem st_go (f' : Frm) (r : List Frm) (row : List Int) : (Nxt.go (r.reverse ++ [f']) row).st = .on (f' :: r) row := by simp [Nxt.st]
theorem do_all (hFs : FsK F) (h : LawSt M lf lr ps (f :: r) row) (hs : StkK F (f :: r)) (hl : r.length < 99) : DoS F lf lr ps M (stepS F (.on (f :: r) row)) := by
  obtain ⟨p, ps', rfl⟩ := h.shape
  obtain ⟨fn, i, k1, k2, k3, k4⟩ := live_ins hFs hs
  have R := hFs _ _ k1
  have ok := R.ins _ _ k3
  have m3 := R.m3
  rw [← k2] at ok m3
  rw [stepS_on k4]
  cases i with
  | mv k a q =>
    simp only [stepP, st_go]
    exact do_mv h ok.1 ok.2 k1 k3
  | swap a q =>
    simp only [stepP, st_go]
    exact do_swap h ok.1 ok.2 k1 k3
  | cmp k a q g =>
    simp only [stepP, st_go]
    exact do_cmp h ok.1 ok.2.1 k1 k3
  | jump g =>
    simp only [stepP, st_go]
    exact do_jump h k1 k3
  | call n a b o =>
    obtain ⟨hn, ha, hb, _⟩ := ok
    have hFn : F[n]? = some F[n] := List.getElem?_eq_getElem hn
    have e : (stepP F r.reverse f row (.call n a b o)).st = .on (⟨n, 0, reg f a :: reg f b :: List.replicate (F[n].many - 2) 0, o⟩ :: adv f :: r) row := by
      simp [stepP, Nxt.st, hn]
    rw [e]
    exact do_call h hl hFn (hFs _ _ hFn).m2 (hFs _ _ hFn).m9 ha hb k1 k3
  | ret o =>
    cases r with
    | nil =>
      have e0 : ps' = [] := by have := h.len; simpa using this
      subst e0
      have e : (stepP F ([] : List Frm).reverse f row (.ret o)).st = .off (optI f o) f.regs row := rfl
      rw [e]
      exact do_ret0 h ok k1 k3
    | cons g r =>
      obtain ⟨p2, ps2, rfl⟩ : ∃ p2 ps2, ps' = p2 :: ps2 := by
        cases ps' with
        | nil => have := h.len; simp at this
        | cons p2 ps2 => exact ⟨p2, ps2, rfl⟩
      have e : (stepP F (g :: r).reverse f row (.ret o)).st = .on ((match f.into with | none => g | some q => { g with regs := g.regs.set q (reg f (o.getD 0)) }) :: r) row := by
        simp only [stepP, retP, List.reverse_cons, List.getLast?_append, List.getLast?_singleton, Option.some_or, List.dropLast_concat]
        cases f.into <;> simp [Nxt.st]
      rw [e]
      exact do_ret1 h ok (by omega) (fun q hq => hs.2.1 q hq) k1 k3
end
end RSK

end
section
set_option Elab.async false
set_option linter.all false
set_option autoImplicit false
set_option maxRecDepth 100000
set_option maxHeartbeats 2000000
/-! K06O: draws. -/
namespace RSK
open PySem PySem.Spec PyProof.Rows L2 RS
structure BagOk (M : Sto) (lb lc : Nat) : Prop where
  bag : ∃ (a s : Int) (k : Nat), M[lb]? = some (.lst [.d (.int a), .d (.int s), .d (.int k), .r lc]) ∧ 0 ≤ a ∧ 0 ≤ s ∧ s < 2147483647
  cells : ∃ cs : List Int, M[lc]? = some (.lst (intsU cs)) ∧ (∀ c ∈ cs, 0 ≤ c) ∧ cs.length < 1000
  ne : lb ≠ lc
def Touch (S : List Nat) (M M' : Sto) : Prop := M.length ≤ M'.length ∧ ∀ t, t < M.length → t ∉ S → M'[t]? = M[t]?
theorem Touch.refl (S : List Nat) (M : Sto) : Touch S M M := ⟨Nat.le_refl _, fun _ _ _ => rfl⟩
theorem Touch.trans {S : List Nat} {M M1 M2 : Sto} (a : Touch S M M1) (b : Touch S M1 M2) : Touch S M M2 :=
  ⟨Nat.le_trans a.1 b.1, fun t h n => (b.2 t (Nat.lt_of_lt_of_le h a.1) n).trans (a.2 t h n)⟩
theorem Touch.app (S : List Nat) (M J : Sto) : Touch S M (M ++ J) := ⟨by simp, fun t h _ => by rw [List.getElem?_append_left h]⟩
theorem Touch.set {S : List Nat} {M : Sto} {l : Nat} {x : Ob} (h : l ∈ S) : Touch S M (M.set l x) := ⟨by simp, fun t _ n => List.getElem?_set_ne (fun (z : l = t) => n (by rw [← z]; exact h))⟩
@[simp] theorem u_int (i : Int) (M : Sto) : intB [.d (.int i)] M = .ok (.d (.int i)) M := rfl
@[simp] theorem u_mul (i j : Int) (M : Sto) : mulU (.d (.int i)) (.d (.int j)) M = if (RS.small64 i || RS.small64 j) = true then .ok (.d (.int (i * j))) M else .bad := rfl
@[simp] theorem u_mod (i j : Int) (M : Sto) : modU (.d (.int i)) (.d (.int j)) M = if (j != 0) = true then .ok (.d (.int (i.fmod j))) M else .bad := rfl
@[simp] theorem u_fdiv (i j : Int) (M : Sto) : fdivU (.d (.int i)) (.d (.int j)) M = if (j != 0 && decide (j.natAbs < 1073741824)) = true then .ok (.d (.int (i.fdiv j))) M else .bad := rfl
@[simp] theorem u_pow (M : Sto) : powU (.d (.int 10)) (.d (.int 18)) M = .ok (.d (.int 1000000000000000000)) M := rfl
@[simp] theorem ix40 : ixN 4 0 = some 0 := rfl
@[simp] theorem ix42 : ixN 4 2 = some 2 := rfl
theorem s64 {i : Int} (h0 : 0 ≤ i) (h : i < 18446744073709551616) : RS.small64 i = true := by
  unfold RS.small64
  rw [decide_eq_true (by omega), decide_eq_true (by omega)]
  rfl
theorem cut_drop (us : List U) (k : Nat) : cutL us (some (k : Int)) none = us.drop k := by
  unfold cutL
  rw [HT.sIx_nat, HT.sIx_none]
  by_cases h : k ≤ us.length
  · rw [Nat.min_eq_left h, List.take_of_length_le (by simp)]
  · rw [Nat.min_eq_right (by omega), List.drop_of_length_le (Nat.le_refl _), List.drop_of_length_le (by omega)]
    simp
theorem fm_lt {a n : Int} (hn : 0 < n) : 0 ≤ a.fmod n ∧ a.fmod n < n := by
  rw [Int.fmod_eq_emod_of_nonneg a (Int.le_of_lt hn)]
  exact ⟨Int.emod_nonneg a (by omega), Int.emod_lt_of_pos a hn⟩
theorem fd_nn {a n : Int} (ha : 0 ≤ a) (hn : 0 < n) : 0 ≤ a.fdiv n := by
  rw [Int.fdiv_eq_ediv_of_nonneg a (Int.le_of_lt hn)]
  exact Int.ediv_nonneg ha (Int.le_of_lt hn)
theorem c_take {lb lc : Nat} {M : Sto} (h : BagOk M lb lc) {n : Nat} (hn : 0 < n) (hn2 : n < 1000000) : ∃ v M', C__law_take [.r lb, .d (.int n)] M = .ok (.d (.int (v : Nat))) M' ∧ v < n ∧ BagOk M' lb lc ∧ Touch [lb] M M' := by
  obtain ⟨⟨a, s, k, hb, ha, hs, hs2⟩, ⟨cs, hc, hcn, hcl⟩, ne⟩ := h
  have hn0 : (0 : Int) < n := by omega
  have nz : ((n : Int) != 0) = true := by simp; omega
  have nz2 : ((n : Int) != 0 && decide ((n : Int).natAbs < 1073741824)) = true := by
    rw [nz]
    simp
    omega
  have q1 := fun x => setAt hb x
  have vv : ∀ b : Int, ∃ v : Nat, b.fmod n = (v : Int) ∧ v < n := fun b => by
    have := fm_lt (a := b) hn0
    exact ⟨(b.fmod n).toNat, by omega, by omega⟩
  have nz3 : n < 1073741824 := by omega
  by_cases h0 : a = 0
  · subst h0
    obtain ⟨c, E, hE, cn⟩ : ∃ (c : Int) (E : List U), (intsU cs).drop k ++ [.d (.int 0)] = .d (.int c) :: E ∧ 0 ≤ c := by
      cases hd : (intsU cs).drop k with
      | nil => exact ⟨0, [], rfl, by omega⟩
      | cons u us =>
        have hu : u ∈ intsU cs := List.mem_of_mem_drop (i := k) (by rw [hd]; exact List.mem_cons_self)
        obtain ⟨c, h1, rfl⟩ := List.mem_map.mp hu
        exact ⟨c, us ++ [.d (.int 0)], rfl, hcn c h1⟩
    have hz : ((intsU cs).drop k).length + 1 ≤ sizeLine := line_lt (by rw [List.length_drop, intsU_len]; omega)
    have sl : slU (.r lc) (some (k : Int)) none M = .ok (.r M.length) (M ++ [Ob.lst ((intsU cs).drop k)]) := by
      show (match M[lc]? with
        | some (.lst us) => R.ok (U.r M.length) (M ++ [Ob.lst (cutL us (some (k : Int)) none)])
        | _ => R.bad) = _
      rw [hc]
      show R.ok (U.r M.length) (M ++ [Ob.lst (cutL (intsU cs) (some (k : Int)) none)]) = _
      rw [cut_drop]
    generalize hD : (intsU cs).drop k = D at *
    have m1 : (M ++ [Ob.lst D] ++ [Ob.lst [U.d (.int 0)]])[M.length]? = some (.lst D) := by simp
    have m2 : (M ++ [Ob.lst D] ++ [Ob.lst [U.d (.int 0)]])[M.length + 1]? = some (.lst [.d (.int 0)]) := by simp
    have m3 : (M ++ [Ob.lst D] ++ [Ob.lst [U.d (.int 0)]] ++ [Ob.lst (D ++ [.d (.int 0)])])[M.length + 1 + 1]? = some (.lst (D ++ [.d (.int 0)])) := by
      rw [show M.length + 1 + 1 = (M ++ [Ob.lst D] ++ [Ob.lst [U.d (.int 0)]]).length from by simp]
      exact st_new _
    have m4 : (M ++ [Ob.lst D] ++ [Ob.lst [U.d (.int 0)]] ++ [Ob.lst (D ++ [.d (.int 0)])])[lb]? = some (.lst [.d (.int 0), .d (.int s), .d (.int k), .r lc]) := st_app (st_app (st_app hb _) _) _
    have m5 := fun x => setAt m4 x
    have lc4 : (M ++ [Ob.lst D] ++ [Ob.lst [U.d (.int 0)]] ++ [Ob.lst (D ++ [.d (.int 0)])])[lc]? = some (.lst (intsU cs)) := st_app (st_app (st_app hc _) _) _
    have fin : ∀ (a' s' : Int), 0 ≤ a' → 0 ≤ s' → s' < 2147483647 → ∀ v : Nat, v < n → C__law_take [.r lb, .d (.int n)] M = .ok (.d (.int (v : Nat))) ((M ++ [Ob.lst D] ++ [Ob.lst [U.d (.int 0)]] ++ [Ob.lst (D ++ [.d (.int 0)])]).set lb (.lst [.d (.int a'), .d (.int s'), .d (.int ((k : Int) + 1)), .r lc])) →
        ∃ v M', C__law_take [.r lb, .d (.int n)] M = .ok (.d (.int (v : Nat))) M' ∧ v < n ∧ BagOk M' lb lc ∧ Touch [lb] M M' := fun a' s' g1 g2 g3 v hv hx =>
      ⟨v, _, hx, hv, ⟨⟨a', s', k + 1, by rw [m5]; simp, g1, g2, g3⟩, ⟨cs, (List.getElem?_set_ne ne).trans lc4, hcn, hcl⟩, ne⟩, (Touch.app _ _ _).trans ((Touch.app _ _ _).trans ((Touch.app _ _ _).trans (Touch.set (by simp))))⟩
    rw [hE] at m3 m4 fin
    simp only [hE] at m5
    have ss := s64 hs (Int.lt_trans hs2 (by decide))
    have s7 : RS.small64 7919 = true := by decide
    obtain ⟨st0, st1⟩ := fm_lt (a := s * 48271 + c.fmod 2147483647 + 7919 * ((k : Int) + 1)) (n := 2147483647) (by decide)
    by_cases hbig : (1000000000000000000 : Int) ≤ c
    · obtain ⟨v, e1, e2⟩ := vv c
      have hp : 0 < c := by omega
      refine fin (c.fdiv n) _ (fd_nn cn hn0) st0 st1 v e2 ?_
      simp [-List.append_assoc, C__law_take, b__law_take, runC, hb, sl, hz, m1, m2, m3, m4, m5, hE, nz, nz2, nz3, e1, ss, s7, hbig, hp]
    · have f0 := fm_lt (a := ((s * 48271 + c.fmod 2147483647 + 7919 * ((k : Int) + 1)).fmod 2147483647 + 1) * 39373) (n := 1000000007) (by decide)
      generalize hS : (s * 48271 + c.fmod 2147483647 + 7919 * ((k : Int) + 1)).fmod 2147483647 = S at *
      generalize hf1 : ((S + 1) * 39373).fmod 1000000007 = f1 at *
      have g0 := fm_lt (a := f1 * f1) (n := 998244353) (by decide)
      generalize hf2 : (f1 * f1).fmod 998244353 = f2 at *
      obtain ⟨v, e1, e2⟩ := vv (((f2 * 30011).fmod 998244353).fdiv 7)
      refine fin 0 S (by omega) st0 st1 v e2 ?_
      have sS := s64 (i := S + 1) (by omega) (by omega)
      have sf := s64 (i := f1) f0.1 (by omega)
      have sg := s64 (i := f2) g0.1 (by omega)
      simp [-List.append_assoc, C__law_take, b__law_take, runC, hb, sl, hz, m1, m2, m3, m4, m5, hE, nz, nz2, nz3, ss, s7, hbig, hS, sS, hf1, sf, hf2, sg, e1]
  · have hp : 0 < a := by omega
    obtain ⟨v, e1, e2⟩ := vv a
    refine ⟨v, M.set lb (.lst [.d (.int (a.fdiv n)), .d (.int s), .d (.int k), .r lc]), ?_, e2, ⟨⟨a.fdiv n, s, k, setAt hb _, fd_nn ha hn0, hs, hs2⟩, ⟨cs, (List.getElem?_set_ne ne).trans hc, hcn, hcl⟩, ne⟩, Touch.set (by simp)⟩
    simp [C__law_take, b__law_take, runC, hb, h0, hp, q1, nz, nz2, nz3, e1]
end RSK

end
section
set_option Elab.async false
set_option linter.all false
set_option autoImplicit false
set_option maxRecDepth 100000
set_option maxHeartbeats 2000000
/-! K06P: drawn rows, codes. -/
namespace RSK
open PySem PySem.Spec PyProof.Rows L2 RS
theorem Touch.get {S : List Nat} {M M' : Sto} {l : Nat} {o : Ob} (t : Touch S M M') (h : M[l]? = some o) (n : l ∉ S) : M'[l]? = some o := (t.2 l (st_lt h) n).trans h
theorem BagOk.app {M : Sto} {lb lc : Nat} (h : BagOk M lb lc) (J : Sto) : BagOk (M ++ J) lb lc := by
  obtain ⟨⟨a, s, k, h1, h2⟩, ⟨cs, h3, h4⟩, h5⟩ := h
  exact ⟨⟨a, s, k, st_app h1 J, h2⟩, ⟨cs, st_app h3 J, h4⟩, h5⟩
theorem BagOk.keep {M M' : Sto} {lb lc : Nat} (h : BagOk M lb lc) (h1 : M'[lb]? = M[lb]?) (h2 : M'[lc]? = M[lc]?) : BagOk M' lb lc := by
  obtain ⟨⟨a, s, k, g1, g2⟩, ⟨cs, g3, g4⟩, g5⟩ := h
  exact ⟨⟨a, s, k, h1.trans g1, g2⟩, ⟨cs, h2.trans g3, g4⟩, g5⟩
theorem BagOk.lt {M : Sto} {lb lc : Nat} (h : BagOk M lb lc) : lb < M.length ∧ lc < M.length := by
  obtain ⟨⟨a, s, k, g1, g2⟩, ⟨cs, g3, g4⟩, g5⟩ := h
  exact ⟨st_lt g1, st_lt g3⟩
theorem c_some {lb lc : Nat} {M : Sto} (h : BagOk M lb lc) {l : Nat} {us : List U} (hl : M[l]? = some (.lst us)) (hn : 0 < us.length) (hn2 : us.length < 1000000) (hlb : l ≠ lb) : ∃ u M', C__law_some [.r lb, .r l] M = .ok u M' ∧ u ∈ us ∧ BagOk M' lb lc ∧ Touch [lb] M M' := by
  obtain ⟨v, M', e1, e2, e3, e4⟩ := c_take h hn hn2
  have hl' := e4.get hl (by simpa using hlb)
  refine ⟨us[v], M', ?_, List.getElem_mem e2, e3, e4⟩
  simp [C__law_some, b__law_some, runC, hl, e1, hl', atN, e2]
theorem c_drawn_row {lb lc : Nat} {M : Sto} (h : BagOk M lb lc) {n : Nat} (hn : n < 1000) : ∃ row M', C__law_drawn_row [.r lb, .d (.int n)] M = .ok (.d (intsD row)) M' ∧ row.length = n ∧ BagOk M' lb lc ∧ Touch [lb] M M' := by
  have hn2 : (n : Int) ≤ 1000000 := by omega
  have hn3 : (-1000000 : Int) ≤ n := by omega
  obtain ⟨us, M', e1, ⟨e2, e3, l, e4⟩, e5⟩ := comp_rng (M := M) (M0 := M) (n := n) (own := [2]) (g := .nm 2) (fi := wR1 (aCons (eV 1) (aNil))) (en := [some (.r lb), some (.d (.int n)), none])
    (fe := RS.e2 subU (eCall C__law_take (aCons (eV 0) (aCons (RS.e2 addU (eV 1) (eC (.int 1))) (aNil))) 2) (eC (.int 1)))
    (by simp [hn2, hn3]) (fun i acc M' => BagOk M' lb lc ∧ Touch [lb] M M' ∧ ∃ l, acc = intsU l) (Nat.lt_trans hn (Nat.lt_trans (by decide) line_big)) ⟨h, .refl _ _, [], rfl⟩ (by
      rintro i acc M1 hi ⟨h1, h2, l, rfl⟩
      obtain ⟨v, M2, k1, k2, k3, k4⟩ := c_take h1 (n := n + 1) (by omega) (by omega)
      simp only [Int.natCast_add, Int.natCast_one] at k1
      refine ⟨_, .d (.int ((v : Int) - 1)), M2, rfl, ?_, k3, h2.trans k4, l ++ [(v : Int) - 1], by simp [intsU]⟩
      simp [wipeE, k1])
  subst e4
  refine ⟨l, M' ++ [.lst (intsU l)], ?_, by simpa [intsU_len] using e5, e2.app _, e3.trans (.app _ _ _)⟩
  simp only [C__law_drawn_row, b__law_drawn_row, runC, x_Rt, x_B1, x_Cons, x_Nil, List.map_cons, List.map_nil, List.length_cons, List.length_nil, List.cons_append, List.nil_append, List.replicate] at *
  simp [-x_Comp, e1, asDs_ints, intsD]
/-- a drawn instruction -/
def Ins.dr (m s : Nat) : Ins → Prop
  | .mv _ r q => r < m ∧ q < m
  | .swap r q => r < m ∧ q < m
  | .cmp _ r q g => r < m ∧ q < m ∧ g < s
  | .jump g => g < s
  | .call n a b o => n < 2 ∧ a < m ∧ b < m ∧ ∀ r, o = some r → r < m
  | .ret _ => False
def words : List Str := ["move", "step", "step", "back", "swap", "swap", "same", "ahead", "atmost", "below", "jump", "call"]
theorem line12 : (12 ≤ sizeLine) = True := eq_true (line_lt (by decide))
theorem c_instruction {lb lc : Nat} {M : Sto} (h : BagOk M lb lc) {m s : Nat} (hm : 0 < m) (hm2 : m < 1000) (hs : 0 < s) (hs2 : s < 1000) : ∃ i M', C__law_instruction [.r lb, .d (.int m), .d (.int s)] M = .ok (.d (Ins.d i)) M' ∧ i.dr m s ∧ BagOk M' lb lc ∧ Touch [lb] M M' := by
  have hlt := h.lt
  obtain ⟨u, M1, k1, k2, k3, k4⟩ := c_some (M := M ++ [.lst (words.map fun w => .d (.str w))]) (h.app _) (l := M.length) (us := words.map fun w => .d (.str w)) (by simp) (by decide) (by decide) (by omega)
  obtain ⟨a, M2, a1, a2, a3, a4⟩ := c_take k3 hm (by omega)
  obtain ⟨q, M3, b1, b2, b3, b4⟩ := c_take a3 hm (by omega)
  obtain ⟨g, M4, c1, c2, c3, c4⟩ := c_take b3 hs (by omega)
  have tt : Touch [lb] M M4 := (Touch.app _ _ _).trans (k4.trans (a4.trans (b4.trans c4)))
  obtain ⟨w, hw, rfl⟩ := List.mem_map.mp k2
  simp only [words, List.map_cons, List.map_nil] at k1
  have mk : ∀ i : Ins, i.dr m s → C__law_instruction [.r lb, .d (.int m), .d (.int s)] M = .ok (.d (Ins.d i)) M4 → ∃ i M', C__law_instruction [.r lb, .d (.int m), .d (.int s)] M = .ok (.d (Ins.d i)) M' ∧ i.dr m s ∧ BagOk M' lb lc ∧ Touch [lb] M M' := fun i h1 h2 => ⟨i, M4, h2, h1, c3, tt⟩
  simp only [words, List.mem_cons, List.not_mem_nil, or_false] at hw
  rcases hw with rfl | rfl | rfl | rfl | rfl | rfl | rfl | rfl | rfl | rfl | rfl | rfl
  · exact mk (.mv 0 a q) ⟨a2, b2⟩ (by simp [C__law_instruction, b__law_instruction, runC, line12, k1, a1, b1, c1, Ins.d, mvW])
  · exact mk (.mv 1 a q) ⟨a2, b2⟩ (by simp [C__law_instruction, b__law_instruction, runC, line12, k1, a1, b1, c1, Ins.d, mvW])
  · exact mk (.mv 1 a q) ⟨a2, b2⟩ (by simp [C__law_instruction, b__law_instruction, runC, line12, k1, a1, b1, c1, Ins.d, mvW])
  · exact mk (.mv 2 a q) ⟨a2, b2⟩ (by simp [C__law_instruction, b__law_instruction, runC, line12, k1, a1, b1, c1, Ins.d, mvW])
  · exact mk (.swap a q) ⟨a2, b2⟩ (by simp [C__law_instruction, b__law_instruction, runC, line12, k1, a1, b1, c1, Ins.d])
  · exact mk (.swap a q) ⟨a2, b2⟩ (by simp [C__law_instruction, b__law_instruction, runC, line12, k1, a1, b1, c1, Ins.d])
  · exact mk (.cmp 0 a q g) ⟨a2, b2, c2⟩ (by simp [C__law_instruction, b__law_instruction, runC, line12, k1, a1, b1, c1, Ins.d, cmpW])
  · exact mk (.cmp 1 a q g) ⟨a2, b2, c2⟩ (by simp [C__law_instruction, b__law_instruction, runC, line12, k1, a1, b1, c1, Ins.d, cmpW])
  · exact mk (.cmp 2 a q g) ⟨a2, b2, c2⟩ (by simp [C__law_instruction, b__law_instruction, runC, line12, k1, a1, b1, c1, Ins.d, cmpW])
  · exact mk (.cmp 3 a q g) ⟨a2, b2, c2⟩ (by simp [C__law_instruction, b__law_instruction, runC, line12, k1, a1, b1, c1, Ins.d, cmpW])
  · exact mk (.jump g) c2 (by simp [C__law_instruction, b__law_instruction, runC, line12, k1, a1, b1, c1, Ins.d])
  · obtain ⟨n, M5, d1, d2, d3, d4⟩ := c_take c3 (n := 2) (by decide) (by decide)
    have d1 : C__law_take [.r lb, .d (.int 2)] M4 = .ok (.d (.int n)) M5 := d1
    obtain ⟨x, M6, e1, e2, e3, e4⟩ := c_take d3 hm (by omega)
    obtain ⟨y, M7, f1, f2, f3, f4⟩ := c_take e3 hm (by omega)
    have l7 := f3.lt
    obtain ⟨o, M8, g1, g2, g3, g4⟩ := c_some (M := M7 ++ [.lst [.d .none, .d (.int a)]]) (f3.app _) (l := M7.length) (us := [.d .none, .d (.int a)]) (by simp) (by simp) (by simp) (by omega)
    have tt2 : Touch [lb] M M8 := tt.trans (d4.trans (e4.trans (f4.trans ((Touch.app _ _ _).trans g4))))
    simp only [List.mem_cons, List.not_mem_nil, or_false] at g2
    rcases g2 with rfl | rfl
    · refine ⟨.call n x y none, M8, ?_, ⟨d2, e2, f2, by simp⟩, g3, tt2⟩
      simp [C__law_instruction, b__law_instruction, runC, line12, k1, a1, b1, c1, d1, e1, f1, g1, Ins.d, oD]
    · refine ⟨.call n x y (some a), M8, ?_, ⟨d2, e2, f2, by simp; exact a2⟩, g3, tt2⟩
      simp [C__law_instruction, b__law_instruction, runC, line12, k1, a1, b1, c1, d1, e1, f1, g1, Ins.d, oD]
/-! ### codes -/
theorem Ins.dr_ok {F : List Fn} (hF : F.length = 2) {m s : Nat} {i : Ins} (h : i.dr m s) : i.ok F m s := by
  cases i with
  | mv k r q => exact h
  | swap r q => exact h
  | cmp k r q g => exact h
  | jump g => exact h
  | call n a b o => exact ⟨by rw [hF]; exact h.1, h.2⟩
  | ret o => exact h.elim
/-- a drawn def -/
def FnD (fn : Fn) : Prop := 3 ≤ fn.many ∧ fn.many < 100 ∧ ∃ cs o, fn.code = cs ++ [Ins.ret o] ∧ 0 < cs.length ∧ (∀ i ∈ cs, i.dr fn.many (cs.length + 1)) ∧ ∀ r, o = some r → r < fn.many
theorem FnD.ok {F : List Fn} (hF : F.length = 2) {fn : Fn} (h : FnD fn) : FnK F fn := by
  obtain ⟨h3, h9, cs, o, e, h0, hi, ho⟩ := h
  refine ⟨h3, h9, fun j i hj => ?_, fun j i hj hn => ?_, by rw [e]; simp⟩
  · rw [e] at hj ⊢
    by_cases hl : j < cs.length
    · rw [List.getElem?_append_left hl] at hj
      have := hi i (List.mem_of_getElem? hj)
      have := Ins.dr_ok hF this
      simpa using this
    · rw [List.getElem?_append_right (by omega)] at hj
      have : j - cs.length = 0 := by
        cases q : j - cs.length with
        | zero => rfl
        | succ n => rw [q] at hj; simp at hj
      rw [this] at hj
      cases hj
      exact ho
  · rw [e] at hj ⊢
    by_cases hl : j < cs.length
    · simp; omega
    · rw [List.getElem?_append_right (by omega)] at hj
      have : j - cs.length = 0 := by
        cases q : j - cs.length with
        | zero => rfl
        | succ n => rw [q] at hj; simp at hj
      rw [this] at hj
      cases hj
      exact absurd rfl (hn o)
theorem insU (cs : List Ins) : asDs (cs.map fun i => U.d i.d) = some (cs.map Ins.d) := by
  have : (cs.map fun i => U.d i.d) = (cs.map Ins.d).map U.d := by simp
  rw [this, u_asM]
/-- one def is drawn -/
theorem c_code1 {lb lc lw : Nat} {M : Sto} (h : BagOk M lb lc) {fns : List Fn} (hw : M[lw]? = some (.lst (fns.map fun f => .d f.d))) (hf : fns.length < 10) (hlw : lw ≠ lb) (hlw2 : lw ≠ lc) (x2 x3 x4 x5 x6 : Option U) :
    ∃ fn M' y3 y4 y5 y6, (sSeq (sTup 2 (aCons (RS.e2 addU (eC (.int 3)) (eCall C__law_take (aCons (eV 0) (aCons (eC (.int 2)) (aNil))) 2)) (aCons (RS.e2 addU (eC (.int 4)) (eCall C__law_take (aCons (eV 0) (aCons (eC (.int 5)) (aNil))) 2)) (aNil))) (gs1 (gN 3) (gs1 (gN 4) (gs0)))) (sSeq (sAs (eComp [6] (wR1 (aCons (RS.e2 subU (eV 4) (eC (.int 1))) (aNil))) (.nm 6) (cTrue) (eCall C__law_instruction (aCons (eV 0) (aCons (eV 3) (aCons (eV 4) (aNil)))) 3)) (.nm 5)) (sSeq (sEx (eM isL appU (eV 5) (aCons (eTup (aCons (eC (.str "ret")) (aCons (eCall C__law_some (aCons (eV 0) (aCons (eLst (aCons (eC .none) (aCons (eC (.int 0)) (aCons (RS.e2 subU (eV 3) (eC (.int 1))) (aNil))))) (aNil))) 2) (aNil)))) (aNil)))) (sEx (eM isL appU (eV 1) (aCons (eTup (aCons (eC (.int 2)) (aCons (eV 3) (aCons (eB1 tupleB (aCons (eV 5) (aNil))) (aNil))))) (aNil))))))) [some (.r lb), some (.r lw), x2, x3, x4, x5, x6] M =
      .nx [some (.r lb), some (.r lw), x2, y3, y4, y5, y6] M' ∧ FnD fn ∧ BagOk M' lb lc ∧ M'[lw]? = some (.lst ((fns ++ [fn]).map fun f => .d f.d)) ∧ Touch [lb, lw] M M' := by
  obtain ⟨m, M1, a1, a2, a3, a4⟩ := c_take h (n := 2) (by decide) (by decide)
  obtain ⟨z, M2, b1, b2, b3, b4⟩ := c_take a3 (n := 5) (by decide) (by decide)
  have a1 : C__law_take [.r lb, .d (.int 2)] M = .ok (.d (.int m)) M1 := a1
  have b1 : C__law_take [.r lb, .d (.int 5)] M1 = .ok (.d (.int z)) M2 := b1
  have tt := a4.trans b4
  obtain ⟨us, M3, c1, ⟨c2, c3, cs, c4, c5⟩, c6⟩ := comp_rng (M := M2) (M0 := M2) (n := 3 + z) (own := [6]) (g := .nm 6) (fi := wR1 (aCons (RS.e2 subU (eV 4) (eC (.int 1))) (aNil))) (en := [some (.r lb), some (.r lw), x2, some (.d (.int (3 + m))), some (.d (.int (4 + z))), x5, x6])
    (fe := eCall C__law_instruction (aCons (eV 0) (aCons (eV 3) (aCons (eV 4) (aNil)))) 3)
    (by
      have h1 : (-1000000 : Int) ≤ 4 + z - 1 := by omega
      have h2 : (4 + z - 1 : Int) ≤ 1000000 := by omega
      have h3 : (4 + z - 1 : Int).toNat = 3 + z := by omega
      simp [h1, h2, h3])
    (fun i acc M' => BagOk M' lb lc ∧ Touch [lb] M2 M' ∧ ∃ cs : List Ins, acc = cs.map (fun i => U.d i.d) ∧ ∀ i ∈ cs, i.dr (3 + m) (4 + z)) (Nat.lt_trans (show 3 + z < 100 by omega) (Nat.lt_trans (by decide) line_big)) ⟨b3, .refl _ _, [], rfl, by simp⟩ (by
      rintro i acc M1 hi ⟨h1, h2, l, rfl, h3⟩
      obtain ⟨v, M2, k1, k2, k3, k4⟩ := c_instruction h1 (m := 3 + m) (s := 4 + z) (by omega) (by omega) (by omega) (by omega)
      simp only [Int.natCast_add] at k1
      have k1 : C__law_instruction [.r lb, .d (.int (3 + m)), .d (.int (4 + z))] M1 = .ok (.d v.d) M2 := k1
      refine ⟨_, .d v.d, M2, rfl, ?_, k3, h2.trans k4, l ++ [v], by simp, fun j hj => ?_⟩
      · simp [wipeE, k1]
      · rcases List.mem_append.mp hj with hj | hj
        · exact h3 j hj
        · rw [List.mem_singleton.mp hj]; exact k2)
  subst c4
  have l3 := c2.lt
  obtain ⟨o, M4, d1, d2, d3, d4⟩ := c_some (M := M3 ++ [.lst (cs.map fun i => U.d i.d)] ++ [.lst [.d .none, .d (.int 0), .d (.int (3 + m - 1))]]) ((c2.app _).app _) (l := M3.length + 1) (us := [.d .none, .d (.int 0), .d (.int (3 + m - 1))]) (by
      rw [show M3.length + 1 = (M3 ++ [Ob.lst (cs.map fun i => U.d i.d)]).length from by simp]
      exact st_new _) (by simp) (by simp) (by omega)
  have e5 : M4[M3.length]? = some (.lst (cs.map fun i => U.d i.d)) := d4.get (st_app (st_new _) _) (by simp; omega)
  have ew : M4[lw]? = some (.lst (fns.map fun f => .d f.d)) := by
    have t1 : M3[lw]? = some (.lst (fns.map fun f => .d f.d)) := (tt.trans c3).get hw (by simpa using hlw)
    exact d4.get (st_app (st_app t1 _) _) (by simpa using hlw)
  have hne : M3.length ≠ lw := fun z => by
    have := (tt.trans c3).1
    have := st_lt hw
    omega
  have g1 : ∀ x, (M4.set M3.length x)[M3.length]? = some x := fun x => setAt e5 x
  have g2 : ∀ x, (M4.set M3.length x)[lw]? = some (.lst (fns.map fun f => .d f.d)) := fun x => (List.getElem?_set_ne hne).trans ew
  have hz1 : cs.length < sizeLine := by
    have : cs.length = 3 + z := by simpa using c6
    exact Nat.lt_trans (show cs.length < 100 by omega) (Nat.lt_trans (by decide) line_big)
  have hz2 : fns.length < sizeLine := Nat.lt_trans (Nat.lt_trans hf (by decide)) line_big
  obtain ⟨oo, ho1, ho2⟩ : ∃ oo : Option Nat, o = .d (oD oo) ∧ ∀ r, oo = some r → r < 3 + m := by
    simp only [List.mem_cons, List.not_mem_nil, or_false] at d2
    rcases d2 with rfl | rfl | rfl
    · exact ⟨none, rfl, by simp⟩
    · exact ⟨some 0, rfl, by intro r hr; cases hr; omega⟩
    · refine ⟨some (2 + m), ?_, by intro r hr; cases hr; omega⟩
      show U.d (.int (3 + m - 1)) = U.d (.int ((2 + m : Nat) : Int))
      congr 2
      omega
  subst ho1
  have hcs : cs.length = 3 + z := by simpa using c6
  have htt : Touch [lb, lw] M ((M4.set M3.length (.lst ((cs ++ [Ins.ret oo]).map fun i : Ins => U.d i.d))).set lw (.lst ((fns ++ [(Fn.mk (3 + m) (cs ++ [Ins.ret oo]))]).map fun f : Fn => U.d f.d))) := by
    have t3 : Touch [lb] M M4 := tt.trans (c3.trans ((Touch.app _ _ _).trans ((Touch.app _ _ _).trans d4)))
    have hM3 : M.length ≤ M3.length := (tt.trans c3).1
    refine ⟨by simpa using t3.1, fun t ht hn => ?_⟩
    simp only [List.mem_cons, List.not_mem_nil, or_false, not_or] at hn
    rw [List.getElem?_set_ne (fun q => hn.2 q.symm), List.getElem?_set_ne (by omega), t3.2 t ht (by simpa using hn.1)]
  refine ⟨(Fn.mk (3 + m) (cs ++ [Ins.ret oo])), (M4.set M3.length (.lst ((cs ++ [Ins.ret oo]).map fun i : Ins => U.d i.d))).set lw (.lst ((fns ++ [(Fn.mk (3 + m) (cs ++ [Ins.ret oo]))]).map fun f : Fn => U.d f.d)), some (.d (.int (3 + m))), some (.d (.int (4 + z))), some (.r M3.length), x6, ?_, ?_, ?_, ?_, htt⟩
  · have hins : asDs (cs.map (fun i => U.d i.d) ++ [U.d (.tuple [.str "ret", oD oo])]) = some (cs.map Ins.d ++ [.tuple [.str "ret", oD oo]]) := by
      have h := insU (cs ++ [.ret oo])
      rw [List.map_append, List.map_append] at h
      exact h
    simp [-List.append_assoc, -x_Comp, a1, b1, c1, d1, e5, g1, g2, ew, hz1, hz2, hins]
    rw [show (Fn.mk (3 + m) (cs ++ [Ins.ret oo])).d = .tuple [.int 2, .int (3 + m), .tuple (cs.map Ins.d ++ [.tuple [.str "ret", oD oo]])] from by simp [Fn.d, Ins.d]]
    rfl
  · refine ⟨by simp, by simp; omega, cs, oo, rfl, by omega, fun i hi => ?_, ho2⟩
    have := c5 i hi
    rw [show cs.length + 1 = 4 + z from by omega]
    exact this
  · have hlc : M3.length ≠ lc := by have := c2.lt; omega
    have hlb : M3.length ≠ lb := by have := c2.lt; omega
    exact d3.keep (by rw [List.getElem?_set_ne hlw, List.getElem?_set_ne hlb]) (by rw [List.getElem?_set_ne hlw2, List.getElem?_set_ne hlc])
  · exact setAt (g2 _) _
end RSK

end
section
set_option Elab.async false
set_option linter.all false
set_option autoImplicit false
set_option maxRecDepth 100000
set_option maxHeartbeats 2000000
/-! K06Q: the bag, the codes. -/
namespace RSK
open PySem PySem.Spec PyProof.Rows L2 RS
@[simp] theorem u_abs (i : Int) (M : Sto) : absB [.d (.int i)] M = .ok (.d (.int (if i < 0 then -i else i))) M := rfl
theorem c_bag {u : U} {M0 : Sto} {ns : List Int} (hu : slU u none (some 63) M0 = .ok (.r M0.length) (M0 ++ [.lst (intsU ns)])) (hn : ns.length < 1000) :
    ∃ M, C__law_bag [u] M0 = .ok (.r (M0.length + 2)) M ∧ BagOk M (M0.length + 2) (M0.length + 1) := by
  have hz : (intsU ns).length < sizeLine := by rw [intsU_len]; exact Nat.lt_trans hn (Nat.lt_trans (by decide) line_big)
  have k := comp_pure (M := M0 ++ [.lst (intsU ns)]) (M0 := M0) (u := .r M0.length) (us := intsU ns) (own := [1]) (g := .nm 1) (fi := wL (eSl (eV 0) (oNo) (oInt (eC (.int 63))))) (en := [some u, none])
    (fe := eB1 absB (aCons (eV 1) (aNil))) (by simp [hu]) (by simp) (fun x => match x with | .d (.int i) => .d (.int (if i < 0 then -i else i)) | _ => x) hz (fun x hx => by
      obtain ⟨i, _, rfl⟩ := List.mem_map.mp hx
      exact ⟨_, rfl, by simp [wipeE]⟩)
  have e : (intsU ns).map (fun x => match x with | .d (.int i) => .d (.int (if i < 0 then -i else i)) | _ => x) = intsU (ns.map fun i => if i < 0 then -i else i) := by
    simp only [intsU, List.map_map]
    rfl
  rw [e] at k
  refine ⟨M0 ++ [.lst (intsU ns)] ++ [.lst (intsU (ns.map fun i => if i < 0 then -i else i))] ++ [.lst [.d (.int 0), .d (.int 1234567891), .d (.int 0), .r (M0.length + 1)]], ?_, ⟨0, 1234567891, 0, ?_, by decide, by decide, by decide⟩, ⟨ns.map fun i => if i < 0 then -i else i, ?_, fun c hc => ?_, by simpa using hn⟩, by omega⟩
  · simp [-x_Comp, -List.append_assoc, C__law_bag, b__law_bag, runC, k]
  · rw [show M0.length + 2 = (M0 ++ [Ob.lst (intsU ns)] ++ [Ob.lst (intsU (ns.map fun i => if i < 0 then -i else i))]).length from by simp]
    exact st_new _
  · apply st_app
    rw [show M0.length + 1 = (M0 ++ [Ob.lst (intsU ns)]).length from by simp]
    exact st_new _
  · obtain ⟨i, _, rfl⟩ := List.mem_map.mp hc
    split <;> omega
theorem c_code {lb lc : Nat} {M : Sto} (h : BagOk M lb lc) : ∃ F M', C__law_code [.r lb] M = .ok (.d (fnsD F)) M' ∧ F.length = 2 ∧ FsK F ∧ BagOk M' lb lc ∧ Touch [lb] M M' := by
  have hlt := h.lt
  have key := for_rng (n := 2) (g := .nm 2) (body := (sSeq (sTup 2 (aCons (RS.e2 addU (eC (.int 3)) (eCall C__law_take (aCons (eV 0) (aCons (eC (.int 2)) (aNil))) 2)) (aCons (RS.e2 addU (eC (.int 4)) (eCall C__law_take (aCons (eV 0) (aCons (eC (.int 5)) (aNil))) 2)) (aNil))) (gs1 (gN 3) (gs1 (gN 4) (gs0)))) (sSeq (sAs (eComp [6] (wR1 (aCons (RS.e2 subU (eV 4) (eC (.int 1))) (aNil))) (.nm 6) (cTrue) (eCall C__law_instruction (aCons (eV 0) (aCons (eV 3) (aCons (eV 4) (aNil)))) 3)) (.nm 5)) (sSeq (sEx (eM isL appU (eV 5) (aCons (eTup (aCons (eC (.str "ret")) (aCons (eCall C__law_some (aCons (eV 0) (aCons (eLst (aCons (eC .none) (aCons (eC (.int 0)) (aCons (RS.e2 subU (eV 3) (eC (.int 1))) (aNil))))) (aNil))) 2) (aNil)))) (aNil)))) (sEx (eM isL appU (eV 1) (aCons (eTup (aCons (eC (.int 2)) (aCons (eV 3) (aCons (eB1 tupleB (aCons (eV 5) (aNil))) (aNil))))) (aNil))))))))
    (fun k en M' => ∃ (fns : List Fn) (x2 x3 x4 x5 x6 : Option U), en = [some (.r lb), some (.r M.length), x2, x3, x4, x5, x6] ∧ fns.length = k ∧ (∀ fn ∈ fns, FnD fn) ∧ BagOk M' lb lc ∧ M'[M.length]? = some (.lst (fns.map fun f => U.d f.d)) ∧ Touch [lb] M M')
    (fun o => ∃ (fns : List Fn) (x2 x3 x4 x5 x6 : Option U) (M' : Sto), o = .nx [some (.r lb), some (.r M.length), x2, x3, x4, x5, x6] M' ∧ fns.length = 2 ∧ (∀ fn ∈ fns, FnD fn) ∧ BagOk M' lb lc ∧ M'[M.length]? = some (.lst (fns.map fun f => U.d f.d)) ∧ Touch [lb] M M')
    (fun i en M' hi hI => by
      obtain ⟨fns, x2, x3, x4, x5, x6, rfl, h1, h2, h3, h4, h5⟩ := hI
      obtain ⟨fn, M2, y3, y4, y5, y6, k1, k2, k3, k4, k5⟩ := c_code1 h3 h4 (by omega) (by omega) (by omega) (some (.d (.int (0 + i)))) x3 x4 x5 x6
      refine ⟨_, rfl, .inl ⟨_, _, .inl k1, fns ++ [fn], _, _, _, _, _, rfl, by simp [h1], fun g hg => ?_, k3, k4, Nat.le_trans h5.1 k5.1, fun t ht hn => ?_⟩⟩
      · rcases List.mem_append.mp hg with hg | hg
        · exact h2 g hg
        · rw [List.mem_singleton.mp hg]; exact k2
      · rw [k5.2 t (Nat.lt_of_lt_of_le ht h5.1) (by simp at hn ⊢; exact ⟨hn, by omega⟩)]
        exact h5.2 t ht hn)
    (fun en M' hI => by
      obtain ⟨fns, x2, x3, x4, x5, x6, rfl, h1, h2, h3, h4, h5⟩ := hI
      exact ⟨fns, x2, x3, x4, x5, x6, M', rfl, h1, h2, h3, h4, h5⟩) 2 0 [some (.r lb), some (.r M.length), none, none, none, none, none] (M ++ [.lst []]) (by omega) (by omega) ⟨[], _, _, _, _, _, rfl, rfl, by simp, h.app _, by simp, .app _ _ _⟩
  obtain ⟨fns, x2, x3, x4, x5, x6, M', k, h1, h2, h3, h4, h5⟩ := key
  have hF : asDs (fns.map fun f => U.d f.d) = some (fns.map Fn.d) := by
    have : (fns.map fun f => U.d f.d) = (fns.map Fn.d).map U.d := by simp
    rw [this, u_asM]
  refine ⟨fns, M', ?_, h1, fun n fn hn => (h2 fn (List.mem_of_getElem? hn)).ok h1, h3, h5⟩
  simp only [C__law_code, b__law_code, runC, x_Seq (s := sAs _ _), x_Seq (s := sFor _ _ _), x_As, x_Lst, x_Nil, x_For, x_R1, x_Cons, x_C]
  simp [-x_Seq, k, h4, hF, fnsD]
end RSK

end
section
set_option Elab.async false
set_option linter.all false
set_option autoImplicit false
set_option maxRecDepth 100000
set_option maxHeartbeats 4000000
/-! K06R: a turn of the law. -/
namespace RSK
open PySem PySem.Spec PyProof.Rows L2 RS
theorem LawSt.app {M : Sto} {lf lr : Nat} {ps : List (Nat × Nat)} {stk : List Frm} {row : List Int} (h : LawSt M lf lr ps stk row) (J : Sto) : LawSt (M ++ J) lf lr ps stk row :=
  h.keep fun l hl => by rw [List.getElem?_append_left (h.below l hl)]
theorem LawSt.set {M : Sto} {lf lr lw : Nat} {ps : List (Nat × Nat)} {stk : List Frm} {row : List Int} (h : LawSt M lf lr ps stk row) (hn : lw ∉ lf :: lr :: locs ps) (x : Ob) : LawSt (M.set lw x) lf lr ps stk row :=
  h.keep fun l hl => List.getElem?_set_ne (fun (z : lw = l) => hn (by rw [z]; exact hl))
theorem BagOk.set {M : Sto} {lb lc lw : Nat} (h : BagOk M lb lc) (h1 : lw ≠ lb) (h2 : lw ≠ lc) (x : Ob) : BagOk (M.set lw x) lb lc := h.keep (List.getElem?_set_ne h1) (List.getElem?_set_ne h2)
def boolsU (F : List Fn) (s0 : StT) (n : Nat) : List U := (List.range n).map fun j => U.d (.bool (letS F (iter F s0 j)))
theorem boolsU_succ (F : List Fn) (s0 : StT) (n : Nat) : boolsU F s0 (n + 1) = boolsU F s0 n ++ [.d (.bool (letS F (iter F s0 n)))] := by simp [boolsU, List.range_succ]
theorem boolsU_len (F : List Fn) (s0 : StT) (n : Nat) : (boolsU F s0 n).length = n := by simp [boolsU]
/-- the stand in the law's store -/
def Held (M : Sto) (lf lr : Nat) (T : List Nat) : StT → Prop
  | .on stk row => ∃ ps, LawSt M lf lr ps stk row ∧ ∀ t ∈ T, t ∉ lf :: lr :: locs ps
  | .off p regs row => ∃ q, M[lf]? = some (.lst [.r (q : Nat × Nat).1]) ∧ FrAt M q (.int (-1)) p regs .none ∧ M[lr]? = some (.lst (intsU row)) ∧ plainP p ∧ ∀ t ∈ T, t ∉ [lf, lr]
structure Lap (F : List Fn) (u : U) (lb lc lr lf lw : Nat) (s0 : StT) (n : Nat) (en : En) (M : Sto) : Prop where
  en_ : ∃ x2 x5 x6 x11 x12 x13 x14, en = [some u, some (.r lb), x2, some (.d (fnsD F)), some (.r lr), x5, x6, some (.d (iter F s0 n).d), some (.r lf), some (.d s0.d), some (.r lw), x11, x12, x13, x14]
  live : ∀ j, j < n → Live F (iter F s0 j)
  held : Held M lf lr [lb, lc, lw] (iter F s0 n)
  bag : BagOk M lb lc
  ways : M[lw]? = some (.lst (boolsU F s0 n))
  nw : lw ≠ lb ∧ lw ≠ lc
  fin : ∀ stk row, iter F s0 n = .on stk row → StkK F stk ∧ stk.length ≤ 30
/-- and one may go on -/
def Goes (F : List Fn) (s0 : StT) (n : Nat) : Prop := ∃ stk row, iter F s0 n = .on stk row ∧ StkK F stk ∧ stk.length ≤ 20
theorem Goes.live {F : List Fn} {s0 : StT} {n : Nat} (h : Goes F s0 n) : Live F (iter F s0 n) := by
  obtain ⟨stk, row, e, h1, h2⟩ := h
  cases stk with
  | nil => exact h1.elim
  | cons f r => exact ⟨f, r, row, e, h1, by simp at h2; omega⟩
theorem step_stk {F : List Fn} (hFs : FsK F) {f : Frm} {r : List Frm} {row : List Int} (h : StkK F (f :: r)) {stk' : List Frm} {row' : List Int} (e : stepS F (.on (f :: r) row) = .on stk' row') : StkK F stk' ∧ stk'.length ≤ r.length + 2 := by
  obtain ⟨fn, i, k1, k2, k3, k4⟩ := live_ins hFs h
  rw [stepS_on k4] at e
  exact step_wf hFs h k4 e
theorem step_off {F : List Fn} {f : Frm} {r : List Frm} {row : List Int} {p : PyData} {regs row' : List Int} (hFs : FsK F) (h : StkK F (f :: r)) (e : stepS F (.on (f :: r) row) = .off p regs row') : plainP p := by
  obtain ⟨fn, i, k1, k2, k3, k4⟩ := live_ins hFs h
  rw [stepS_on k4] at e
  cases i with
  | ret o =>
    simp only [stepP, retP] at e
    cases hg : r.reverse.getLast? with
    | none =>
      rw [hg] at e
      cases e
      cases o with
      | none => exact .inl rfl
      | some q => exact .inr ⟨_, rfl⟩
    | some g =>
      rw [hg] at e
      cases hi : f.into with
      | none => rw [hi] at e; cases e
      | some q => rw [hi] at e; cases e
  | _ => cases e
theorem c_turn {F : List Fn} (hFs : FsK F) {u : U} {lb lc lr lf lw : Nat} {s0 : StT} {n : Nat} (hn : n < 40) {en : En} {M : Sto} (h : Lap F u lb lc lr lf lw s0 n en M) (hg : Goes F s0 n) (k : Int) :
    ∃ en2 M2, Lap F u lb lc lr lf lw s0 (n + 1) en2 M2 ∧ ((b_law_f0 (en.set 11 (some (.d (.int k)))) M = .nx en2 M2 ∧ Goes F s0 (n + 1)) ∨ b_law_f0 (en.set 11 (some (.d (.int k)))) M = .bk en2 M2) := by
  obtain ⟨⟨x2, x5, x6, x11, x12, x13, x14, rfl⟩, hlive, hheld, hbag, hways, ⟨nw1, nw2⟩, _⟩ := h
  have hlv := hg.live
  obtain ⟨stk, row, es, hst, hle⟩ := hg
  cases stk with
  | nil => exact hst.elim
  | cons f r =>
  have hr99 : r.length < 99 := by simp at hle; omega
  rw [es] at hheld
  obtain ⟨ps, hL, hT⟩ := hheld
  obtain ⟨p, ps', rfl⟩ := hL.shape
  have hlw : lw ∉ lf :: lr :: locs (p :: ps') := hT lw (by simp)
  obtain ⟨fn, i, k1, k2, k3, k4⟩ := live_ins hFs hst
  have hso : letS F (iter F s0 n) = letP f i := by
    rw [es]
    show (match insAt F f with
      | some i => letP f i
      | none => true) = _
    rw [k4]
  have hsd : (iter F s0 n).d = stD (r.reverse ++ [f]) row := by rw [es, d_on]
  obtain ⟨J1, a1⟩ := c_law_stand hL.fr (by have := hL.len; simp at this hle; simp; omega) hL.row hL.reads
  have a1 : C__law_stand [.r lf, .r lr] M = .ok (.d (stD (r.reverse ++ [f]) row)) (M ++ J1) := by
    rw [a1, List.reverse_cons]
    rfl
  have a2 := eq_same (shaped_st (r.reverse ++ [f]) row) (M ++ J1)
  have a3 := c_is_ended' r.reverse f row (M ++ J1)
  obtain ⟨J2, b1⟩ := c_law_let (hL.app J1) hFs k1 k2 k3
  have w1 : (M ++ J1 ++ J2)[lw]? = some (.lst (boolsU F s0 n)) := st_app (st_app hways _) _
  have wz : (boolsU F s0 n).length < sizeLine := by rw [boolsU_len]; exact Nat.lt_trans (show n < 100 by omega) (Nat.lt_trans (by decide) line_big)
  generalize hM3 : (M ++ J1 ++ J2).set lw (.lst (boolsU F s0 n ++ [.d (.bool (letP f i))])) = M3 at *
  have L3 : LawSt M3 lf lr (p :: ps') (f :: r) row := by rw [← hM3]; exact ((hL.app J1).app J2).set hlw _
  have B3 : BagOk M3 lb lc := by rw [← hM3]; exact ((hbag.app J1).app J2).set nw1 nw2 _
  have w3 : M3[lw]? = some (.lst (boolsU F s0 (n + 1))) := by rw [← hM3, boolsU_succ, hso]; exact setAt w1 _
  obtain ⟨J3, c1⟩ := c_within (r := r) hFs k1 k2 k3 row M3
  have c2 := eq_bool (letP f i) (letP f i) (M3 ++ J3)
  have hnx : (stepP F r.reverse f row i).st = iter F s0 (n + 1) := by
    show _ = stepS F (iter F s0 n)
    rw [es, stepS_on k4]
  have hnd : (stepP F r.reverse f row i).d = (iter F s0 (n + 1)).d := by rw [← hnx, Nxt.st_d]
  have hsh : SeqAt.shaped (iter F s0 (n + 1)).d = true := by
    have e : stepS F (.on (f :: r) row) = iter F s0 (n + 1) := by rw [stepS_on k4, hnx]
    cases hq : iter F s0 (n + 1) with
    | on stk' row' => exact shaped_st _ _
    | off pl rg rw' =>
      rw [hq] at e
      exact shaped_end (step_off hFs hst e) _ _
  have key : ∃ J, ∀ (over : Bool) (M7 : Sto) (us : List U), C__law_do [.d (fnsD F), .r lf, .r lr] (M3 ++ J) = .ok (.d (.bool over)) M7 → M7[lf]? = some (.lst us) →
      b_law_f0 [some u, some (.r lb), x2, some (.d (fnsD F)), some (.r lr), x5, x6, some (.d (iter F s0 n).d), some (.r lf), some (.d s0.d), some (.r lw), some (.d (.int k)), x12, x13, x14] M =
        if over = true ∨ 20 < us.length then .bk [some u, some (.r lb), x2, some (.d (fnsD F)), some (.r lr), x5, x6, some (.d (iter F s0 (n + 1)).d), some (.r lf), some (.d s0.d), some (.r lw), some (.d (.int k)), some (.d (.bool (letP f i))), some (.d (iter F s0 (n + 1)).d), some (.d (.bool over))] M7
        else .nx [some u, some (.r lb), x2, some (.d (fnsD F)), some (.r lr), x5, x6, some (.d (iter F s0 (n + 1)).d), some (.r lf), some (.d s0.d), some (.r lw), some (.d (.int k)), some (.d (.bool (letP f i))), some (.d (iter F s0 (n + 1)).d), some (.d (.bool over))] M7 := by
    rw [hsd]
    cases hb : letP f i with
    | true =>
      rw [hb] at b1 c1 c2 hM3
      obtain ⟨J4, d1⟩ := c_law_trap1 hFs hst hr99 k1 k2 k3 hb row (M3 ++ J3)
      obtain ⟨J5, d2⟩ := c_step hFs hst hr99 k1 k2 k3 row (M3 ++ J3 ++ J4)
      obtain ⟨J6, d3⟩ := c_checked1 hFs hst hr99 k1 k2 k3 hb row (M3 ++ J3 ++ J4 ++ J5)
      rw [hnd] at d2 d3
      have d4 := eq_same hsh (M3 ++ J3 ++ J4 ++ J5 ++ J6)
      have d5 := eq_bool true true (M3 ++ J3 ++ J4)
      refine ⟨J3 ++ J4 ++ J5 ++ J6, fun over M7 us h7 hm => ?_⟩
      simp only [← List.append_assoc] at h7
      simp [-List.append_assoc, b_law_f0, a1, a2, a3, b1, w1, wz, hM3, c1, c2, d1, d2, d3, d4, d5, h7, hm]
      have hc : ((20 : Int) < (us.length : Int)) ↔ 20 < us.length := by omega
      cases over <;> by_cases hz : 20 < us.length <;> simp [hz, hc]
    | false =>
      rw [hb] at b1 c1 c2 hM3
      obtain ⟨J4, d1⟩ := c_law_trap0 (r := r) hFs k1 k2 k3 hb row (M3 ++ J3)
      obtain ⟨J5, d2⟩ := c_law_trap0 (r := r) hFs k1 k2 k3 hb row (M3 ++ J3 ++ J4)
      obtain ⟨J6, d3⟩ := c_step hFs hst hr99 k1 k2 k3 row (M3 ++ J3 ++ J4 ++ J5)
      rw [hnd] at d3
      have L5 := ((L3.app J3).app J4).app J5
      have l1 := L5.fr
      rw [List.reverse_cons, List.map_append, List.map_cons, List.map_nil] at l1
      obtain ⟨l2, l3⟩ := L5.top
      have d4 := eq_same (d := .tuple [.int f.num, .int f.at_]) (shaped_of (by simp [PyData.canLay0, PyData.canLayAll0]) (by simp [PyData.depth, PyData.depthAll])) (M3 ++ J3 ++ J4 ++ J5)
      have d5 := eq_bool false false (M3 ++ J3 ++ J4)
      refine ⟨J3 ++ J4 ++ J5 ++ J6, fun over M7 us h7 hm => ?_⟩
      simp only [← List.append_assoc] at h7
      simp [-List.append_assoc, b_law_f0, a1, a2, a3, b1, w1, wz, hM3, c1, c2, d1, d2, d3, d4, d5, h7, hm, l1, l2, L2.atI_last]
      have hc : ((20 : Int) < (us.length : Int)) ↔ 20 < us.length := by omega
      cases over <;> by_cases hz : 20 < us.length <;> simp [hz, hc]
  obtain ⟨J, key⟩ := key
  have LJ := L3.app J
  have BJ := B3.app J
  have wJ := st_app w3 J
  have D := do_all hFs LJ hst hr99
  have e : stepS F (.on (f :: r) row) = iter F s0 (n + 1) := by rw [stepS_on k4, hnx]
  rw [e] at D
  have nb := hT lb (by simp)
  have nc := hT lc (by simp)
  have hlive' : ∀ j, j < n + 1 → Live F (iter F s0 j) := fun j hj => by
    by_cases z : j = n
    · rw [z]; exact hlv
    · exact hlive j (by omega)
  have cs : (∃ stk' row', iter F s0 (n + 1) = .on stk' row') ∨ (∃ p rg rw', iter F s0 (n + 1) = .off p rg rw') := by
    cases iter F s0 (n + 1) with
    | on a b => exact .inl ⟨_, _, rfl⟩
    | off a b c => exact .inr ⟨_, _, _, rfl⟩
  rcases cs with ⟨stk', row', hq⟩ | ⟨pl, rg, rw', hq⟩
  · rw [hq] at D e
    obtain ⟨M7, ps2, d1, L7, K7⟩ := D
    obtain ⟨s1, s2⟩ := step_stk hFs hst e
    have kb := K7.2 lb BJ.lt.1 nb
    have kc := K7.2 lc BJ.lt.2 nc
    have kw := K7.2 lw (st_lt wJ) hlw
    have hk := key false M7 _ d1 L7.fr
    have lap : Lap F u lb lc lr lf lw s0 (n + 1) [some u, some (.r lb), x2, some (.d (fnsD F)), some (.r lr), x5, x6, some (.d (iter F s0 (n + 1)).d), some (.r lf), some (.d s0.d), some (.r lw), some (.d (.int k)), some (.d (.bool (letP f i))), some (.d (iter F s0 (n + 1)).d), some (.d (.bool false))] M7 :=
      ⟨⟨_, _, _, _, _, _, _, rfl⟩, hlive', by
        rw [hq]
        exact ⟨ps2, L7, fun t ht => by
          simp only [List.mem_cons, List.not_mem_nil, or_false] at ht
          rcases ht with rfl | rfl | rfl
          · exact kb.2
          · exact kc.2
          · exact kw.2⟩, BJ.keep kb.1 kc.1, kw.1.trans wJ, ⟨nw1, nw2⟩, fun a b ha => by
          rw [hq] at ha
          cases ha
          exact ⟨s1, by simp at hle; omega⟩⟩
    refine ⟨_, M7, lap, ?_⟩
    have hlen : (ps2.reverse.map fun p => U.r p.1).length = stk'.length := by simp [L7.len]
    rw [hlen] at hk
    by_cases z : 20 < stk'.length
    · rw [if_pos (.inr z)] at hk
      exact .inr hk
    · rw [if_neg (by simpa using z)] at hk
      exact .inl ⟨hk, stk', row', hq, s1, by omega⟩
  · rw [hq] at D e
    obtain ⟨M7, q, d1, f7, f8, r7, K7⟩ := D
    have kb := K7.2 lb BJ.lt.1 nb
    have kc := K7.2 lc BJ.lt.2 nc
    have kw := K7.2 lw (st_lt wJ) hlw
    have hk := key true M7 _ d1 f7
    rw [if_pos (.inl rfl)] at hk
    have lap : Lap F u lb lc lr lf lw s0 (n + 1) [some u, some (.r lb), x2, some (.d (fnsD F)), some (.r lr), x5, x6, some (.d (iter F s0 (n + 1)).d), some (.r lf), some (.d s0.d), some (.r lw), some (.d (.int k)), some (.d (.bool (letP f i))), some (.d (iter F s0 (n + 1)).d), some (.d (.bool true))] M7 :=
      ⟨⟨_, _, _, _, _, _, _, rfl⟩, hlive', by
        rw [hq]
        exact ⟨q, f7, f8, r7, step_off hFs hst e, fun t ht => by
          simp only [List.mem_cons, List.not_mem_nil, or_false] at ht
          rcases ht with rfl | rfl | rfl
          · exact kb.2
          · exact kc.2
          · exact kw.2⟩, BJ.keep kb.1 kc.1, kw.1.trans wJ, ⟨nw1, nw2⟩, fun a b ha => by
          rw [hq] at ha
          cases ha⟩
    exact ⟨_, M7, lap, .inr hk⟩
end RSK

end
section
set_option Elab.async false
set_option linter.all false
set_option autoImplicit false
set_option maxRecDepth 100000
set_option maxHeartbeats 4000000
/-! K06S: a lap of the law. -/
namespace RSK
open PySem PySem.Spec PyProof.Rows L2 RS
def f1_a : En → Sto → O := (sIf (bOr (eB (RS.e2 (eqU' true) (eV 7) (eCall C__law_stand (aCons (eV 8) (aCons (eV 4) (aNil))) 2))) (eB (RS.e2 (eqU' true) (eCall C_run (aCons (eV 3) (aCons (eV 9) (aCons (eB1 lenB (aCons (eV 10) (aNil))) (aNil)))) 3) (eV 7)))) (sRt (eC (.bool false))) (sNx))
def f1_b : En → Sto → O := (sIf (bAnd (eB (RS.e2 (inU true) (eC (.bool false)) (eV 10))) (eB (RS.e2 (eqU' true) (eCall C_checked_run (aCons (eV 3) (aCons (eV 9) (aCons (eB1 lenB (aCons (eV 10) (aNil))) (aNil)))) 3) (eV 7)))) (sRt (eC (.bool false))) (sNx))
def f1_c : En → Sto → O := (sSeq (sIf (eB (eCall C_is_ended (aCons (eV 7) (aNil)) 1)) (sIf (bOr (eB (RS.e2 (eqU' true) (eCall C_end_of (aCons (eV 7) (aNil)) 1) (eTup (aCons (eB1 tupleB (aCons (eV 4) (aNil))) (aCons (RS.e2 ixU (RS.e2 ixU (eV 8) (eC (.int 0))) (eC (.int 1))) (aNil)))))) (bNot (eB (eLam mt_Nothing (eCall C_step (aCons (eV 3) (aCons (eV 7) (aNil))) 2))))) (sRt (eC (.bool false))) (sNx)) (sIf (bNot (eB (eLam mt_Nothing (eCall C_end_of (aCons (eV 7) (aNil)) 1)))) (sRt (eC (.bool false))) (sNx))) (sIf (eB (RS.e2 (eqU' true) (eB1 sortB (aCons (RS.e2 ixU (eV 7) (eC (.int 1))) (aNil))) (eB1 sortB (aCons (RS.e2 ixU (eV 9) (eC (.int 1))) (aNil))))) (sRt (eC (.bool false))) (sNx)))
def f1_tail : En → Sto → O := sSeq f1_a (sSeq f1_b f1_c)
theorem b_f1 : b_law_f1 = sSeq (sTup 2 (aCons (eCall C__law_code (aCons (eV 1) (aNil)) 1) (aCons (eB1 listB (aCons (eCall C__law_drawn_row (aCons (eV 1) (aCons (eCall C__law_take (aCons (eV 1) (aCons (eC (.int 5)) (aNil))) 2) (aNil))) 2) (aNil))) (aNil))) (gs1 (gN 3) (gs1 (gN 4) (gs0)))) (sSeq (sPar 5 6 (aCons (eCall C__law_take (aCons (eV 1) (aCons (eC (.int 2)) (aNil))) 2) (aCons (eTup (aCons (eCall C__law_take (aCons (eV 1) (aCons (eC (.int 3)) (aNil))) 2) (aCons (eCall C__law_take (aCons (eV 1) (aCons (eC (.int 6)) (aNil))) 2) (aNil)))) (aNil)))) (sSeq (sTup 2 (aCons (eCall C_begin (aCons (eV 3) (aCons (eV 5) (aCons (eB1 tupleB (aCons (eV 4) (aNil))) (aCons (eV 6) (aNil))))) 4) (aCons (eLst (aCons (eCall C__law_entered (aCons (eV 3) (aCons (eV 5) (aCons (eV 6) (aCons (eC .none) (aNil))))) 4) (aNil))) (aNil))) (gs1 (gN 7) (gs1 (gN 8) (gs0)))) (sSeq (sPar 9 10 (aCons (eV 7) (aCons (eLst (aNil)) (aNil)))) (sSeq (sFor (wR1 (aCons (eC (.int 40)) (aNil))) (.nm 11) (b_law_f0)) f1_tail)))) := rfl
theorem c_inF {M : Sto} {lw : Nat} {F : List Fn} {s0 : StT} {n : Nat} (h : M[lw]? = some (.lst (boolsU F s0 n))) : ∃ b, inU true (.d (.bool false)) (.r lw) M = .ok (.d (.bool b)) M ∧ (b = true → ∀ k, k < n → letS F (iter F s0 k) = true) := by
  have e : boolsU F s0 n = ((List.range n).map fun j => PyData.bool (letS F (iter F s0 j))).map U.d := by simp [boolsU]
  rw [e] at h
  have ha : (((List.range n).map fun j => PyData.bool (letS F (iter F s0 j))).all flatD) = true := by
    rw [List.all_map, List.all_eq_true]
    intro x _
    rfl
  refine ⟨!((List.range n).map fun j => PyData.bool (letS F (iter F s0 j))).any (fun y => PyData.eqv y (.bool false)), ?_, fun hb k hk => ?_⟩
  · unfold inU
    rw [u_it, h]
    simp only [u_asM, ha]
    rfl
  · rw [Bool.not_eq_true', List.any_eq_false] at hb
    have := hb _ (List.mem_map.mpr ⟨k, List.mem_range.mpr hk, rfl⟩)
    cases hz : letS F (iter F s0 k) with
    | true => rfl
    | false =>
      exfalso
      apply this
      rw [hz]
      rfl
theorem c_step0 (U0 : U) (place : PyData) (regs row : List Int) (M : Sto) : C_step [U0, .d (endD place regs row)] M = .ex "Nothing" [] M := by
  have h := c_instr0 U0 U0 place (intsD regs) (intsD row) M
  simp only [C_step, b_step, runC, endD]
  simp [h]
theorem asIs_ints (l : List Int) : asIs (intsU l) = some l := by
  induction l with
  | nil => rfl
  | cons x l ih =>
    show (match asIs (intsU l) with
      | some ks => some (x :: ks)
      | none => none) = _
    rw [ih]
theorem c_sort {l : List Int} (h : l.length < 64) (M : Sto) : sortB [.d (intsD l)] M = .ok (.r M.length) (M ++ [.lst (intsU (sortI l))]) := by
  unfold sortB
  have e : itemsU M (.d (intsD l)) = some (intsU l) := by simp [intsD, intsU]
  simp only [e, asIs_ints]
  rw [if_pos h]
  rfl
theorem mapM_some : ∀ (xs : List PyData) (M : Sto), (xs.map U.d).mapM (snap 3 M) = some xs
  | [], _ => rfl
  | x :: xs, M => by
    rw [List.map_cons, List.mapM_cons, mapM_some xs M]
    rfl
theorem snap_ints {M : Sto} {l : Nat} {ns : List Int} (h : M[l]? = some (.lst (intsU ns))) : snap 4 M (.r l) = some (.list (ns.map .int)) := by
  have e : intsU ns = (ns.map PyData.int).map U.d := by simp [intsU]
  rw [e] at h
  show (match M[l]? with
    | some (.lst us) => (us.mapM (snap 3 M)).map PyData.list
    | _ => none) = _
  rw [h]
  show ((List.map U.d _).mapM (snap 3 M)).map PyData.list = _
  rw [mapM_some]
  rfl
theorem eq_lists {M : Sto} {a b : Nat} {ns : List Int} (h1 : M[a]? = some (.lst (intsU ns))) (h2 : M[b]? = some (.lst (intsU ns))) : eqU' true (.r a) (.r b) M = .ok (.d (.bool false)) M := by
  have hs : SeqAt.shaped (.list (ns.map .int)) = true := by
    have x1 := lay_ints ns
    have x2 := dep_ints ns
    apply shaped_of
    · simp [PyData.canLay0, x1]
    · simp [PyData.depth]; omega
  have h0 : (PyData.list (ns.map .int)).canLay0 = true := by
    have : ((PyData.list (ns.map .int)).canLay0 && decide ((PyData.list (ns.map .int)).depth ≤ 64)) = true := hs
    exact (Bool.and_eq_true_iff.mp this).1
  unfold eqU'
  rw [snap_ints h1, snap_ints h2]
  show (if (SeqAt.shaped (PyData.list (ns.map .int)) && SeqAt.shaped (.list (ns.map .int))) = true then R.ok (U.d (.bool (if true = true then !PyData.eqv (.list (ns.map .int)) (.list (ns.map .int)) else PyData.eqv (.list (ns.map .int)) (.list (ns.map .int))))) M else R.bad) = _
  rw [hs, PySem.SeqAt.eqv_refl _ h0]
  rfl
theorem shaped_two {p : PyData} (h : plainP p) (row : List Int) : SeqAt.shaped (.tuple [intsD row, p]) = true := by
  have h2 := lay_ints row
  have h3 := dep_ints row
  have h4 := plain_ok h
  apply shaped_of
  · simp [intsD, PyData.canLay0, PyData.canLayAll0, h2, h4.1]
  · simp only [intsD, PyData.depth, PyData.depthAll, h4.2]
    omega
theorem sort_same {a b : List Int} (h : a.Perm b) : sortI a = sortI b :=
  @sorted_one ⟨[]⟩ _ _ ((@sortI_perm ⟨[]⟩ a).trans (h.trans (@sortI_perm ⟨[]⟩ b).symm)) (@sortI_sorted ⟨[]⟩ a) (@sortI_sorted ⟨[]⟩ b)
theorem ix_st (fs : List Frm) (row : List Int) (M : Sto) : ixU (.d (stD fs row)) (.d (.int 1)) M = .ok (.d (intsD row)) M := by simp [stD]
theorem ix_end (p : PyData) (rg row : List Int) (M : Sto) : ixU (.d (endD p rg row)) (.d (.int 1)) M = .ok (.d (intsD row)) M := by simp [endD]
/-- the first two questions -/
theorem c_ab {F : List Fn} (hFs : FsK F) {u : U} {lb lr lf lw : Nat} {s0 : StT} {n : Nat} (hn : n ≤ 40) {x2 x5 x6 x11 x12 x13 x14 : Option U} {M : Sto} {J1 : Sto} (hlive : ∀ j, j < n → Live F (iter F s0 j)) (hways : M[lw]? = some (.lst (boolsU F s0 n)))
    (a1 : C__law_stand [.r lf, .r lr] M = .ok (.d (iter F s0 n).d) (M ++ J1)) (hsh : SeqAt.shaped (iter F s0 n).d = true) :
    ∃ J, ∀ k : En → Sto → O, sSeq f1_a (sSeq f1_b k) [some u, some (.r lb), x2, some (.d (fnsD F)), some (.r lr), x5, x6, some (.d (iter F s0 n).d), some (.r lf), some (.d s0.d), some (.r lw), x11, x12, x13, x14] M = k [some u, some (.r lb), x2, some (.d (fnsD F)), some (.r lr), x5, x6, some (.d (iter F s0 n).d), some (.r lf), some (.d s0.d), some (.r lw), x11, x12, x13, x14] (M ++ J) := by
  have q1 := fun M => eq_same hsh M
  obtain ⟨J2, b1⟩ := c_run (s := s0) hFs (by omega : n ≤ 1000) hlive (M ++ J1)
  have w1 := st_app hways J1
  have w2 := st_app w1 J2
  obtain ⟨b, c1, c2⟩ := c_inF w2
  have ha : f1_a [some u, some (.r lb), x2, some (.d (fnsD F)), some (.r lr), x5, x6, some (.d (iter F s0 n).d), some (.r lf), some (.d s0.d), some (.r lw), x11, x12, x13, x14] M = .nx [some u, some (.r lb), x2, some (.d (fnsD F)), some (.r lr), x5, x6, some (.d (iter F s0 n).d), some (.r lf), some (.d s0.d), some (.r lw), x11, x12, x13, x14] (M ++ J1 ++ J2) := by
    simp [-List.append_assoc, f1_a, a1, q1, w1, boolsU_len, b1]
  cases b with
  | true =>
    obtain ⟨J3, d1⟩ := c_crun (s := s0) hFs (by omega : n ≤ 1000) hlive (c2 rfl) (M ++ J1 ++ J2)
    have hb : f1_b [some u, some (.r lb), x2, some (.d (fnsD F)), some (.r lr), x5, x6, some (.d (iter F s0 n).d), some (.r lf), some (.d s0.d), some (.r lw), x11, x12, x13, x14] (M ++ J1 ++ J2) = .nx [some u, some (.r lb), x2, some (.d (fnsD F)), some (.r lr), x5, x6, some (.d (iter F s0 n).d), some (.r lf), some (.d s0.d), some (.r lw), x11, x12, x13, x14] (M ++ J1 ++ J2 ++ J3) := by
      simp [-List.append_assoc, f1_b, q1, w2, boolsU_len, c1, d1]
    refine ⟨J1 ++ J2 ++ J3, fun k => ?_⟩
    simp only [x_Seq, ha, hb]
    simp only [List.append_assoc]
  | false =>
    have hb : f1_b [some u, some (.r lb), x2, some (.d (fnsD F)), some (.r lr), x5, x6, some (.d (iter F s0 n).d), some (.r lf), some (.d s0.d), some (.r lw), x11, x12, x13, x14] (M ++ J1 ++ J2) = .nx [some u, some (.r lb), x2, some (.d (fnsD F)), some (.r lr), x5, x6, some (.d (iter F s0 n).d), some (.r lf), some (.d s0.d), some (.r lw), x11, x12, x13, x14] (M ++ J1 ++ J2) := by
      simp [-List.append_assoc, f1_b, c1]
    refine ⟨J1 ++ J2, fun k => ?_⟩
    simp only [x_Seq, ha, hb]
    simp only [List.append_assoc]
theorem c_tail {F : List Fn} (hFs : FsK F) {u : U} {lb lc lr lf lw : Nat} {s0 : StT} {n : Nat} (hn : n ≤ 40) {en : En} {M : Sto} (h : Lap F u lb lc lr lf lw s0 n en M) (h0 : ∃ fs, s0.d = stD fs s0.row) (hr0 : s0.row.length < 64) :
    ∃ M', f1_tail en M = .nx en M' ∧ BagOk M' lb lc := by
  have hperm := iter_row F s0 n
  obtain ⟨fs0, hfs0⟩ := h0
  obtain ⟨⟨x2, x5, x6, x11, x12, x13, x14, rfl⟩, hlive, hheld, hbag, hways, ⟨nw1, nw2⟩, hfin⟩ := h
  have cs : (∃ stk' row', iter F s0 n = .on stk' row') ∨ (∃ p rg rw', iter F s0 n = .off p rg rw') := by
    cases iter F s0 n with
    | on a b => exact .inl ⟨_, _, rfl⟩
    | off a b c => exact .inr ⟨_, _, _, rfl⟩
  rcases cs with ⟨stk, row, hq⟩ | ⟨p, rg, row, hq⟩
  · rw [hq] at hheld hperm
    obtain ⟨hst, hle⟩ := hfin _ _ hq
    cases stk with
    | nil => exact hst.elim
    | cons f r =>
    have hperm : row.Perm s0.row := hperm
    obtain ⟨ps, hL, hT⟩ := hheld
    have hd : (iter F s0 n).d = stD (r.reverse ++ [f]) row := by rw [hq, d_on]
    obtain ⟨J1, a1⟩ := c_law_stand hL.fr (by have := hL.len; simp at this hle; simp; omega) hL.row hL.reads
    have a1 : C__law_stand [.r lf, .r lr] M = .ok (.d (iter F s0 n).d) (M ++ J1) := by
      rw [a1, hd, List.reverse_cons]
      rfl
    obtain ⟨J, k1⟩ := c_ab (u := u) (lb := lb) (x2 := x2) (x5 := x5) (x6 := x6) (x11 := x11) (x12 := x12) (x13 := x13) (x14 := x14) hFs hn hlive hways a1 (by rw [hd]; exact shaped_st _ _)
    unfold f1_tail
    rw [k1]
    rw [hd, hfs0]
    have q2 := fun M => c_is_ended' r.reverse f row M
    have q3 := fun M => c_end_of0 r.reverse f row M
    have hl : row.length < 64 := by rw [hperm.length_eq]; exact hr0
    have hs := sort_same hperm
    have g1 := c_sort hl (M ++ J)
    have g2 := c_sort hr0 (M ++ J ++ [Ob.lst (intsU (sortI row))])
    have g3 := eq_lists (M := M ++ J ++ [Ob.lst (intsU (sortI row))] ++ [Ob.lst (intsU (sortI s0.row))]) (a := (M ++ J).length) (b := (M ++ J ++ [Ob.lst (intsU (sortI row))]).length) (ns := sortI row) (st_app (st_new _) _) (by rw [hs]; exact st_new _)
    refine ⟨_, ?_, ((hbag.app J).app [Ob.lst (intsU (sortI row))]).app [Ob.lst (intsU (sortI s0.row))]⟩
    generalize M ++ J = M1 at *
    rw [show (M1 ++ [Ob.lst (intsU (sortI row))]).length = M1.length + 1 from by simp] at g3
    simp [-List.append_assoc, f1_c, eLam, mt_Nothing, q2, q3, ix_st, g1, g2, g3]
  · rw [hq] at hheld hperm
    have hperm : row.Perm s0.row := hperm
    obtain ⟨q, f1, f2, f3, f4, f5⟩ := hheld
    have hd : (iter F s0 n).d = endD p rg row := by rw [hq]; rfl
    have hr : Reads M [.r q.1] [frD (.int (-1)) p rg .none] := .cons ⟨q, _, _, _, _, rfl, f2, rfl⟩ .nil
    obtain ⟨J1, a1⟩ := c_law_stand f1 (by simp) f3 hr
    have a1 : C__law_stand [.r lf, .r lr] M = .ok (.d (iter F s0 n).d) (M ++ J1) := by
      rw [a1, hd]
      rfl
    obtain ⟨J, k1⟩ := c_ab (u := u) (lb := lb) (x2 := x2) (x5 := x5) (x6 := x6) (x11 := x11) (x12 := x12) (x13 := x13) (x14 := x14) hFs hn hlive hways a1 (by rw [hd]; exact shaped_end f4 _ _)
    unfold f1_tail
    rw [k1]
    rw [hd, hfs0]
    have q2 := fun M => c_ended p rg row M
    have q3 := fun M => c_end_of p rg row M
    have q4 := fun M => c_step0 (.d (fnsD F)) p rg row M
    have q5 := fun M => eq_same (shaped_two f4 row) M
    have hl : row.length < 64 := by rw [hperm.length_eq]; exact hr0
    have hs := sort_same hperm
    have m1 := st_app f1 J
    have m2 := st_app f2.1 J
    have m3 := st_app f3 J
    have g1 := c_sort hl (M ++ J)
    have g2 := c_sort hr0 (M ++ J ++ [Ob.lst (intsU (sortI row))])
    have g3 := eq_lists (M := M ++ J ++ [Ob.lst (intsU (sortI row))] ++ [Ob.lst (intsU (sortI s0.row))]) (a := (M ++ J).length) (b := (M ++ J ++ [Ob.lst (intsU (sortI row))]).length) (ns := sortI row) (st_app (st_new _) _) (by rw [hs]; exact st_new _)
    have hb := ((hbag.app J).app [Ob.lst (intsU (sortI row))]).app [Ob.lst (intsU (sortI s0.row))]
    refine ⟨_, ?_, hb⟩
    generalize M ++ J = M1 at *
    rw [show (M1 ++ [Ob.lst (intsU (sortI row))]).length = M1.length + 1 from by simp] at g3
    have e5 : asDs (intsU row) = some (row.map .int) := asDs_ints row
    have q5 : eqU' true (.d (.tuple [.tuple (row.map .int), p])) (.d (.tuple [.tuple (row.map .int), p])) M1 = .ok (.d (.bool false)) M1 := q5 M1
    have q3 : C_end_of [.d (endD p rg row)] M1 = .ok (.d (.tuple [.tuple (row.map .int), p])) M1 := q3 M1
    simp [-List.append_assoc, f1_c, eLam, mt_Nothing, q2, q3, q4, q5, e5, m1, m2, m3, ix_st, ix_end, g1, g2, g3]
end RSK

end
section
set_option Elab.async false
set_option linter.all false
set_option autoImplicit false
set_option maxRecDepth 100000
set_option maxHeartbeats 4000000
/-! K06T: the law, whole. -/
namespace RSK
open PySem PySem.Spec PyProof.Rows L2 RS
theorem c_turns {F : List Fn} (hFs : FsK F) {u : U} {lb lc lr lf lw : Nat} {s0 : StT} {en : En} {M : Sto} (h : Lap F u lb lc lr lf lw s0 0 en M) (hg : Goes F s0 0) :
    ∃ m en2 M2, m ≤ 40 ∧ fLoop (.rng 0 40) (.nm 11) b_law_f0 41 0 en M = .nx en2 M2 ∧ Lap F u lb lc lr lf lw s0 m en2 M2 := by
  have key := for_rng (n := 40) (g := .nm 11) (body := b_law_f0)
    (fun k en M' => Lap F u lb lc lr lf lw s0 k en M' ∧ Goes F s0 k)
    (fun o => ∃ m en2 M2, m ≤ 40 ∧ o = .nx en2 M2 ∧ Lap F u lb lc lr lf lw s0 m en2 M2)
    (fun i en M' hi hI => by
      obtain ⟨h1, h2⟩ := hI
      obtain ⟨en2, M2, k1, k2⟩ := c_turn hFs hi h1 h2 (0 + i)
      have hl : en.length = 15 := by
        obtain ⟨x2, x5, x6, x11, x12, x13, x14, e⟩ := h1.en_
        rw [e]
        rfl
      refine ⟨en.set 11 (some (.d (.int (0 + i)))), ?_, ?_⟩
      · obtain ⟨x2, x5, x6, x11, x12, x13, x14, e⟩ := h1.en_
        rw [e]
        rfl
      · rcases k2 with ⟨k2, k3⟩ | k2
        · exact .inl ⟨en2, M2, .inl k2, k1, k3⟩
        · exact .inr (.inl ⟨en2, M2, k2, i + 1, en2, M2, hi, rfl, k1⟩))
    (fun en M' hI => ⟨40, en, M', Nat.le_refl _, rfl, hI.1⟩) 40 0 en M (by omega) (by omega) ⟨h, hg⟩
  exact key
theorem c_lap {u : U} {lb lc : Nat} {M : Sto} (h : BagOk M lb lc) (x2 x3 x4 x5 x6 x7 x8 x9 x10 x11 x12 x13 x14 : Option U) :
    ∃ y2 y3 y4 y5 y6 y7 y8 y9 y10 y11 y12 y13 y14 M', b_law_f1 [some u, some (.r lb), x2, x3, x4, x5, x6, x7, x8, x9, x10, x11, x12, x13, x14] M = .nx [some u, some (.r lb), y2, y3, y4, y5, y6, y7, y8, y9, y10, y11, y12, y13, y14] M' ∧ BagOk M' lb lc := by
  obtain ⟨F, M1, a1, a2, a3, a4, a5⟩ := c_code h
  obtain ⟨v, M2, b1, b2, b3, b4⟩ := c_take a4 (n := 5) (by omega) (by omega)
  obtain ⟨row, M3, c1, c2, c3, c4⟩ := c_drawn_row b3 (n := v) (by omega)
  have d0 : BagOk (M3 ++ [Ob.lst (intsU row)]) lb lc := c3.app _
  obtain ⟨n, M5, d1, d2, d3, d4⟩ := c_take d0 (n := 2) (by omega) (by omega)
  obtain ⟨a, M6, f1, f2, f3, f4⟩ := c_take d3 (n := 3) (by omega) (by omega)
  obtain ⟨b, M7, g1, g2, g3, g4⟩ := c_take f3 (n := 6) (by omega) (by omega)
  have b1 : C__law_take [.r lb, .d (.int 5)] M1 = .ok (.d (.int v)) M2 := b1
  have d1 : C__law_take [.r lb, .d (.int 2)] (M3 ++ [Ob.lst (intsU row)]) = .ok (.d (.int n)) M5 := d1
  have f1 : C__law_take [.r lb, .d (.int 3)] M5 = .ok (.d (.int a)) M6 := f1
  have g1 : C__law_take [.r lb, .d (.int 6)] M6 = .ok (.d (.int b)) M7 := g1
  have hnr : M3.length ∉ [lb] := by have := c3.lt; simp; omega
  have T := (d4.trans f4).trans g4
  have r7 : M7[M3.length]? = some (.lst (intsU row)) := by rw [T.2 _ (by simp) hnr]; exact st_new _
  have l7 : M3.length < M7.length := st_lt r7
  have hF : F[n]? = some F[n] := List.getElem?_eq_getElem (by omega)
  generalize F[n] = fn at hF
  have R := a3 _ _ hF
  have m3 := R.m3
  have m9 := R.m9
  have k1 := c_begin F n fn hF a b row (by omega) m9 M7
  obtain ⟨J, k2, k3, k4⟩ := c_law_entered (M := M7) hF (ps := [(a : Int), (b : Int)]) (by simp; omega) m9 (.inl rfl) .none
  have e5 : asDs (intsU row) = some (row.map .int) := asDs_ints row
  generalize hfr : (⟨n, 0, (a : Int) :: (b : Int) :: List.replicate (fn.many - 2) 0, none⟩ : Frm) = fr0 at k1
  have hst : StkK F [fr0] := by
    rw [← hfr]
    exact ⟨⟨fn, hF, R.c0, by simp; omega⟩, rfl⟩
  have k1 : C_begin [.d (fnsD F), .d (.int n), .d (.tuple (row.map .int)), .d (.tuple [.int a, .int b])] M7 = .ok (.d (stD [fr0] row)) M7 := k1
  have k2 : C__law_entered [.d (fnsD F), .d (.int n), .d (.tuple [.int a, .int b]), .d .none] M7 = .ok (.r (M7.length + 4)) (M7 ++ J) := k2
  generalize hM8 : M7 ++ J ++ [Ob.lst [.r (M7.length + 4)]] = M8
  have l8 : M8.length = M7.length + 6 := by rw [← hM8]; simp; omega
  have lj : (M7 ++ J).length = M7.length + 5 := by simp; omega
  have lap : ∀ z2 z5 z6 z11 z12 z13 z14, Lap F u lb lc M3.length (M7.length + 5) M8.length (.on [fr0] row) 0 [some u, some (.r lb), z2, some (.d (fnsD F)), some (.r M3.length), z5, z6, some (.d (stD [fr0] row)), some (.r (M7.length + 5)), some (.d (stD [fr0] row)), some (.r M8.length), z11, z12, z13, z14] (M8 ++ [Ob.lst []]) := fun z2 z5 z6 z11 z12 z13 z14 => by
    have lt7 := g3.lt
    have ltl := a4.lt
    refine ⟨⟨z2, z5, z6, z11, z12, z13, z14, rfl⟩, fun j hj => by omega, ?_, ?_, st_new _, ⟨by omega, by omega⟩, fun stk rw' e => ?_⟩
    · refine ⟨[(M7.length + 4, M7.length + 3)], ⟨rfl, ?_, ?_, fun k p f hp hf => ?_, ?_⟩, fun t ht => ?_⟩
      · have := st_new (M := M7 ++ J) (Ob.lst [.r (M7.length + 4)])
        rw [lj] at this
        rw [← hM8]
        exact st_app this _
      · rw [← hM8]
        exact st_app (st_app (st_app r7 _) _) _
      · cases k with
        | zero =>
          cases hp
          cases hf
          rw [← hM8, ← hfr]
          have : FrAt (M7 ++ J) (M7.length + 4, M7.length + 3) (.int n) (.int 0) ((a : Int) :: (b : Int) :: List.replicate (fn.many - 2) 0) .none := k4
          exact ⟨st_app (st_app this.1 _) _, st_app (st_app this.2 _) _⟩
        | succ k => cases hp
      · simp [locs]
        omega
      · simp only [List.mem_cons, List.not_mem_nil, or_false] at ht
        have c3l := c3.lt
        simp [locs]
        omega
    · rw [← hM8]
      exact ((g3.app J).app _).app _
    · cases e
      exact ⟨hst, by simp⟩
  obtain ⟨m, en2, M9, t1, t2, t3⟩ := c_turns a3 (lap x2 (some (.d (.int n))) (some (.d (.tuple [.int a, .int b]))) x11 x12 x13 x14) ⟨[fr0], row, rfl, hst, by simp⟩
  obtain ⟨M10, v1, v2⟩ := c_tail a3 t1 t3 ⟨[fr0], rfl⟩ (by show row.length < 64; omega)
  obtain ⟨⟨y2, y5, y6, y11, y12, y13, y14, rfl⟩, -⟩ := t3
  have hc1 : listB [.d (intsD row)] M3 = .ok (.r M3.length) (M3 ++ [Ob.lst (intsU row)]) := by simp [intsD, intsU]
  have hc2 : (M7 ++ J).length = M7.length + 5 := lj
  have fin : b_law_f1 [some u, some (.r lb), x2, x3, x4, x5, x6, x7, x8, x9, x10, x11, x12, x13, x14] M = .nx [some u, some (.r lb), y2, some (.d (fnsD F)), some (.r M3.length), y5, y6, some (.d (iter F (.on [fr0] row) m).d), some (.r (M7.length + 5)), some (.d (stD [fr0] row)), some (.r M8.length), y11, y12, y13, y14] M10 := by
    rw [b_f1]
    refine Eq.trans ?_ v1
    simp only [x_Seq (s := sTup _ _ _), x_Seq (s := sPar _ _ _), x_Seq (s := sFor _ _ _)]
    simp [-x_Seq, -List.append_assoc, -List.length_append, a1, b1, c1, hc1, d1, f1, g1, r7, e5, k1, k2, hM8, hc2, t2]
  exact ⟨_, _, _, _, _, _, _, _, _, _, _, _, _, _, fin, v2⟩
theorem c_law {u : U} {M0 : Sto} {ns : List Int} (hu : slU u none (some 63) M0 = .ok (.r M0.length) (M0 ++ [.lst (intsU ns)])) (hn : ns.length < 1000) : ∃ M', C_law [u] M0 = .ok (.d (.bool true)) M' := by
  obtain ⟨M, a1, a2⟩ := c_bag hu hn
  have key := for_rng (n := 5) (g := .nm 2) (body := b_law_f1)
    (fun k en M' => ∃ x2 x3 x4 x5 x6 x7 x8 x9 x10 x11 x12 x13 x14, en = [some u, some (.r (M0.length + 2)), x2, x3, x4, x5, x6, x7, x8, x9, x10, x11, x12, x13, x14] ∧ BagOk M' (M0.length + 2) (M0.length + 1))
    (fun o => ∃ en M', o = .nx en M')
    (fun i en M' hi hI => by
      obtain ⟨x2, x3, x4, x5, x6, x7, x8, x9, x10, x11, x12, x13, x14, rfl, hb⟩ := hI
      obtain ⟨y2, y3, y4, y5, y6, y7, y8, y9, y10, y11, y12, y13, y14, M2, k1, k2⟩ := c_lap (u := u) hb (some (.d (.int (0 + i)))) x3 x4 x5 x6 x7 x8 x9 x10 x11 x12 x13 x14
      exact ⟨_, rfl, .inl ⟨_, M2, .inl k1, _, _, _, _, _, _, _, _, _, _, _, _, _, rfl, k2⟩⟩)
    (fun en M' hI => ⟨en, M', rfl⟩) 5 0 [some u, some (.r (M0.length + 2)), none, none, none, none, none, none, none, none, none, none, none, none, none] M (by omega) (by omega) ⟨none, none, none, none, none, none, none, none, none, none, none, none, none, rfl, a2⟩
  obtain ⟨en, M', k⟩ := key
  refine ⟨M', ?_⟩
  simp only [C_law, b_law, runC, x_Seq (s := sAs _ _), x_Seq (s := sFor _ _ _)]
  simp [-x_Seq, a1, k]
end RSK

end
section
set_option Elab.async false
set_option linter.all false
set_option autoImplicit false
set_option maxRecDepth 100000
set_option maxHeartbeats 4000000
/-! K06U: what the head tells; Trap.__init__. -/
namespace RSK
open PySem PySem.Spec PyProof.Rows L2 RS
/-! ### a Hook that tells one function with a closure too -/
abbrev FnS : Type := Option (Str × Str × Arguments × FuncBody × Scope × Addr × List Str × Value × Addr)
def fnS (K : PySem.W.Frag) (p : He.Defn) : FnS := match K.lookup (He.fAd K p) with
  | some ⟨_, _, .func fd, _⟩ => some (fd.name, fd.qualname, fd.params, fd.body, fd.scope, fd.globals, fd.closure.map (·.1), fd.defaults, fd.builtins)
  | _ => none
def asS (g : Addr → Option Obj) (n : Nat) : List Addr := cStatics :: (((He.asD g n).flatMap fun a => match g a with
  | some ⟨_, _, .func fd, _⟩ => fd.closure.map (·.2)
  | _ => []) ++ He.asD g n)
abbrev AlS : Type := He.AlT × Bool × FnS
section
variable (n : Nat) (fa : List He.Fa) (fn : List He.DefD) (ts : List He.Tab) (pl tp : He.Defn) (v : FnS) (ex : PySem.W.Frag → Bool)
def tabS (g : Addr → Option Obj) (K : PySem.W.Frag) : Bool := PySem.W.codeHdIn K (He.cT K pl).1 (He.cT K pl).2 && (match g (He.cT K pl).2 with
  | some o => He.emptyTab o
  | none => false)
def obsK (g : Addr → Option Obj) (K : PySem.W.Frag) : AlS := (He.obsT fa fn ts K, ex K && tabS pl g K, fnS K tp)
def obsS (g : Addr → Option Obj) : AlS := obsK fa fn ts pl tp ex g (He.frT g (asS g n))
structure SaysS (w : World) (h : Heap) (K : PySem.W.Frag) : Prop where
  t : He.SaysT fa fn ts w K
  more : ex K = true
  fs : fnS K tp = v
  hd : PySem.W.codeHdIn K (He.cT K pl).1 (He.cT K pl).2 = true
  out : K.lookup (He.cT K pl).2 = none
  empty : h.get? (He.cT K pl).2 = some { cls := .none, data := .fields #[] }
theorem saysS_of {w : World} {h : Heap} {K : PySem.W.Frag} (hK : K = He.frT h.get? (asS h.get? n)) (z : obsK fa fn ts pl tp ex h.get? K = (He.valT fn ts w, true, v)) : SaysS fa fn ts pl tp v ex w h K := by
  have z1 : He.obsT fa fn ts K = He.valT fn ts w := congrArg (fun q : AlS => q.1) z
  have z2 : (ex K && tabS pl h.get? K) = true := congrArg (fun q : AlS => q.2.1) z
  have z3 : fnS K tp = v := congrArg (fun q : AlS => q.2.2) z
  rw [Bool.and_eq_true] at z2
  obtain ⟨z4, z5⟩ := z2
  unfold tabS at z5
  rw [Bool.and_eq_true] at z5
  obtain ⟨z6, z7⟩ := z5
  cases q : h.get? (He.cT K pl).2 with
  | none => rw [q] at z7; cases z7
  | some o =>
    rw [q] at z7
    refine ⟨z1, z4, z3, z6, ?_, by rw [q, He.emptyTab_eq z7]⟩
    have := He.frT_none (as := asS h.get? n) q z7
    rw [← hK] at this
    exact this
def hookS : PySem.W.Hook where
  α := AlS
  obs := fun s => obsS n fa fn ts pl tp ex s.heap.get?
  val := fun w => (He.valT fn ts w, true, v)
  says := fun w h => ∃ K : PySem.W.Frag, K.In h ∧ SaysS fa fn ts pl tp v ex w h K
  of := fun _ _ z => ⟨_, He.frT_in, saysS_of n fa fn ts pl tp v ex rfl z⟩
  keeps := fun _ _ _ ⟨K, hK, c⟩ k => ⟨K, PySem.W.Frag.In.keeps hK k, c.t, c.more, c.fs, c.hd, c.out, k _ _ c.empty⟩
end
/-! ### what is asked of Trap -/
def ccA (K : PySem.W.Frag) (p : He.Defn) : Addr := match K.lookup (He.fAd K p) with
  | some ⟨_, _, .func fd, _⟩ => (match fd.closure with
    | (_, c) :: _ => c
    | _ => 0)
  | _ => 0
def supCd (K : PySem.W.Frag) (p : He.Defn) (q : Str) : Bool := match K.lookup (He.fAd K p) with
  | some ⟨_, _, .func fd, _⟩ => PySem.W.codeIn K fd.code q && (match fd.code with
    | .ref _ => true
    | _ => false)
  | _ => false
def supFile (K : PySem.W.Frag) (a : Addr) (file : Str) : Bool := match K.lookup a with
  | some ⟨_, _, .fields vs, _⟩ => (match (vs[2]? : Option Value) with
    | some (.str f _) => file == f
    | _ => false)
  | _ => false
def supCell (K : PySem.W.Frag) (a D : Addr) : Bool := match K.lookup a with
  | some ⟨_, _, .cell (some (.ref D')), _⟩ => D' == D
  | _ => false
def supAlong (K : PySem.W.Frag) (C : Addr) : Bool := match PySem.W.clsIn K C with
  | some cd => decide (PySem.W.alongIn K "__init__" ((cd.mro.dropWhile (· != .ref C)).drop 1) = some (some (.builtin "ValueError.__init__")))
  | none => false
def oexB (K : PySem.W.Frag) (C : Addr) : Bool := match K.lookup C with
  | some ⟨.type "type", _, .cls cd, sl⟩ => (match cd.mro, sl.toList with
    | .ref C' :: bm, [_, _, _, _, some (.builtin n), _] => C' == C && (n == "ValueError.__new__" && (!cd.hasDel && (PySem.HandSPX.refsVE bm && cd.hasDict)))
    | _, _ => false)
  | _ => false
theorem and2 {a b : Bool} (h : (a && b) = true) : a = true ∧ b = true := Bool.and_eq_true_iff.mp h
theorem oexB_ok {K : PySem.W.Frag} {C : Addr} (h : oexB K C = true) : ∃ nm q N bs bm sn sub ab col dd k0 k1 k2 k3 k5, K.lookup C = some (excClassObj nm q C N bs bm true sn sub ab col dd k0 k1 k2 k3 k5 "ValueError.__new__") ∧ PySem.HandSPX.refsVE bm = true := by
  unfold oexB at h
  split at h
  · rename_i dd cd sl ho
    split at h
    · rename_i C' bm k0 k1 k2 k3 m k5 hm hs
      obtain ⟨h1, h⟩ := and2 h
      obtain ⟨h2, h⟩ := and2 h
      obtain ⟨h3, h⟩ := and2 h
      obtain ⟨h4, h5⟩ := and2 h
      obtain rfl := eq_of_beq h1
      obtain rfl := eq_of_beq h2
      obtain ⟨nm, bs, mro, ns, qn, hd, sn, sub, ab, col, del⟩ := cd
      obtain rfl : mro = _ := hm
      obtain rfl : hd = true := h5
      have h3 : del = false := by
        cases del with
        | false => rfl
        | true => cases h3
      subst h3
      have hsl : sl = #[k0, k1, k2, k3, some (.builtin "ValueError.__new__"), k5] := by
        obtain ⟨l⟩ := sl
        have hs : l = _ := hs
        rw [hs]
      rw [hsl] at ho
      exact ⟨nm, qn, ns, bs, bm, sn, sub, ab, col, dd, k0, k1, k2, k3, k5, ho, h4⟩
    · cases h
  · cases h
end RSK

end
section
set_option Elab.async false
set_option linter.all false
set_option autoImplicit false
set_option maxRecDepth 100000
set_option maxHeartbeats 4000000
/-! K06V: Trap.__init__. -/
namespace RSK
open PySem PySem.Spec PyProof.Rows L2 RS
def tp : He.Defn := ("Trap", some "__init__")
def sInit : Stmt := match top 3 with
  | .ClassDef _ _ _ (s :: _) _ _ _ _ _ _ _ => s
  | s => s
def vS : FnS := some ("__init__", "Trap.__init__", defArgs sInit, .stmts (defBody sInit), defScope sInit, mainGlobals, ["__class__"], .none, builtinsNs)
theorem sc_init : SupScope ["self", "number", "at"] ["self", "number", "at"] (defScope sInit) := ⟨rfl, rfl, rfl, by decide +kernel, rfl, by decide +kernel, by decide +kernel, by decide +kernel⟩
theorem trap_fn {K : PySem.W.Frag} (z : fnS K tp = vS) (hc : supCd K tp "Trap.__init__" = true) :
    ∃ oc od kV doc pm an cda ct osl, K.lookup (He.fAd K tp) = some ⟨oc, od, .func (PySem.W.ksFn "__init__" "Trap.__init__" (defArgs sInit) (defBody sInit) (defScope sInit) .none kV doc pm an (.ref cda) ct (ccA K tp)), osl⟩ ∧ PySem.W.codeIn K (.ref cda) "Trap.__init__" = true ∧ He.codeOf K tp = cda := by
  unfold fnS vS at z
  unfold supCd at hc
  unfold ccA He.codeOf
  cases q : K.lookup (He.fAd K tp) with
  | none => rw [q] at z; cases z
  | some o =>
    obtain ⟨oc, od, dt, osl⟩ := o
    rw [q] at z hc
    cases dt with
    | func fd =>
      obtain ⟨n1, n2, n3, n4, n5, n6, n7, n8, n9, n10, n11, n12, n13, n14, n15⟩ := fd
      simp only [Option.some.injEq, Prod.mk.injEq] at z
      obtain ⟨h1, h2, h3, h4, h5, h6, h7, h8, h9⟩ := z
      subst h1 h2 h3 h4 h5 h6 h8 h9
      obtain ⟨k1, k2⟩ := and2 hc
      cases n13 with
      | ref cda =>
        cases n7 with
        | nil => cases h7
        | cons y r =>
          obtain ⟨y1, y2⟩ := y
          simp only [List.map_cons, List.cons.injEq] at h7
          obtain ⟨h7, h8⟩ := h7
          cases r with
          | cons _ _ => cases h8
          | nil =>
            subst h7
            exact ⟨oc, od, n9, n10, n11, n12, cda, n14, osl, rfl, k1, rfl⟩
      | _ => cases k2
    | _ => cases z
theorem upd_last {H : Hp} {a d : Addr} {x y z : HO} (n : d ≠ a) : upd (upd (upd H d x) a y) d z = upd (upd H d z) a y := by
  funext b
  unfold upd
  by_cases h1 : b = d
  · rw [if_pos h1, if_neg (by rw [h1]; exact n), if_pos h1]
  · rw [if_neg h1]
    by_cases h2 : b = a
    · rw [if_pos h2, if_pos h2]
    · rw [if_neg h2, if_neg h2, if_neg h1, if_neg h1]
def exT (P : Program) (K : PySem.W.Frag) : Bool :=
  let C := He.ga K "Trap"
  supCd K tp "Trap.__init__" && (supFile K (He.codeOf K tp) P.main.file && (supCell K (ccA K tp) C && (supAlong K C && (decide (PySem.W.mroIn K C (.ref C) = some true) && (decide (PySem.W.nsIn K cStatics "thirdparty.any" = some none) && (decide (PySem.W.subIn K (.ref C) (.type "ValueError") = some true) &&
  (decide (PySem.W.findIn K (.ref C) "__init__" = some (some (.ref (He.fAd K tp)))) && (decide (PySem.W.typeIn K (.ref (He.fAd K tp)) = some (.type "function")) && (oexB K C && (decide (PySem.W.findIn K (.ref C) "__setattr__" = some (some (.builtin "object.__setattr__"))) &&
  (decide (PySem.W.subIn K (.ref C) (.type "BaseException") = some true) && (decide (PySem.W.typeIn K (.ref C) = some (.type "type")) && (PySem.W.keepIn K (.ref C) && (xfB K C && (decide (PySem.W.findIn K (.ref C) "number" = some none) && (decide (PySem.W.findIn K (.ref C) "at" = some none) &&
  (tabB K (He.ga K "STEPS") [("move", 0), ("step", 1), ("back", -1)] && He.tupB K "CELLS" [.str "swap", .str "atmost", .str "below"])))))))))))))))))
structure ExT (P : Program) (K : PySem.W.Frag) : Prop where
  cd : supCd K tp "Trap.__init__" = true
  file : supFile K (He.codeOf K tp) P.main.file = true
  cell : supCell K (ccA K tp) (He.ga K "Trap") = true
  along : supAlong K (He.ga K "Trap") = true
  mro : PySem.W.mroIn K (He.ga K "Trap") (.ref (He.ga K "Trap")) = some true
  st : PySem.W.nsIn K cStatics "thirdparty.any" = some none
  ve : PySem.W.subIn K (.ref (He.ga K "Trap")) (.type "ValueError") = some true
  fi : PySem.W.findIn K (.ref (He.ga K "Trap")) "__init__" = some (some (.ref (He.fAd K tp)))
  tf : PySem.W.typeIn K (.ref (He.fAd K tp)) = some (.type "function")
  T : OexC K (He.ga K "Trap")
  X : XfC K (He.ga K "Trap")
  n1 : PySem.W.findIn K (.ref (He.ga K "Trap")) "number" = some none
  n2 : PySem.W.findIn K (.ref (He.ga K "Trap")) "at" = some none
  steps : tabB K (He.ga K "STEPS") [("move", 0), ("step", 1), ("back", -1)] = true
  cells : He.tupB K "CELLS" [.str "swap", .str "atmost", .str "below"] = true
theorem exT_ok {P : Program} {K : PySem.W.Frag} (h : exT P K = true) : ExT P K := by
  unfold exT at h
  obtain ⟨a1, h⟩ := and2 h
  obtain ⟨a2, h⟩ := and2 h
  obtain ⟨a3, h⟩ := and2 h
  obtain ⟨a4, h⟩ := and2 h
  obtain ⟨a5, h⟩ := and2 h
  obtain ⟨a6, h⟩ := and2 h
  obtain ⟨a7, h⟩ := and2 h
  obtain ⟨a8, h⟩ := and2 h
  obtain ⟨a9, h⟩ := and2 h
  obtain ⟨b1, h⟩ := and2 h
  obtain ⟨b2, h⟩ := and2 h
  obtain ⟨b3, h⟩ := and2 h
  obtain ⟨b4, h⟩ := and2 h
  obtain ⟨b5, h⟩ := and2 h
  obtain ⟨b6, h⟩ := and2 h
  obtain ⟨b7, h⟩ := and2 h
  obtain ⟨b8, h⟩ := and2 h
  obtain ⟨b9, h⟩ := and2 h
  exact ⟨a1, a2, a3, a4, of_decide_eq_true a5, of_decide_eq_true a6, of_decide_eq_true a7, of_decide_eq_true a8, of_decide_eq_true a9,
    ⟨oexB_ok b1, of_decide_eq_true b2, of_decide_eq_true b3, of_decide_eq_true b4, b5⟩, xfB_ok b6, of_decide_eq_true b7, of_decide_eq_true b8, b9, h⟩
end RSK

end
section
set_option Elab.async false
set_option linter.all false
set_option autoImplicit false
set_option maxRecDepth 100000
set_option maxHeartbeats 4000000
/-! K06W: Trap.__init__ keeps its promise. -/
namespace RSK
open PySem PySem.Spec PyProof.Rows L2 RS
variable [LT] {P : Program} {w : World} {K : PySem.W.Frag} {mg : Str → Option Value} {base : Heap}
theorem supFile_ok {a : Addr} {file : Str} (h : supFile K a file = true) : ∃ ccl cdd vs ccs f tf, K.lookup a = some ⟨ccl, cdd, .fields vs, ccs⟩ ∧ vs[2]? = some (.str f tf) ∧ (file == f) = true := by
  unfold supFile at h
  split at h
  · rename_i ho
    split at h
    · rename_i hv
      exact ⟨_, _, _, _, _, _, ho, hv, h⟩
    · cases h
  · cases h
theorem supCell_ok {a D : Addr} (h : supCell K a D = true) : ∃ cl cld csl, K.lookup a = some ⟨cl, cld, .cell (some (.ref D)), csl⟩ := by
  unfold supCell at h
  split at h
  · rename_i ho
    obtain rfl := eq_of_beq h
    exact ⟨_, _, _, ho⟩
  · cases h
theorem supAlong_ok {C : Addr} (h : supAlong K C = true) : ∃ cd, PySem.W.clsIn K C = some cd ∧ PySem.W.alongIn K "__init__" ((cd.mro.dropWhile (· != .ref C)).drop 1) = some (some (.builtin "ValueError.__init__")) := by
  unfold supAlong at h
  split at h
  · rename_i ho
    exact ⟨_, ho, of_decide_eq_true h⟩
  · cases h
theorem ar_init : ∃ ar : Arg, ((defArgs sInit).posonlyargs ++ (defArgs sInit).args).head? = some ar ∧ ar.arg = "self" := ⟨_, rfl, rfl⟩
def oInit : PySem.Expr := match defBody sInit with
  | .Expr (.Call (.Attribute o _ _) _ _ _) _ :: _ => o
  | _ => .Name "x" ⟨0, 0, 0, 0⟩
theorem ok_init (X : ExT P K) (z : fnS K tp = vS) (hmg : mg "super" = none) (htop : (P.main.scope.names.lookup ("super" : Str)).isSome = false) :
    ∃ fd, FnOk P w K mg base (L2.CX P w) 1 (He.fAd K tp) fd ["self", "number", "at"] (spI (He.ga K "Trap") ["number", "at"]) ∧ Binds K fd ["self", "number", "at"] [] := by
  obtain ⟨oc, od, kV, doc, pm, an, cda, ct, osl, lk, hcd, hca⟩ := trap_fn z X.cd
  have hfile := X.file
  rw [hca] at hfile
  obtain ⟨ar, har, hself⟩ := ar_init
  refine ⟨PySem.W.ksFn "__init__" "Trap.__init__" (defArgs sInit) (defBody sInit) (defScope sInit) .none kV doc pm an (.ref cda) ct (ccA K tp), ?_, ?_⟩
  · have hS : SupOk P K mg (He.fAd K tp) (He.ga K "Trap") (ccA K tp) cda (He.ga K "Trap") (PySem.W.ksFn "__init__" "Trap.__init__" (defArgs sInit) (defBody sInit) (defScope sInit) .none kV doc pm an (.ref cda) ct (ccA K tp)) ar (defScope sInit) := by
      obtain ⟨cd, c1, c2⟩ := supAlong_ok X.along
      exact ⟨⟨_, _, _, lk⟩, har, supFile_ok hfile, supCell_ok X.cell, ⟨cd, c1⟩, ⟨cd, c1, c2⟩, X.mro, hmg, X.st, X.ve, rfl, rfl, by rw [hself]; rfl, htop⟩
    refine fn_sup (k := 0) lk hcd sc_init hS (by rw [hself]; rfl) X.T (fun vs H Q E h => ?_) (plainOf oInit) (ta := tCons (tVar 1) (tCons (tVar 2) tNil)) (hev := ?_) (hbody := fun A outer s H vs Q E hr h => ?_)
    · obtain ⟨a, ws, rfl, h1, _⟩ := h
      simp [h1]
    · intro env
      first
        | rfl
        | (refine Eq.trans ?_ (mcall_line rfl rfl)
           rfl)
    · obtain ⟨a, ws, rfl, h1, h2, h3⟩ := h
      match ws, h1 with
      | [v1, v2], _ =>
        refine ⟨pa_cons (pv 1) (pa_cons (pv 2) pa_nil), ?_, ⟨a, rfl, h2⟩, tSeq (tOst K "number" (tVar 0) (tVar 1)) (tOst K "at" (tVar 0) (tVar 2)), pss_cons (ps_ost (pv 0) (pv 1)) (pss_one (ps_ost (pv 0) (pv 2))), ?_⟩
        · exact ⟨_, rfl, _, rfl, rfl, by simp⟩
        · refine ⟨_, rfl, _, rfl, a, He.ga K "Trap", rfl, X.T, X.n1, .inl ⟨h2, fun d hd hn => ?_⟩⟩
          refine ⟨_, rfl, _, rfl, a, He.ga K "Trap", rfl, X.T, X.n2, .inr ⟨d, [("number", v1)], ?_, ?_, ?_, ?_⟩⟩
          · unfold upd; rw [if_pos rfl]
          · unfold upd; rw [if_neg hn, if_pos rfl]
          · simp
          · show Q .non _
            rw [upd_last hn]
            exact h3 d hd hn
  · exact .all fun us hl => match us, hl with | [_, _, _], _ => rfl
end RSK

end
section
set_option Elab.async false
set_option linter.all false
set_option autoImplicit false
set_option maxRecDepth 100000
set_option maxHeartbeats 4000000
/-! K06X: the law from the head's facts (the chain printed by genx.py). -/
namespace RSK
open PySem PySem.Spec PyProof.Rows L2 RS
def dd (x : Str) (i : Nat) : He.DefD := ⟨(x, none), x, x, defArgs (top i), defBody (top i), defScope (top i), [], []⟩
def fnL : List He.DefD := [dd "entered" 8, dd "begin" 9, dd "is_ended" 10, dd "end_of" 11, dd "instruction_at" 12, dd "word_at" 13, dd "swapped" 14, dd "with_frame" 15, dd "with_register" 16, dd "is_test_so" 17, dd "called" 18, dd "left" 19, dd "step" 20, dd "is_within" 21, dd "checked_step" 22, dd "run" 23, dd "checked_run" 24, dd "_law_bag" 26, dd "_law_take" 27, dd "_law_some" 28, dd "_law_drawn_row" 29, dd "_law_is_nothing" 30, dd "_law_instruction" 31, dd "_law_code" 32, dd "_law_word" 33, dd "_law_entered" 34, dd "_law_do" 35, dd "_law_is_let" 36, dd "_law_stand" 37, dd "_law_trap" 38, dd "law" 39]
def faL : List He.Fa := [.glo "entered", .glo "begin", .glo "is_ended", .glo "end_of", .glo "instruction_at", .glo "word_at", .glo "swapped", .glo "with_frame", .glo "with_register", .glo "is_test_so", .glo "called", .glo "left", .glo "step", .glo "is_within", .glo "checked_step", .glo "run", .glo "checked_run", .glo "_law_bag", .glo "_law_take", .glo "_law_some", .glo "_law_drawn_row", .glo "_law_is_nothing", .glo "_law_instruction", .glo "_law_code", .glo "_law_word", .glo "_law_entered", .glo "_law_do", .glo "_law_is_let", .glo "_law_stand", .glo "_law_trap", .glo "law", .glo "Trap", .glo "Nothing", .glo "STEPS", .glo "CELLS", .free "len", .free "tuple", .free "list", .free "all", .free "range", .free "abs", .free "int", .free "min", .free "max", .free "sorted", .free "super", .exc "Nothing", .exm "Nothing" "Nothing" true, .exm "Nothing" "Trap" false, .exm "Trap" "Trap" true]
def tsL : List He.Tab := [(fun K => He.ga K "STEPS", ["move", "step", "back"])]
def plL : He.Defn := ("law", none)
abbrev lawL : PySem.W.OpenLaw := PySem.Challenge.rw_rowsort_k06_whole_single_instructions
theorem asDs0 (l : List Int) : intsU l = (l.map PyData.int).map U.d := by simp [intsU]
theorem cut63 {l : List Int} : ∃ m : List Int, cutL (intsU l) none (some 63) = intsU m ∧ m.length ≤ l.length := by
  refine ⟨cutL l none (some 63), ?_, ?_⟩
  · exact @cutL_map ⟨[]⟩ _ _ _ _ _ _
  · unfold cutL
    rw [List.length_take, List.length_drop]
    omega
theorem rep_ints {K : PySem.W.Frag} {H : Hp} {ρ : List Addr} : ∀ l : List Int, RepUs K H ρ (l.map V.int) (intsU l)
  | [] => .nil
  | x :: l => .cons rfl (rep_ints l)
theorem repD_ints {K : PySem.W.Frag} {H : Hp} : ∀ l : List Int, RepDs K H (l.map PyData.int) (l.map V.int)
  | [] => rfl
  | x :: l => ⟨_, _, rfl, rfl, repD_ints l⟩
theorem sp_law [LT] {K : PySem.W.Frag} {H : Hp} {a : Addr} {ns : List Int} (hT : LamX.Tabs LT.T H) (hl : ns.length ≤ 63) (hS : SqL K H a (ns.map V.int)) : spF K 1 C_law [.ref a] H (fun v _ => v = .bl true) (fun _ _ _ => False) := by
  obtain ⟨m, hm, hml⟩ := cut63 (l := ns)
  have cl : (H a = some (.lst (ns.map V.int))) ∨ SqF K H a (ns.map V.int) := by
    rcases hS with (h | ⟨o, h⟩) | h
    · exact .inl h
    · exact .inr (.inl ⟨o, h⟩)
    · exact .inr (.inr fun H' => .inr h)
  rcases cl with h | h
  · have hu : slU (.r 0) none (some 63) [Ob.lst (intsU ns)] = .ok (.r [Ob.lst (intsU ns)].length) ([Ob.lst (intsU ns)] ++ [Ob.lst (intsU m)]) := by
      show R.ok _ _ = _
      rw [hm]
    obtain ⟨M', k⟩ := c_law hu (by omega)
    refine ⟨rfl, [a], [Ob.lst (intsU ns)], [.r 0], .cons ⟨a, rfl, rfl⟩ .nil, ⟨rfl, by simp, hT, fun l b o h1 h2 => ?_⟩, ?_⟩
    · cases l with
      | zero =>
        cases h1
        cases h2
        exact ⟨_, h, rep_ints ns⟩
      | succ l => cases h1
    · rw [k]
      exact fun b H' ρ' _ _ q => q
  · have hu : slU (.fz (ns.map .int)) none (some 63) [] = .ok (.r ([] : Sto).length) (([] : Sto) ++ [Ob.lst (intsU m)]) := by
      show R.ok _ _ = _
      rw [← asDs0, hm]
    obtain ⟨M', k⟩ := c_law hu (by omega)
    refine ⟨rfl, [], [], [.fz (ns.map .int)], .cons ⟨a, _, rfl, repD_ints ns, h⟩ .nil, Rel.nil hT, ?_⟩
    rw [k]
    exact fun b H' ρ' _ _ q => q
theorem facts {w : World} {K : PySem.W.Frag} {h : Heap} {mg : Str → Option Value} {f : Addr} (X : K.In h) (G : h.Ns mainGlobals mg) (hfa : mg ("law" : Str) = some (.ref f)) (c : SaysS faL fnL tsL plL tp vS (exT lawL.prog) w h K) :
    LamX.LawAtS lawL w K (L2.CX lawL.prog w) 7 63 "script" mg f h := by
  obtain ⟨fd_entered, F_entered⟩ := c.t.d.def_ 0 (d := dd "entered" 8) rfl
  obtain ⟨fd_begin, F_begin⟩ := c.t.d.def_ 1 (d := dd "begin" 9) rfl
  obtain ⟨fd_is_ended, F_is_ended⟩ := c.t.d.def_ 2 (d := dd "is_ended" 10) rfl
  obtain ⟨fd_end_of, F_end_of⟩ := c.t.d.def_ 3 (d := dd "end_of" 11) rfl
  obtain ⟨fd_instruction_at, F_instruction_at⟩ := c.t.d.def_ 4 (d := dd "instruction_at" 12) rfl
  obtain ⟨fd_word_at, F_word_at⟩ := c.t.d.def_ 5 (d := dd "word_at" 13) rfl
  obtain ⟨fd_swapped, F_swapped⟩ := c.t.d.def_ 6 (d := dd "swapped" 14) rfl
  obtain ⟨fd_with_frame, F_with_frame⟩ := c.t.d.def_ 7 (d := dd "with_frame" 15) rfl
  obtain ⟨fd_with_register, F_with_register⟩ := c.t.d.def_ 8 (d := dd "with_register" 16) rfl
  obtain ⟨fd_is_test_so, F_is_test_so⟩ := c.t.d.def_ 9 (d := dd "is_test_so" 17) rfl
  obtain ⟨fd_called, F_called⟩ := c.t.d.def_ 10 (d := dd "called" 18) rfl
  obtain ⟨fd_left, F_left⟩ := c.t.d.def_ 11 (d := dd "left" 19) rfl
  obtain ⟨fd_step, F_step⟩ := c.t.d.def_ 12 (d := dd "step" 20) rfl
  obtain ⟨fd_is_within, F_is_within⟩ := c.t.d.def_ 13 (d := dd "is_within" 21) rfl
  obtain ⟨fd_checked_step, F_checked_step⟩ := c.t.d.def_ 14 (d := dd "checked_step" 22) rfl
  obtain ⟨fd_run, F_run⟩ := c.t.d.def_ 15 (d := dd "run" 23) rfl
  obtain ⟨fd_checked_run, F_checked_run⟩ := c.t.d.def_ 16 (d := dd "checked_run" 24) rfl
  obtain ⟨fd__law_bag, F__law_bag⟩ := c.t.d.def_ 17 (d := dd "_law_bag" 26) rfl
  obtain ⟨fd__law_take, F__law_take⟩ := c.t.d.def_ 18 (d := dd "_law_take" 27) rfl
  obtain ⟨fd__law_some, F__law_some⟩ := c.t.d.def_ 19 (d := dd "_law_some" 28) rfl
  obtain ⟨fd__law_drawn_row, F__law_drawn_row⟩ := c.t.d.def_ 20 (d := dd "_law_drawn_row" 29) rfl
  obtain ⟨fd__law_is_nothing, F__law_is_nothing⟩ := c.t.d.def_ 21 (d := dd "_law_is_nothing" 30) rfl
  obtain ⟨fd__law_instruction, F__law_instruction⟩ := c.t.d.def_ 22 (d := dd "_law_instruction" 31) rfl
  obtain ⟨fd__law_code, F__law_code⟩ := c.t.d.def_ 23 (d := dd "_law_code" 32) rfl
  obtain ⟨fd__law_word, F__law_word⟩ := c.t.d.def_ 24 (d := dd "_law_word" 33) rfl
  obtain ⟨fd__law_entered, F__law_entered⟩ := c.t.d.def_ 25 (d := dd "_law_entered" 34) rfl
  obtain ⟨fd__law_do, F__law_do⟩ := c.t.d.def_ 26 (d := dd "_law_do" 35) rfl
  obtain ⟨fd__law_is_let, F__law_is_let⟩ := c.t.d.def_ 27 (d := dd "_law_is_let" 36) rfl
  obtain ⟨fd__law_stand, F__law_stand⟩ := c.t.d.def_ 28 (d := dd "_law_stand" 37) rfl
  obtain ⟨fd__law_trap, F__law_trap⟩ := c.t.d.def_ 29 (d := dd "_law_trap" 38) rfl
  obtain ⟨fd_law, F_law⟩ := c.t.d.def_ 30 (d := dd "law" 39) rfl
  have g_entered := He.glo_ok X G (c.t.d.fact 0 (f := .glo "entered") rfl)
  have g_begin := He.glo_ok X G (c.t.d.fact 1 (f := .glo "begin") rfl)
  have g_is_ended := He.glo_ok X G (c.t.d.fact 2 (f := .glo "is_ended") rfl)
  have g_end_of := He.glo_ok X G (c.t.d.fact 3 (f := .glo "end_of") rfl)
  have g_instruction_at := He.glo_ok X G (c.t.d.fact 4 (f := .glo "instruction_at") rfl)
  have g_word_at := He.glo_ok X G (c.t.d.fact 5 (f := .glo "word_at") rfl)
  have g_swapped := He.glo_ok X G (c.t.d.fact 6 (f := .glo "swapped") rfl)
  have g_with_frame := He.glo_ok X G (c.t.d.fact 7 (f := .glo "with_frame") rfl)
  have g_with_register := He.glo_ok X G (c.t.d.fact 8 (f := .glo "with_register") rfl)
  have g_is_test_so := He.glo_ok X G (c.t.d.fact 9 (f := .glo "is_test_so") rfl)
  have g_called := He.glo_ok X G (c.t.d.fact 10 (f := .glo "called") rfl)
  have g_left := He.glo_ok X G (c.t.d.fact 11 (f := .glo "left") rfl)
  have g_step := He.glo_ok X G (c.t.d.fact 12 (f := .glo "step") rfl)
  have g_is_within := He.glo_ok X G (c.t.d.fact 13 (f := .glo "is_within") rfl)
  have g_checked_step := He.glo_ok X G (c.t.d.fact 14 (f := .glo "checked_step") rfl)
  have g_run := He.glo_ok X G (c.t.d.fact 15 (f := .glo "run") rfl)
  have g_checked_run := He.glo_ok X G (c.t.d.fact 16 (f := .glo "checked_run") rfl)
  have g__law_bag := He.glo_ok X G (c.t.d.fact 17 (f := .glo "_law_bag") rfl)
  have g__law_take := He.glo_ok X G (c.t.d.fact 18 (f := .glo "_law_take") rfl)
  have g__law_some := He.glo_ok X G (c.t.d.fact 19 (f := .glo "_law_some") rfl)
  have g__law_drawn_row := He.glo_ok X G (c.t.d.fact 20 (f := .glo "_law_drawn_row") rfl)
  have g__law_is_nothing := He.glo_ok X G (c.t.d.fact 21 (f := .glo "_law_is_nothing") rfl)
  have g__law_instruction := He.glo_ok X G (c.t.d.fact 22 (f := .glo "_law_instruction") rfl)
  have g__law_code := He.glo_ok X G (c.t.d.fact 23 (f := .glo "_law_code") rfl)
  have g__law_word := He.glo_ok X G (c.t.d.fact 24 (f := .glo "_law_word") rfl)
  have g__law_entered := He.glo_ok X G (c.t.d.fact 25 (f := .glo "_law_entered") rfl)
  have g__law_do := He.glo_ok X G (c.t.d.fact 26 (f := .glo "_law_do") rfl)
  have g__law_is_let := He.glo_ok X G (c.t.d.fact 27 (f := .glo "_law_is_let") rfl)
  have g__law_stand := He.glo_ok X G (c.t.d.fact 28 (f := .glo "_law_stand") rfl)
  have g__law_trap := He.glo_ok X G (c.t.d.fact 29 (f := .glo "_law_trap") rfl)
  have g_law := He.glo_ok X G (c.t.d.fact 30 (f := .glo "law") rfl)
  have g_Trap := He.glo_ok X G (c.t.d.fact 31 (f := .glo "Trap") rfl)
  have g_Nothing := He.glo_ok X G (c.t.d.fact 32 (f := .glo "Nothing") rfl)
  have g_STEPS := He.glo_ok X G (c.t.d.fact 33 (f := .glo "STEPS") rfl)
  have g_CELLS := He.glo_ok X G (c.t.d.fact 34 (f := .glo "CELLS") rfl)
  have fr : Fr mg := ⟨He.free_ok X G (c.t.d.fact 35 (f := .free "len") rfl), He.free_ok X G (c.t.d.fact 36 (f := .free "tuple") rfl), He.free_ok X G (c.t.d.fact 37 (f := .free "list") rfl), He.free_ok X G (c.t.d.fact 38 (f := .free "all") rfl), He.free_ok X G (c.t.d.fact 39 (f := .free "range") rfl), He.free_ok X G (c.t.d.fact 40 (f := .free "abs") rfl), He.free_ok X G (c.t.d.fact 41 (f := .free "int") rfl), He.free_ok X G (c.t.d.fact 42 (f := .free "min") rfl), He.free_ok X G (c.t.d.fact 43 (f := .free "max") rfl), He.free_ok X G (c.t.d.fact 44 (f := .free "sorted") rfl)⟩
  have gsup : mg "super" = none := He.free_ok X G (c.t.d.fact 45 (f := .free "super") rfl)
  have e0 := He.exc_ok (c.t.d.fact 46 (f := .exc "Nothing") rfl)
  have m0 := He.exm_ok (c.t.d.fact 47 (f := .exm "Nothing" "Nothing" true) rfl)
  have m1 := He.exm_ok (c.t.d.fact 48 (f := .exm "Nothing" "Trap" false) rfl)
  have m2 := He.exm_ok (c.t.d.fact 49 (f := .exm "Trap" "Trap" true) rfl)
  letI : RS.LT := ⟨[((He.cT K plL).2, (("law" : Str) ++ ".<locals>.") ++ "<lambda>")]⟩
  have E := exT_ok c.more
  cases hfa.symm.trans g_law
  have x_Nothing : ExcN K mg "Nothing" := ⟨e0.1, g_Nothing, e0.2.1, e0.2.2.1, e0.2.2.2⟩
  have kd_STEPS : KDic K w mg "STEPS" [("move", 0), ("step", 1), ("back", -1)] := by
    obtain ⟨es, n, hd⟩ := c.t.tab 0 (t := (fun K => He.ga K "STEPS", ["move", "step", "back"])) rfl
    exact ⟨_, es, n, g_STEPS, hd, tabK_of E.steps⟩
  have kt_CELLS : KTup K mg "CELLS" [.str "swap", .str "atmost", .str "below"] :=
    ⟨_, _, g_CELLS, fun H => He.tupB_ok E.cells H, fun H => ⟨_, _, rfl, rfl, _, _, rfl, rfl, _, _, rfl, rfl, rfl⟩⟩
  have xmT : Takes1 K (.ref (He.ga K "Trap")) mt_Trap := fun n b z => by
    unfold mt_Trap at z
    split at z
    · rename_i q
      cases z
      rw [q]
      exact m2
    · split at z
      · rename_i q
        cases z
        rw [q]
        exact m1
      · cases z
  have xm : Takes1 K (.ref (He.ga K "Nothing")) mt_Nothing := fun n b z => by
    unfold mt_Nothing at z
    split at z
    · rename_i q
      cases z
      rw [q]
      exact m0
    · cases z
  have c_Trap : CatF K mg "Trap" "number" "at" mt_Trap := ⟨E.X, E.n1, E.n2, g_Trap, xmT, fun d z => by
    unfold mt_Trap at z
    split at z
    · rename_i q
      rw [q]
    · split at z <;> cases z⟩
  obtain ⟨oc, od, dV, kV, doc, pm, an, cdv, ct, osl, efd, elk, ecd, _, _⟩ := F_law.ex
  obtain ⟨cc, hcc⟩ := He.codeIn_ref ecd
  have hco : He.codeOf K plL = cc := He.codeOf_eq elk (by rw [efd]; exact hcc)
  refine ⟨fd_law, [He.cT K plL], spF K 1 C_law, fun p hp => ?_, fun p hp => ?_, fun p hp => ?_, fun s u => ?_, fun H a ns hl _ hT hS => ?_, fun base hK hG hB => ?_⟩
  · rw [List.mem_singleton.mp hp]; exact c.empty
  · rw [List.mem_singleton.mp hp]; exact c.out
  · rw [List.mem_singleton.mp hp]; exact PySem.W.codeHd_of_K X c.hd
  · exact FunD.bindsA (ps := ["script"]) F_law (fun _ _ _ _ _ _ us hl => match us, hl with | [_], _ => rfl) s [u] rfl
  · refine sp_law (fun p hp => ?_) hl hS
    rw [List.mem_singleton.mp hp]
    exact LamX.TabS.nil (hT _ (List.mem_singleton.mpr rfl))
  · have x_Trap : ExcF lawL.prog w K mg base 1 "Trap" ["number", "at"] := by
      obtain ⟨fd, k1, k2⟩ := ok_init (w := w) (base := base) E c.fs gsup (by rfl)
      exact ⟨⟨_, fd, _, k1, E.fi, E.tf, k2⟩, E.T, g_Trap, by decide⟩
    have h_entered := fn_entered (P := lawL.prog) (w := w) (base := base) F_entered g_entered fr
    have h_begin := fn_begin (P := lawL.prog) (w := w) (base := base) F_begin g_begin fr h_entered x_Nothing
    have h_is_ended := fn_is_ended (P := lawL.prog) (w := w) (base := base) F_is_ended g_is_ended
    have h_end_of := fn_end_of (P := lawL.prog) (w := w) (base := base) F_end_of g_end_of h_is_ended x_Nothing
    have h_instruction_at := fn_instruction_at (P := lawL.prog) (w := w) (base := base) F_instruction_at g_instruction_at h_is_ended x_Nothing
    have h_word_at := fn_word_at (P := lawL.prog) (w := w) (base := base) F_word_at g_word_at fr
    have h_swapped := fn_swapped (P := lawL.prog) (w := w) (base := base) F_swapped g_swapped fr
    have h_with_frame := fn_with_frame (P := lawL.prog) (w := w) (base := base) F_with_frame g_with_frame
    have h_with_register := fn_with_register (P := lawL.prog) (w := w) (base := base) F_with_register g_with_register h_with_frame
    have h_is_test_so := fn_is_test_so (P := lawL.prog) (w := w) (base := base) F_is_test_so g_is_test_so h_word_at
    have h_called := fn_called (P := lawL.prog) (w := w) (base := base) F_called g_called fr h_with_register h_entered
    have h_left := fn_left (P := lawL.prog) (w := w) (base := base) F_left g_left fr h_with_frame
    have h_step := fn_step (P := lawL.prog) (w := w) (base := base) F_step g_step h_instruction_at h_with_register h_swapped h_called h_left h_with_frame h_is_test_so kd_STEPS
    have h_is_within := fn_is_within (P := lawL.prog) (w := w) (base := base) F_is_within g_is_within fr h_instruction_at kt_CELLS kd_STEPS
    have h_checked_step := fn_checked_step (P := lawL.prog) (w := w) (base := base) F_checked_step g_checked_step h_is_within h_step x_Trap
    have h_run := fn_run (P := lawL.prog) (w := w) (base := base) F_run g_run fr h_is_ended h_step
    have h_checked_run := fn_checked_run (P := lawL.prog) (w := w) (base := base) F_checked_run g_checked_run fr h_is_ended h_checked_step
    have h__law_bag := fn__law_bag (P := lawL.prog) (w := w) (base := base) F__law_bag g__law_bag fr
    have h__law_take := fn__law_take (P := lawL.prog) (w := w) (base := base) F__law_take g__law_take fr
    have h__law_some := fn__law_some (P := lawL.prog) (w := w) (base := base) F__law_some g__law_some fr h__law_take
    have h__law_drawn_row := fn__law_drawn_row (P := lawL.prog) (w := w) (base := base) F__law_drawn_row g__law_drawn_row fr h__law_take
    have h__law_instruction := fn__law_instruction (P := lawL.prog) (w := w) (base := base) F__law_instruction g__law_instruction h__law_some h__law_take
    have h__law_code := fn__law_code (P := lawL.prog) (w := w) (base := base) F__law_code g__law_code fr h__law_take h__law_instruction h__law_some
    have h__law_word := fn__law_word (P := lawL.prog) (w := w) (base := base) F__law_word g__law_word fr
    have h__law_entered := fn__law_entered (P := lawL.prog) (w := w) (base := base) F__law_entered g__law_entered fr
    have h__law_do := fn__law_do (P := lawL.prog) (w := w) (base := base) F__law_do g__law_do fr h__law_entered h__law_word
    have h__law_is_let := fn__law_is_let (P := lawL.prog) (w := w) (base := base) F__law_is_let g__law_is_let fr
    have h__law_stand := fn__law_stand (P := lawL.prog) (w := w) (base := base) F__law_stand g__law_stand fr
    have h__law_trap := fn__law_trap (P := lawL.prog) (w := w) (base := base) F__law_trap g__law_trap h_checked_step c_Trap
    exact fn_law F_law fr h__law_bag h__law_take h__law_drawn_row h__law_code h__law_entered h_begin h__law_stand h_is_ended h__law_is_let h_is_within h__law_trap h_step h_checked_step h__law_do h_run h_checked_run h_end_of F__law_is_nothing g__law_is_nothing g_Nothing xm (hB _ (List.mem_singleton.mpr rfl))
      (fun cd ⟨_, _, _, z1, z2⟩ => by
        rw [← z2, efd]
        show cdv = .ref (He.codeOf K plL)
        rw [hco]
        exact hcc)
      (List.mem_singleton.mpr rfl) (fun p hp _ => by rw [List.mem_singleton.mp hp])
end RSK

end
section
set_option Elab.async false
set_option linter.all false
set_option maxRecDepth 100000
set_option maxHeartbeats 0
/-! K06Y: the run of the head, the statement. -/
namespace RSK
open PySem PySem.Spec PyProof.Rows L2 RS
abbrev Rw : PySem.W.OpenRow := PySem.W.OpenLaw.row PySem.Challenge.rw_rowsort_k06_whole_single_instructions
abbrev hk : PySem.W.Hook := hookS 5 faL fnL tsL plL tp vS (exT lawL.prog)
def ob (s : PySem.W.SharedT) : AlS := obsS 5 faL fnL tsL plL tp (exT lawL.prog) (HandSHeadRun.getT s)
theorem ob_eq (s : PySem.W.SharedT) : ob s = hk.obs s.abs := by
  unfold ob
  rw [show HandSHeadRun.getT s = s.abs.heap.get? from funext (HandSHeadRun.getT_eq s)]
  rfl
def loose : List Str := (["_wall", "__name__", "RowError", "Trap", "Nothing", "STEPS", "CELLS", "entered"] : List Str) ++ (["begin", "is_ended", "end_of", "instruction_at", "word_at", "swapped", "with_frame", "with_register"] : List Str) ++ (["is_test_so", "called", "left", "step", "is_within", "checked_step", "run", "checked_run"] : List Str) ++ (["_law_bag", "_law_take", "_law_some", "_law_drawn_row", "_law_is_nothing", "_law_instruction", "_law_code", "_law_word"] : List Str) ++ (["_law_entered", "_law_do", "_law_is_let", "_law_stand", "_law_trap"] : List Str)
theorem run (w : World) : HandSHeadRun.RunEq Rw (PySem.W.view Rw.prog [39]) hk ob 2000 loose w := by
  refine PySem.W.byRow2 "special-get-raises" (P := fun w => HandSHeadRun.RunEq Rw (PySem.W.view Rw.prog [39]) hk ob 2000 loose w) (fun w => ?_) (fun w => ?_) w
  · intro os
    kernel_rfl
  · intro os
    kernel_rfl
end RSK
open PySem PySem.W PySem.Calls PyProof.Rows
theorem PySem.Challenge.cw_rowsort_k06_whole_single_instructions_holds : PySem.Challenge.rw_rowsort_k06_whole_single_instructions.Holds := by
  w_on; o_law
  refine HandSHeadRun.head_any (r := OpenLaw.row PySem.Challenge.rw_rowsort_k06_whole_single_instructions) (q := view (OpenLaw.row PySem.Challenge.rw_rowsort_k06_whole_single_instructions).prog [39]) (H := RSK.hk) (ob := RSK.ob) (M := 2000) (loose := RSK.loose) (d := HandSHeadRun.topDef (OpenLaw.row PySem.Challenge.rw_rowsort_k06_whole_single_instructions).prog 39) (kwd := []) RSK.ob_eq
    (by kernel_rfl) (fun s => by kernel_rfl) RSK.run (by kernel_rfl) (by kernel_rfl) (by kernel_rfl) (by rfl) (by first | assumption | decide +kernel) (by decide +kernel) ⟨rfl, rfl, rfl, rfl, rfl, by decide +kernel⟩ ?hw ?hc
  case hw => w_witness2
  case hc =>
    refine LamX.walk_ofTsE (l := PySem.Challenge.rw_rowsort_k06_whole_single_instructions) (n := 63) (k := 7) (x := "script") (CX := fun w => L2.CX (PySem.Challenge.rw_rowsort_k06_whole_single_instructions).prog w) rfl (by decide) (by kernel_rfl) ⟨rfl, by decide, by decide⟩ ?F (fun _ _ _ _ _ z => by
      obtain ⟨_, _, _, _, _, _, _, _, _, _, _, _, z⟩ := z
      exact z)
    intro w mg fa h Y G hmg0
    obtain ⟨K, KX, c⟩ := Y
    have hmg : mg ("law" : PySem.Str) = some (.ref fa) := by
      have z : (HandSHeadRun.topDef (OpenLaw.row PySem.Challenge.rw_rowsort_k06_whole_single_instructions).prog 39).name = ("law" : PySem.Str) := by kernel_rfl
      rw [← z]
      exact hmg0
    exact ⟨K, KX, RSK.facts KX G hmg c⟩

end
