import PyProof.Rows.All
import Wide.All
import OpenK.AllK
import Wide.FinOn
import HandS.ForMost
import HandS.Exc
import HandS.ExcOwn
import HandS.Gcd
import HandS.Flow
import HandS.Style
import HandS.Defaults
import HandS.Words
import HandS.WordsExc
import HandS.DictComp
import HandS.Wide
import HandS.WideBits
import HandS.TupAny
import HandS.IsInst
import HandS.SortInts
import HandS.Conv
import PySem.Challenge.RW_moonmonths_k42_days_of_doubt
set_option Elab.async false
set_option linter.all false
set_option maxRecDepth 100000
/-! DLa: plain data for Python values, plain functions for code, and what it means that a piece of code computes such a function. -/
namespace DL
open PySem PySem.Spec PyProof.Rows L2

/-! ### data -/
inductive D where
  | non | bl (b : Bool) | int (i : Int) | str (s : Str) | adr (a : Addr)
  | scr (l : List Int)
  | tup (l : List D) | lst (l : List D)
  | dct (ks : List Key) (vs : List D)
  | ins (C : Addr) (ns : List Str) (vs : List D)

abbrev Mem := List (List D)
/-- a value: data, or a list that is changed, by its number -/
inductive W where
  | d (x : D) | r (n : Nat)
/-- an exception: its class, its fields -/
structure XV where
  cls : Value
  ns : List Str
  vs : List D
abbrev Slots := List (Option W)
inductive Out (α : Type) where
  | ok (a : α) (M : Mem) | ex (x : XV) (M : Mem)
abbrev Py (α : Type) := Mem → Option (Out α)
inductive Fl where
  | nx (δ : Slots) | rt (w : W) | bk (δ : Slots) | ct (δ : Slots) | xc (x : XV) (δ : Slots)

def ret {α : Type} (a : α) : Py α := fun M => some (.ok a M)
def no {α : Type} : Py α := fun _ => none
def bnd {α β : Type} (f : Py α) (g : α → Py β) : Py β := fun M => match f M with
  | none => none
  | some (.ex x M') => some (.ex x M')
  | some (.ok a M') => g a M'

/-! ### the representation -/
def SqTA (K : PySem.W.Frag) (av : List Addr) (H : Hp) (a : Addr) (xs : List V) : Prop := (Rd H a (.tup xs) ∧ a ∉ av) ∨ SqT K (fun _ => none) a xs
theorem SqTA.sq {K : PySem.W.Frag} {av : List Addr} {H : Hp} {a : Addr} {xs : List V} (h : SqTA K av H a xs) : SqT K H a xs := by
  rcases h with ⟨h, _⟩ | h
  · exact .inl h
  · rcases h with (h | ⟨o, h⟩) | h
    · cases h
    · cases h
    · exact .inr h
mutual
def Rp (K : PySem.W.Frag) (av : List Addr) (H : Hp) : D → V → Prop
  | .non, v => v = .non
  | .bl b, v => v = .bl b
  | .int i, v => v = .int i
  | .str s, v => v = .str s
  | .adr a, v => v = .ref a
  | .scr l, v => ∃ a, v = .ref a ∧ ((∃ o, H a = some (.frz o (.lst (l.map V.int))) ∧ a ∉ av) ∨ SqL K (fun _ => none) a (l.map V.int))
  | .tup l, v => ∃ a vs, v = .ref a ∧ SqTA K av H a vs ∧ RpL K av H l vs
  | .lst l, v => ∃ a vs, v = .ref a ∧ H a = some (.lst vs) ∧ a ∉ av ∧ RpL K av H l vs
  | .dct ks l, v => ∃ a vs, v = .ref a ∧ H a = some (.dK (ks.zip vs)) ∧ a ∉ av ∧ ks.length = vs.length ∧ RpL K av H l vs
  | .ins C ns l, v => ∃ a dx vs, v = .ref a ∧ H a = some (.ins C dx (ns.zip vs)) ∧ a ∉ av ∧ ns.length = vs.length ∧ RpL K av H l vs
def RpL (K : PySem.W.Frag) (av : List Addr) (H : Hp) : List D → List V → Prop
  | [], vs => vs = []
  | d :: ds, vs => ∃ v r, vs = v :: r ∧ Rp K av H d v ∧ RpL K av H ds r
end
/-- what stood and was not to be avoided stands -/
def Mv (av : List Addr) (H : Hp) (av' : List Addr) (H' : Hp) : Prop := ∀ a o, H a = some o → a ∉ av → H' a = some o ∧ a ∉ av'
theorem Mv.rd {av av' : List Addr} {H H' : Hp} (m : Mv av H av' H') {a : Addr} {o : HO} (h : Rd H a o) (n : a ∉ av) : Rd H' a o ∧ a ∉ av' := by
  rcases h with h | ⟨u, h⟩
  · exact ⟨.inl (m a _ h n).1, (m a _ h n).2⟩
  · exact ⟨.inr ⟨u, (m a _ h n).1⟩, (m a _ h n).2⟩
section
variable {K : PySem.W.Frag} {av av' : List Addr} {H H' : Hp}
mutual
theorem Rp.mv (m : Mv av H av' H') : ∀ (d : D) (v : V), Rp K av H d v → Rp K av' H' d v
  | .non, v, h => h
  | .bl b, v, h => h
  | .int i, v, h => h
  | .str s, v, h => h
  | .adr a, v, h => h
  | .tup l, v, h => by
    rw [Rp] at h ⊢
    obtain ⟨a, vs, e, q, r⟩ := h
    refine ⟨a, vs, e, ?_, RpL.mv m l vs r⟩
    rcases q with ⟨q, n⟩ | q
    · exact .inl (m.rd q n)
    · exact .inr q
  | .scr l, v, h => by
    rw [Rp] at h ⊢
    obtain ⟨a, e, q⟩ := h
    refine ⟨a, e, ?_⟩
    rcases q with ⟨o, q, n⟩ | q
    · exact .inl ⟨o, (m a _ q n).1, (m a _ q n).2⟩
    · exact .inr q
  | .lst l, v, h => by
    rw [Rp] at h ⊢
    obtain ⟨a, vs, e, q, n, r⟩ := h
    exact ⟨a, vs, e, (m a _ q n).1, (m a _ q n).2, RpL.mv m l vs r⟩
  | .dct ks l, v, h => by
    rw [Rp] at h ⊢
    obtain ⟨a, vs, e, q, n, hl, r⟩ := h
    exact ⟨a, vs, e, (m a _ q n).1, (m a _ q n).2, hl, RpL.mv m l vs r⟩
  | .ins C ns l, v, h => by
    rw [Rp] at h ⊢
    obtain ⟨a, dx, vs, e, q, n, hl, r⟩ := h
    exact ⟨a, dx, vs, e, (m a _ q n).1, (m a _ q n).2, hl, RpL.mv m l vs r⟩
theorem RpL.mv (m : Mv av H av' H') : ∀ (ds : List D) (vs : List V), RpL K av H ds vs → RpL K av' H' ds vs
  | [], vs, h => by rw [RpL] at h ⊢; exact h
  | d :: ds, vs, h => by
    rw [RpL] at h ⊢
    obtain ⟨v, r, e, h1, h2⟩ := h
    exact ⟨v, r, e, Rp.mv m d v h1, RpL.mv m ds r h2⟩
end
theorem RpL.length : ∀ {ds : List D} {vs : List V}, RpL K av H ds vs → ds.length = vs.length
  | [], vs, h => by rw [RpL] at h; rw [h]; rfl
  | d :: ds, vs, h => by
    rw [RpL] at h
    obtain ⟨v, r, e, _, h2⟩ := h
    rw [e, List.length_cons, List.length_cons, RpL.length h2]
theorem RpL.get : ∀ {ds : List D} {vs : List V} {i : Nat} {d : D}, RpL K av H ds vs → ds[i]? = some d → ∃ v, vs[i]? = some v ∧ Rp K av H d v
  | [], vs, i, d, h, e => by simp at e
  | d0 :: ds, vs, 0, d, h, e => by
    rw [RpL] at h
    obtain ⟨v, r, e1, h1, h2⟩ := h
    have e2 : d0 = d := Option.some.inj e
    subst e2
    exact ⟨v, by rw [e1]; rfl, h1⟩
  | d0 :: ds, vs, i + 1, d, h, e => by
    rw [RpL] at h
    obtain ⟨v, r, e1, h1, h2⟩ := h
    obtain ⟨v', q1, q2⟩ := RpL.get h2 (show ds[i]? = some d by simpa using e)
    exact ⟨v', by rw [e1]; simpa using q1, q2⟩
theorem RpL.set {d : D} {v : V} (hr : Rp K av H d v) : ∀ {ds : List D} {vs : List V} (i : Nat), RpL K av H ds vs → RpL K av H (ds.set i d) (vs.set i v)
  | [], vs, i, h => by rw [RpL] at h; rw [h]; simp [RpL]
  | d0 :: ds, vs, 0, h => by
    rw [RpL] at h
    obtain ⟨v0, r, e1, h1, h2⟩ := h
    rw [e1]
    show RpL K av H (d :: ds) (v :: r)
    rw [RpL]
    exact ⟨v, r, rfl, hr, h2⟩
  | d0 :: ds, vs, i + 1, h => by
    rw [RpL] at h
    obtain ⟨v0, r, e1, h1, h2⟩ := h
    rw [e1]
    show RpL K av H (d0 :: ds.set i d) (v0 :: r.set i v)
    rw [RpL]
    exact ⟨v0, _, rfl, h1, RpL.set hr i h2⟩
theorem RpL.app : ∀ {ds es : List D} {vs us : List V}, RpL K av H ds vs → RpL K av H es us → RpL K av H (ds ++ es) (vs ++ us)
  | [], es, vs, us, h, g => by rw [RpL] at h; rw [h]; exact g
  | d :: ds, es, vs, us, h, g => by
    rw [RpL] at h
    obtain ⟨v, r, e1, h1, h2⟩ := h
    rw [e1]
    show RpL K av H (d :: (ds ++ es)) (v :: (r ++ us))
    rw [RpL]
    exact ⟨v, _, rfl, h1, RpL.app h2 g⟩
theorem RpL.one {d : D} {v : V} (h : Rp K av H d v) : RpL K av H [d] [v] := by
  rw [RpL]
  exact ⟨v, [], rfl, h, by rw [RpL]⟩
theorem RpL.cons {d : D} {v : V} {ds : List D} {vs : List V} (h : Rp K av H d v) (g : RpL K av H ds vs) : RpL K av H (d :: ds) (v :: vs) := by
  rw [RpL]
  exact ⟨v, vs, rfl, h, g⟩
theorem RpL.nil : RpL K av H [] [] := by rw [RpL]
theorem RpL.drop : ∀ {ds : List D} {vs : List V} (n : Nat), RpL K av H ds vs → RpL K av H (ds.drop n) (vs.drop n)
  | ds, vs, 0, h => h
  | [], vs, n + 1, h => by rw [RpL] at h; rw [h]; simp [RpL]
  | d :: ds, vs, n + 1, h => by
    rw [RpL] at h
    obtain ⟨v, r, e1, h1, h2⟩ := h
    rw [e1]
    exact RpL.drop n h2
theorem RpL.take : ∀ {ds : List D} {vs : List V} (n : Nat), RpL K av H ds vs → RpL K av H (ds.take n) (vs.take n)
  | ds, vs, 0, h => by simp [RpL]
  | [], vs, n + 1, h => by rw [RpL] at h; rw [h]; simp [RpL]
  | d :: ds, vs, n + 1, h => by
    rw [RpL] at h
    obtain ⟨v, r, e1, h1, h2⟩ := h
    rw [e1]
    exact RpL.cons h1 (RpL.take n h2)
theorem RpL.rev : ∀ {ds : List D} {vs : List V}, RpL K av H ds vs → RpL K av H ds.reverse vs.reverse
  | [], vs, h => by rw [RpL] at h; rw [h]; simp [RpL]
  | d :: ds, vs, h => by
    rw [RpL] at h
    obtain ⟨v, r, e1, h1, h2⟩ := h
    rw [e1, List.reverse_cons, List.reverse_cons]
    exact (RpL.rev h2).app (RpL.one h1)
theorem RpL.dropLast {ds : List D} {vs : List V} (h : RpL K av H ds vs) : RpL K av H ds.dropLast vs.dropLast := by
  rw [List.dropLast_eq_take, List.dropLast_eq_take, h.length]
  exact h.take _
end

/-! ### memory -/
structure RelM (K : PySem.W.Frag) (φ ps : List Addr) (H : Hp) (M : Mem) : Prop where
  len : φ.length = M.length
  nd : φ.Nodup
  dj : ∀ a ∈ φ, a ∉ ps
  tr : ∀ a ∈ ps, H a ≠ none
  mem : ∀ (n : Nat) (a : Addr) (l : List D), φ[n]? = some a → M[n]? = some l → ∃ vs, H a = some (.lst vs) ∧ RpL K (φ ++ ps) H l vs
def RpW (K : PySem.W.Frag) (φ ps : List Addr) (H : Hp) : W → V → Prop
  | .d x, v => Rp K (φ ++ ps) H x v
  | .r n, v => ∃ a, φ[n]? = some a ∧ v = .ref a
def RpWL (K : PySem.W.Frag) (φ ps : List Addr) (H : Hp) : List W → List V → Prop
  | [], vs => vs = []
  | w :: ws, vs => ∃ v r, vs = v :: r ∧ RpW K φ ps H w v ∧ RpWL K φ ps H ws r
structure RelS (K : PySem.W.Frag) (φ ps : List Addr) (H : Hp) (σ : L2.St) (δ : Slots) : Prop where
  sl : δ.length = σ.length
  at_ : ∀ (i : Nat) (w : W), δ[i]? = some (some w) → ∃ v, σ[i]? = some (some v) ∧ RpW K φ ps H w v
def RpX (K : PySem.W.Frag) (φ ps : List Addr) (H : Hp) (x : XV) (cls : Value) (d : Option Addr) : Prop :=
  cls = x.cls ∧ (x.ns ≠ [] → ∃ dd vs, d = some dd ∧ H dd = some (.xd (x.ns.zip vs)) ∧ dd ∉ φ ++ ps ∧ x.ns.length = vs.length ∧ RpL K (φ ++ ps) H x.vs vs)
/-- the heap grows; the changed lists may change -/
structure Xt (φ : List Addr) (H : Hp) (φ' : List Addr) (H' : Hp) : Prop where
  ex : ∃ ex, φ' = φ ++ ex ∧ ∀ p ∈ ex, H p = none
  keep : ∀ a o, H a = some o → a ∉ φ → H' a = some o
  al : ∀ a, H a ≠ none → H' a ≠ none
section
variable {K : PySem.W.Frag} {φ φ' φ1 φ2 ps : List Addr} {H H' H1 H2 : Hp} {M M' : Mem} {σ : L2.St} {δ : Slots}
theorem Xt.refl : Xt φ H φ H := ⟨⟨[], by simp, by simp⟩, fun _ _ h _ => h, fun _ h => h⟩
theorem Xt.not_mem (x : Xt φ H φ' H') {a : Addr} (h : H a ≠ none) (n : a ∉ φ) : a ∉ φ' := by
  obtain ⟨ex, e, f⟩ := x.ex
  rw [e]
  intro z
  rcases List.mem_append.mp z with z | z
  · exact n z
  · exact h (f a z)
theorem Xt.trans (x : Xt φ H φ1 H1) (y : Xt φ1 H1 φ2 H2) : Xt φ H φ2 H2 := by
  obtain ⟨e1, q1, f1⟩ := x.ex
  obtain ⟨e2, q2, f2⟩ := y.ex
  refine ⟨⟨e1 ++ e2, by rw [q2, q1, List.append_assoc], fun p hp => ?_⟩, fun a o h n => ?_, fun a h => y.al a (x.al a h)⟩
  · rcases List.mem_append.mp hp with h | h
    · exact f1 p h
    · cases q : H p with
      | none => rfl
      | some o => exact absurd (f2 p h) (x.al p (by rw [q]; exact fun z => by cases z))
  · exact y.keep a o (x.keep a o h n) (x.not_mem (by rw [h]; exact fun z => by cases z) n)
theorem Xt.mv (x : Xt φ H φ' H') (ps : List Addr) : Mv (φ ++ ps) H (φ' ++ ps) H' := fun a o h n => by
  have n1 : a ∉ φ := fun z => n (List.mem_append_left _ z)
  refine ⟨x.keep a o h n1, fun z => ?_⟩
  rcases List.mem_append.mp z with z | z
  · exact x.not_mem (by rw [h]; exact fun z => by cases z) n1 z
  · exact n (List.mem_append_right _ z)
theorem Xt.get (x : Xt φ H φ' H') {n : Nat} {a : Addr} (h : φ[n]? = some a) : φ'[n]? = some a := by
  obtain ⟨ex, e, _⟩ := x.ex
  rw [e, List.getElem?_append_left (List.getElem?_eq_some_iff.mp h).1]
  exact h
theorem RpW.xt (x : Xt φ H φ' H') {w : W} {v : V} (h : RpW K φ ps H w v) : RpW K φ' ps H' w v := by
  cases w with
  | d y => exact Rp.mv (x.mv ps) y v h
  | r n =>
    obtain ⟨a, h1, h2⟩ := h
    exact ⟨a, x.get h1, h2⟩
theorem RpWL.xt (x : Xt φ H φ' H') : ∀ {ws : List W} {vs : List V}, RpWL K φ ps H ws vs → RpWL K φ' ps H' ws vs
  | [], vs, h => h
  | w :: ws, vs, h => by
    obtain ⟨v, r, e, h1, h2⟩ := h
    exact ⟨v, r, e, h1.xt x, RpWL.xt x h2⟩
theorem RpWL.length : ∀ {ws : List W} {vs : List V}, RpWL K φ ps H ws vs → ws.length = vs.length
  | [], vs, h => by
    have e : vs = [] := h
    rw [e]
    rfl
  | w :: ws, vs, h => by
    obtain ⟨v, r, e, h1, h2⟩ := h
    rw [e, List.length_cons, List.length_cons, RpWL.length h2]
theorem RelS.xt (x : Xt φ H φ' H') (h : RelS K φ ps H σ δ) : RelS K φ' ps H' σ δ :=
  ⟨h.sl, fun i w e => by
    obtain ⟨v, h1, h2⟩ := h.at_ i w e
    exact ⟨v, h1, h2.xt x⟩⟩
theorem RelS.set {w : W} {v : V} (h : RelS K φ ps H σ δ) (i : Nat) (r : RpW K φ ps H w v) : RelS K φ ps H (σ.set i (some v)) (δ.set i (some w)) := by
  refine ⟨by rw [List.length_set, List.length_set, h.sl], fun j u e => ?_⟩
  by_cases hj : i = j
  · subst hj
    have hl : i < δ.length := by
      have := (List.getElem?_eq_some_iff.mp e).1
      rwa [List.length_set] at this
    rw [List.getElem?_set_self hl] at e
    have e' : w = u := Option.some.inj (Option.some.inj e)
    subst e'
    exact ⟨v, List.getElem?_set_self (by rw [← h.sl]; exact hl), r⟩
  · rw [List.getElem?_set_ne hj] at e
    obtain ⟨v', h1, h2⟩ := h.at_ j u e
    exact ⟨v', by rw [List.getElem?_set_ne hj]; exact h1, h2⟩
theorem RelS.unset (h : RelS K φ ps H σ δ) (i : Nat) (o : Option V) : RelS K φ ps H (σ.set i o) (δ.set i none) := by
  refine ⟨by rw [List.length_set, List.length_set, h.sl], fun j u e => ?_⟩
  by_cases hj : i = j
  · subst hj
    have hl : i < δ.length := by
      have := (List.getElem?_eq_some_iff.mp e).1
      rwa [List.length_set] at this
    rw [List.getElem?_set_self hl] at e
    cases (Option.some.inj e)
  · rw [List.getElem?_set_ne hj] at e
    obtain ⟨v', h1, h2⟩ := h.at_ j u e
    exact ⟨v', by rw [List.getElem?_set_ne hj]; exact h1, h2⟩
/-- a new object, not of the memory -/
theorem Xt.new {p : Addr} {o : HO} (h : H p = none) : Xt φ H φ (upd H p o) :=
  ⟨⟨[], by simp, by simp⟩, fun a u e _ => by rw [upd_ne (ne_of_none e h)]; exact e, fun a e => by
    by_cases z : a = p
    · rw [z, upd_same]
      exact fun q => by cases q
    · rw [upd_ne z]
      exact e⟩
theorem RelM.mem_some (R : RelM K φ ps H M) {a : Addr} (h : a ∈ φ) : ∃ vs, H a = some (.lst vs) := by
  obtain ⟨n, hn, e⟩ := List.getElem_of_mem h
  have e1 : φ[n]? = some a := by rw [List.getElem?_eq_getElem hn, e]
  have hl : n < M.length := by rw [← R.len]; exact hn
  obtain ⟨vs, h1, _⟩ := R.mem n a M[n] e1 (List.getElem?_eq_getElem hl)
  exact ⟨vs, h1⟩
theorem RelM.free (R : RelM K φ ps H M) {p : Addr} (h : H p = none) : p ∉ φ ++ ps := fun z => by
  rcases List.mem_append.mp z with z | z
  · obtain ⟨vs, e⟩ := R.mem_some z
    rw [h] at e
    cases e
  · exact R.tr p z h
theorem RelM.new (R : RelM K φ ps H M) {p : Addr} {o : HO} (h : H p = none) : RelM K φ ps (upd H p o) M := by
  have x : Xt φ H φ (upd H p o) := Xt.new h
  refine ⟨R.len, R.nd, R.dj, fun a ha => x.al a (R.tr a ha), fun n a l e1 e2 => ?_⟩
  obtain ⟨vs, h1, h2⟩ := R.mem n a l e1 e2
  exact ⟨vs, by rw [upd_ne (ne_of_none h1 h)]; exact h1, RpL.mv (x.mv ps) l vs h2⟩
/-- a new object, a new list of the memory -/
theorem Xt.push {p : Addr} {o : HO} (h : H p = none) : Xt φ H (φ ++ [p]) (upd H p o) :=
  ⟨⟨[p], rfl, fun q hq => by rw [List.mem_singleton.mp hq]; exact h⟩, fun a u e _ => by rw [upd_ne (ne_of_none e h)]; exact e, (Xt.new (φ := φ) h).al⟩
theorem RelM.push (R : RelM K φ ps H M) {p : Addr} {vs : List V} {l : List D} (h : H p = none) (r : RpL K (φ ++ ps) H l vs) : RelM K (φ ++ [p]) ps (upd H p (.lst vs)) (M ++ [l]) := by
  have x : Xt φ H (φ ++ [p]) (upd H p (.lst vs)) := Xt.push h
  have f := R.free h
  refine ⟨by rw [List.length_append, List.length_append, R.len, List.length_singleton, List.length_singleton], ?_, fun a ha => ?_, fun a ha => x.al a (R.tr a ha), fun n a m e1 e2 => ?_⟩
  · refine List.nodup_append.mpr ⟨R.nd, by simp, fun a ha b hb => ?_⟩
    rw [List.mem_singleton.mp hb]
    exact fun z => f (List.mem_append_left _ (z ▸ ha))
  · rcases List.mem_append.mp ha with z | z
    · exact R.dj a z
    · rw [List.mem_singleton.mp z]
      exact fun q => f (List.mem_append_right _ q)
  · by_cases hn : n < φ.length
    · rw [List.getElem?_append_left hn] at e1
      rw [List.getElem?_append_left (by rw [← R.len]; exact hn)] at e2
      obtain ⟨us, h1, h2⟩ := R.mem n a m e1 e2
      exact ⟨us, by rw [upd_ne (ne_of_none h1 h)]; exact h1, RpL.mv (x.mv ps) m us h2⟩
    · have hn' : n = φ.length := by
        have := (List.getElem?_eq_some_iff.mp e1).1
        rw [List.length_append, List.length_singleton] at this
        omega
      subst hn'
      rw [List.getElem?_append_right (Nat.le_refl _), Nat.sub_self] at e1
      rw [R.len, List.getElem?_append_right (Nat.le_refl _), Nat.sub_self] at e2
      have e1' : p = a := Option.some.inj e1
      have e2' : l = m := Option.some.inj e2
      subst e1' e2'
      exact ⟨vs, upd_same, RpL.mv (x.mv ps) l vs r⟩
/-- a list of the memory is changed -/
theorem Xt.write {a : Addr} {o : HO} (h : a ∈ φ) (hs : H a ≠ none) : Xt φ H φ (upd H a o) :=
  ⟨⟨[], by simp, by simp⟩, fun b u e n => by rw [upd_ne (fun z => n (by rw [z]; exact h))]; exact e, fun b e => by
    by_cases z : b = a
    · rw [z, upd_same]
      exact fun q => by cases q
    · rw [upd_ne z]
      exact e⟩
theorem RelM.write (R : RelM K φ ps H M) {n : Nat} {a : Addr} {vs : List V} {l : List D} (h : φ[n]? = some a) (r : RpL K (φ ++ ps) H l vs) : RelM K φ ps (upd H a (.lst vs)) (M.set n l) := by
  have ha : a ∈ φ := List.mem_of_getElem? h
  obtain ⟨us, hs⟩ := R.mem_some ha
  have x : Xt φ H φ (upd H a (.lst vs)) := Xt.write ha (by rw [hs]; exact fun z => by cases z)
  refine ⟨by rw [List.length_set]; exact R.len, R.nd, R.dj, fun b hb => x.al b (R.tr b hb), fun m b k e1 e2 => ?_⟩
  by_cases hm : n = m
  · subst hm
    have hl : n < M.length := by rw [← R.len]; exact (List.getElem?_eq_some_iff.mp h).1
    rw [List.getElem?_set_self hl] at e2
    have e2' : l = k := Option.some.inj e2
    rw [h] at e1
    have e1' : a = b := Option.some.inj e1
    subst e1' e2'
    exact ⟨vs, upd_same, RpL.mv (x.mv ps) l vs r⟩
  · rw [List.getElem?_set_ne hm] at e2
    obtain ⟨ws, h1, h2⟩ := R.mem m b k e1 e2
    refine ⟨ws, ?_, RpL.mv (x.mv ps) k ws h2⟩
    rw [upd_ne fun z => hm ?_]
    · exact h1
    · subst z
      obtain ⟨i1, j1⟩ := List.getElem?_eq_some_iff.mp h
      obtain ⟨i2, j2⟩ := List.getElem?_eq_some_iff.mp e1
      exact (List.getElem_inj R.nd).mp (j1.trans j2.symm)
end
end DL
/-! DLb: what it means that code computes a plain function; the small rules. -/
namespace DL
open PySem PySem.Spec PyProof.Rows L2

/-! ### ends -/
def PstE {α β : Type} (K : PySem.W.Frag) (Wx : WX) (R : List Addr → List Addr → Hp → α → β → Prop) (φ ps : List Addr) (H : Hp) (σ : L2.St) (o : Out α) (Q : β → Hp → Prop) : Prop :=
  match o with
  | .ok a M' => ∀ φ' H' b, Xt φ H φ' H' → RelM K φ' ps H' M' → R φ' ps H' a b → Q b H'
  | .ex x M' => ∀ φ' H' cls d, Xt φ H φ' H' → RelM K φ' ps H' M' → RpX K φ' ps H' x cls d → Wx cls d σ H'
/-- the reading t gives what f gives -/
def SemG {α β : Type} (K : PySem.W.Frag) (Wx : WX) (R : List Addr → List Addr → Hp → α → β → Prop) (t : L2.St → Hp → (β → Hp → Prop) → Prop) (f : Slots → Py α) : Prop :=
  ∀ φ ps H σ δ M, RelM K φ ps H M → RelS K φ ps H σ δ → ∀ o, f δ M = some o → ∀ Q : β → Hp → Prop, PstE K Wx R φ ps H σ o Q → t σ H Q
def RB (_ _ : List Addr) (_ : Hp) (a b : Bool) : Prop := a = b
section
variable {α β γ ε : Type} {K : PySem.W.Frag} {Wx : WX} {R : List Addr → List Addr → Hp → α → β → Prop} {R' : List Addr → List Addr → Hp → γ → ε → Prop} {φ φ' ps : List Addr} {H H' : Hp} {σ : L2.St} {δ : Slots} {M : Mem}
theorem PstE.xt {o : Out α} {Q : β → Hp → Prop} (x : Xt φ H φ' H') (h : PstE K Wx R φ ps H σ o Q) : PstE K Wx R φ' ps H' σ o Q := by
  cases o with
  | ok a M' => exact fun φ2 H2 b y => h φ2 H2 b (x.trans y)
  | ex e M' => exact fun φ2 H2 c d y => h φ2 H2 c d (x.trans y)
/-- one thing, then another -/
theorem sem_bind {t : L2.St → Hp → (β → Hp → Prop) → Prop} {f : Slots → Py α} {g : α → Py γ} (hs : SemG K Wx R t f) (RM : RelM K φ ps H M) (RS : RelS K φ ps H σ δ) {o : Out γ} (h : bnd (f δ) g M = some o)
    {Q' : ε → Hp → Prop} (P : PstE K Wx R' φ ps H σ o Q') {Q : β → Hp → Prop}
    (rest : ∀ a M1 φ1 H1 b, Xt φ H φ1 H1 → RelM K φ1 ps H1 M1 → RelS K φ1 ps H1 σ δ → R φ1 ps H1 a b → g a M1 = some o → PstE K Wx R' φ1 ps H1 σ o Q' → Q b H1) : t σ H Q := by
  unfold bnd at h
  cases e : f δ M with
  | none => rw [e] at h; cases h
  | some o1 =>
    rw [e] at h
    refine hs φ ps H σ δ M RM RS o1 e Q ?_
    cases o1 with
    | ok a M1 => exact fun φ1 H1 b x RM1 r => rest a M1 φ1 H1 b x RM1 (RS.xt x) r h (P.xt x)
    | ex x1 M1 =>
      have e2 : Out.ex x1 M1 = o := Option.some.inj h
      subst e2
      exact P
end

/-! ### families of contexts -/
structure Fam where
  ι : Type
  X : ι → Cx
  K : PySem.W.Frag
  mg : Str → Option Value
  N : List Str
  sc : Scope
  k : Nat
  prog : Program
  w : World
  base : Heap
  hK : ∀ i, (X i).K = K
  hm : ∀ i, (X i).mg = mg
  hN : ∀ i, (X i).N = N
  hsc : ∀ i, (X i).env.scope = sc
  hp : ∀ i, (X i).prog = prog
  hw : ∀ i, (X i).w = w
  hb : ∀ i, (X i).base = base
  calm : ∀ i, (X i).calm = true
  gd : ∀ i, (X i).A.guards = some []
  room : ∀ i, Room k (X i).A
  own : Str → Bool
  fn : ∀ i x, own x = true → (X i).fn x = true
  nd : N.Nodup

def QE (F : Fam) (e : Expr) (f : Slots → Py W) : Prop := ∃ t : WX → TE, (∀ i Wx, Takes (F.X i) Wx → PE (F.X i) e (t Wx)) ∧ ∀ Wx, SemG F.K Wx (RpW F.K) (t Wx) f
def QT (F : Fam) (e : Expr) (f : Slots → Py Bool) : Prop := ∃ t : WX → TT, (∀ i Wx, Takes (F.X i) Wx → PT (F.X i) e (t Wx)) ∧ ∀ Wx, SemG F.K Wx RB (t Wx) f
def QW (F : Fam) (e : Expr) (f : Slots → Py Bool) : Prop := ∃ t : WX → TT, (∀ i Wx, Takes (F.X i) Wx → PW (F.X i) e (t Wx)) ∧ ∀ Wx, SemG F.K Wx RB (t Wx) f
def QA (F : Fam) (es : List Expr) (f : Slots → Py (List W)) : Prop := ∃ t : WX → TA, (∀ i Wx, Takes (F.X i) Wx → PA (F.X i) es (t Wx)) ∧ ∀ Wx, SemG F.K Wx (RpWL F.K) (t Wx) f

/-! ### expressions -/
def fVar (i : Nat) : Slots → Py W := fun δ M => match δ[i]? with
  | some (some w) => some (.ok w M)
  | _ => none
def fC (d : D) : Slots → Py W := fun _ M => some (.ok (.d d) M)
def f2 (g : Mem → W → W → Option W) (fa fb : Slots → Py W) : Slots → Py W := fun δ => bnd (fa δ) fun x => bnd (fb δ) fun y => fun M => match g M x y with
  | some w => some (.ok w M)
  | none => none
def f1 (g : Mem → W → Option W) (fa : Slots → Py W) : Slots → Py W := fun δ => bnd (fa δ) fun x => fun M => match g M x with
  | some w => some (.ok w M)
  | none => none
def Sem2 (K : PySem.W.Frag) (r : R2) (g : Mem → W → W → Option W) : Prop :=
  ∀ φ ps H M x y v u w (Q : VK), RelM K φ ps H M → RpW K φ ps H x v → RpW K φ ps H y u → g M x y = some w → (∀ H' z, Xt φ H φ H' → RelM K φ ps H' M → RpW K φ ps H' w z → Q z H') → r v u H Q
def Sem1 (K : PySem.W.Frag) (r : V → Hp → VK → Prop) (g : Mem → W → Option W) : Prop :=
  ∀ φ ps H M x v w (Q : VK), RelM K φ ps H M → RpW K φ ps H x v → g M x = some w → (∀ H' z, Xt φ H φ H' → RelM K φ ps H' M → RpW K φ ps H' w z → Q z H') → r v H Q
/-- a built-in called -/
def SemC (K : PySem.W.Frag) (r : List V → Hp → VK → Prop) (g : Mem → List W → Option W) : Prop :=
  ∀ φ ps H M ws vs w (Q : VK), RelM K φ ps H M → RpWL K φ ps H ws vs → g M ws = some w → (∀ H' z, Xt φ H φ H' → RelM K φ ps H' M → RpW K φ ps H' w z → Q z H') → r vs H Q
section
variable {F : Fam} {a b c e : Expr} {es : List Expr} {fa fb fc : Slots → Py W} {fT fU : Slots → Py Bool} {fs : Slots → Py (List W)} {pos p : Pos}
theorem sem_var {K : PySem.W.Frag} {Wx : WX} {i : Nat} : SemG K Wx (RpW K) (tVar i) (fVar i) := by
  intro φ ps H σ δ M RM RS o h Q P
  unfold fVar at h
  split at h
  · rename_i w e
    have e2 := Option.some.inj h
    subst e2
    obtain ⟨v, h1, h2⟩ := RS.at_ i w e
    exact ⟨v, h1, P φ H v Xt.refl RM h2⟩
  · cases h
theorem q_var {i : Nat} {x : Str} (hN : F.N[i]? = some x := by rfl) (hv : Vis F.sc x := by first | exact Or.inl rfl | exact Or.inr (Or.inl rfl) | exact Or.inr (Or.inr rfl)) (hd : (x == ("__debug__" : Str)) = false := by decide) (hcd : (x == ("__classdict__" : Str)) = false := by decide) : QE F (.Name x pos) (fVar i) :=
  ⟨fun _ => tVar i, fun j _ _ => pe_var (by rw [F.hN j]; exact hN) (by rw [F.hsc j]; exact hv) hd hcd, fun _ => sem_var⟩
theorem sem_c {K : PySem.W.Frag} {Wx : WX} {v : V} {d : D} (h : ∀ av H, Rp K av H d v) : SemG K Wx (RpW K) (tC v) (fC d) := by
  intro φ ps H σ δ M RM RS o e Q P
  have e2 : Out.ok (W.d d) M = o := Option.some.inj e
  subst e2
  exact P φ H v Xt.refl RM (h _ _)
theorem q_int {i : Int} {j : Nat} : QE F (.Constant (.int i) j pos) (fC (.int i)) := ⟨fun _ => tC (.int i), fun _ _ _ => pe_int, fun _ => sem_c fun _ _ => by rw [Rp]⟩
theorem q_bl {i : Bool} {j : Nat} : QE F (.Constant (.bool i) j pos) (fC (.bl i)) := ⟨fun _ => tC (.bl i), fun _ _ _ => pe_bl, fun _ => sem_c fun _ _ => by rw [Rp]⟩
theorem q_non {j : Nat} : QE F (.Constant .none j pos) (fC .non) := ⟨fun _ => tC .non, fun _ _ _ => pe_non, fun _ => sem_c fun _ _ => by rw [Rp]⟩
theorem q_str {i : Str} {j : Nat} : QE F (.Constant (.str i) j pos) (fC (.str i)) := ⟨fun _ => tC (.str i), fun _ _ _ => pe_str, fun _ => sem_c fun _ _ => by rw [Rp]⟩
/-- a constant of the module -/
theorem q_glob {x : Str} {v : V} {d : D} {u : Value} (hg : F.sc.names.lookup x = some .globalImplicit) (hm : F.mg x = some u) (r : RelV v u) (hd : ∀ av H, Rp F.K av H d v) (hdb : (x == ("__debug__" : Str)) = false := by decide) : QE F (.Name x pos) (fC d) :=
  ⟨fun _ => tC v, fun i _ _ => pe_glob (by show (F.X i).env.scope.names.lookup x = _; rw [F.hsc i]; exact hg) (by rw [F.hm i]; exact hm) r hdb, fun _ => sem_c hd⟩
theorem q_op {op : Operator} {r : R2} {g : Mem → W → W → Option W} (ho : ∀ i, OpR (F.X i) (binaryOp op) r) (hs : Sem2 F.K r g) (ha : QE F a fa) (hb : QE F b fb) : QE F (.BinOp a op b pos) (f2 g fa fb) := by
  obtain ⟨ta, pa, sa⟩ := ha
  obtain ⟨tb, pb, sb⟩ := hb
  refine ⟨fun Wx => tOp r (ta Wx) (tb Wx), fun i Wx tk => pe_op (ho i) (pa i Wx tk) (pb i Wx tk), fun Wx φ ps H σ δ M RM RS o h Q P => ?_⟩
  refine sem_bind (sa Wx) RM RS h P fun x M1 φ1 H1 v x1 RM1 RS1 rx h1 P1 => ?_
  refine sem_bind (sb Wx) RM1 RS1 h1 P1 fun y M2 φ2 H2 u x2 RM2 RS2 ry h2 P2 => ?_
  cases e : g M2 x y with
  | none => simp only [e] at h2; cases h2
  | some w =>
    simp only [e] at h2
    have e2 := Option.some.inj h2
    subst e2
    exact hs φ2 ps H2 M2 x y v u w Q RM2 (rx.xt x2) ry e fun H3 z x3 RM3 rz => P2 φ2 H3 z x3 RM3 rz
theorem q_cmp {op : CmpOp} {r : R2} {g : Mem → W → W → Option W} (ho : ∀ i, OpR (F.X i) (compareOp op) r) (hs : Sem2 F.K r g) (ha : QE F a fa) (hb : QE F b fb) (hm : behindInMarks op b = false) : QE F (.Compare a [op] [b] pos) (f2 g fa fb) := by
  obtain ⟨ta, pa, sa⟩ := ha
  obtain ⟨tb, pb, sb⟩ := hb
  refine ⟨fun Wx => tOp r (ta Wx) (tb Wx), fun i Wx tk => pe_cmpR (ho i) (pa i Wx tk) (pb i Wx tk) hm, fun Wx φ ps H σ δ M RM RS o h Q P => ?_⟩
  refine sem_bind (sa Wx) RM RS h P fun x M1 φ1 H1 v x1 RM1 RS1 rx h1 P1 => ?_
  refine sem_bind (sb Wx) RM1 RS1 h1 P1 fun y M2 φ2 H2 u x2 RM2 RS2 ry h2 P2 => ?_
  cases e : g M2 x y with
  | none => simp only [e] at h2; cases h2
  | some w =>
    simp only [e] at h2
    have e2 := Option.some.inj h2
    subst e2
    exact hs φ2 ps H2 M2 x y v u w Q RM2 (rx.xt x2) ry e fun H3 z x3 RM3 rz => P2 φ2 H3 z x3 RM3 rz
theorem q_un {op : UnaryOp} {r : V → Hp → VK → Prop} {g : Mem → W → Option W} (ho : ∀ i, UnR (F.X i) (unaryOp op) r) (hs : Sem1 F.K r g) (ha : QE F a fa) : QE F (.UnaryOp op a pos) (f1 g fa) := by
  obtain ⟨ta, pa, sa⟩ := ha
  refine ⟨fun Wx => tUn r (ta Wx), fun i Wx tk => pe_un (ho i) (pa i Wx tk), fun Wx φ ps H σ δ M RM RS o h Q P => ?_⟩
  refine sem_bind (sa Wx) RM RS h P fun x M1 φ1 H1 v x1 RM1 RS1 rx h1 P1 => ?_
  cases e : g M1 x with
  | none => simp only [e] at h1; cases h1
  | some w =>
    simp only [e] at h1
    have e2 := Option.some.inj h1
    subst e2
    exact hs φ1 ps H1 M1 x v w Q RM1 rx e fun H3 z x3 RM3 rz => P1 φ1 H3 z x3 RM3 rz
theorem q_ix {r : R2} {g : Mem → W → W → Option W} (ho : ∀ i, IxR (F.X i) r) (hs : Sem2 F.K r g) (ha : QE F a fa) (hb : QE F b fb) (hx : PlainIx b := by exact fun _ _ => rfl) : QE F (.Subscript a b pos) (f2 g fa fb) := by
  obtain ⟨ta, pa, sa⟩ := ha
  obtain ⟨tb, pb, sb⟩ := hb
  refine ⟨fun Wx => tOp r (ta Wx) (tb Wx), fun i Wx tk => pe_ix (ho i) (pa i Wx tk) (pb i Wx tk) hx, fun Wx φ ps H σ δ M RM RS o h Q P => ?_⟩
  refine sem_bind (sa Wx) RM RS h P fun x M1 φ1 H1 v x1 RM1 RS1 rx h1 P1 => ?_
  refine sem_bind (sb Wx) RM1 RS1 h1 P1 fun y M2 φ2 H2 u x2 RM2 RS2 ry h2 P2 => ?_
  cases e : g M2 x y with
  | none => simp only [e] at h2; cases h2
  | some w =>
    simp only [e] at h2
    have e2 := Option.some.inj h2
    subst e2
    exact hs φ2 ps H2 M2 x y v u w Q RM2 (rx.xt x2) ry e fun H3 z x3 RM3 rz => P2 φ2 H3 z x3 RM3 rz

/-! ### arguments, displays, built-ins -/
def fNil : Slots → Py (List W) := fun _ M => some (.ok [] M)
def fCons (fa : Slots → Py W) (fs : Slots → Py (List W)) : Slots → Py (List W) := fun δ => bnd (fa δ) fun x => bnd (fs δ) fun xs => ret (x :: xs)
theorem q_nil : QA F [] fNil := ⟨fun _ => tNil, fun _ _ _ => pa_nil, fun _ φ ps H σ δ M RM RS o h Q P => by
  have e2 : Out.ok [] M = o := Option.some.inj h
  subst e2
  exact P φ H [] Xt.refl RM rfl⟩
theorem q_cons (ha : QE F e fa) (hs : QA F es fs) (he : ∀ env, starEach (e :: es) env = (false, eval e env) :: starEach es env := by intro _; rfl) : QA F (e :: es) (fCons fa fs) := by
  obtain ⟨ta, pa, sa⟩ := ha
  obtain ⟨tb, pb, sb⟩ := hs
  refine ⟨fun Wx => tCons (ta Wx) (tb Wx), fun i Wx tk => pa_cons (pa i Wx tk) (pb i Wx tk) (he _), fun Wx φ ps H σ δ M RM RS o h Q P => ?_⟩
  refine sem_bind (sa Wx) RM RS h P fun x M1 φ1 H1 v x1 RM1 RS1 rx h1 P1 => ?_
  refine sem_bind (sb Wx) RM1 RS1 h1 P1 fun y M2 φ2 H2 u x2 RM2 RS2 ry h2 P2 => ?_
  have e2 := Option.some.inj h2
  subst e2
  exact P2 φ2 H2 (v :: u) Xt.refl RM2 ⟨v, u, rfl, rx.xt x2, ry⟩
/-- data of all of them -/
def dats : List W → Option (List D)
  | [] => some []
  | .d x :: ws => (dats ws).map (x :: ·)
  | .r _ :: _ => none
theorem dats_rel {K : PySem.W.Frag} {φ ps : List Addr} {H : Hp} : ∀ {ws : List W} {vs : List V} {ds : List D}, RpWL K φ ps H ws vs → dats ws = some ds → RpL K (φ ++ ps) H ds vs
  | [], vs, ds, h, e => by
    have e1 : [] = ds := Option.some.inj e
    subst e1
    have e2 : vs = [] := h
    rw [e2]
    exact RpL.nil
  | .r n :: ws, vs, ds, h, e => by cases e
  | .d x :: ws, vs, ds, h, e => by
    obtain ⟨v, r, e1, h1, h2⟩ := h
    rw [e1]
    show RpL K _ H ds (v :: r)
    cases q : dats ws with
    | none => rw [dats, q] at e; cases e
    | some es =>
      rw [dats, q] at e
      have e3 : x :: es = ds := Option.some.inj e
      subst e3
      exact RpL.cons h1 (dats_rel h2 q)
theorem dats_len : ∀ {ws : List W} {ds : List D}, dats ws = some ds → ws.length = ds.length
  | [], ds, e => by
    have e1 : [] = ds := Option.some.inj e
    subst e1
    rfl
  | .r n :: ws, ds, e => by cases e
  | .d x :: ws, ds, e => by
    cases q : dats ws with
    | none => rw [dats, q] at e; cases e
    | some es =>
      rw [dats, q] at e
      have e3 : x :: es = ds := Option.some.inj e
      subst e3
      rw [List.length_cons, List.length_cons, dats_len q]
def fTup (fs : Slots → Py (List W)) : Slots → Py W := fun δ => bnd (fs δ) fun ws => fun M => match dats ws with
  | some ds => if ds.length ≤ 100000 then some (.ok (.d (.tup ds)) M) else none
  | none => none
def fLst (fs : Slots → Py (List W)) : Slots → Py W := fun δ => bnd (fs δ) fun ws => fun M => match dats ws with
  | some ds => if ds.length ≤ 100000 then some (.ok (.d (.lst ds)) M) else none
  | none => none
/-- a list that will be changed -/
def fRef (fs : Slots → Py (List W)) : Slots → Py W := fun δ => bnd (fs δ) fun ws => fun M => match dats ws with
  | some ds => if ds.length ≤ 100000 then some (.ok (.r M.length) (M ++ [ds])) else none
  | none => none
theorem line_of {n : Nat} (h : n ≤ 100000) : n ≤ sizeLine := Nat.le_trans h (by decide)
theorem q_tup (hs : QA F es fs) {k : Nat} : QE F (.Tuple es k pos) (fTup fs) := by
  obtain ⟨ta, pa, sa⟩ := hs
  refine ⟨fun Wx => tTup (ta Wx), fun i Wx tk => pe_tup (pa i Wx tk), fun Wx φ ps H σ δ M RM RS o h Q P => ?_⟩
  refine sem_bind (sa Wx) RM RS h P fun ws M1 φ1 H1 vs x1 RM1 RS1 rx h1 P1 => ?_
  cases e : dats ws with
  | none => simp only [e] at h1; cases h1
  | some ds =>
    simp only [e] at h1
    split at h1
    · rename_i hl
      have e2 := Option.some.inj h1
      subst e2
      refine ⟨line_of (by rw [← rx.length, dats_len e]; exact hl), fun q hq => P1 φ1 _ (.ref q) (Xt.new hq) (RM1.new hq) ?_⟩
      show Rp F.K (φ1 ++ ps) _ (.tup ds) _
      rw [Rp]
      exact ⟨q, vs, rfl, .inl ⟨.inl upd_same, RM1.free hq⟩, RpL.mv ((Xt.new (φ := φ1) hq).mv ps) _ _ (dats_rel rx e)⟩
    · cases h1
theorem q_lst (hs : QA F es fs) : QE F (.List es pos) (fLst fs) := by
  obtain ⟨ta, pa, sa⟩ := hs
  refine ⟨fun Wx => tLst (ta Wx), fun i Wx tk => pe_lst (pa i Wx tk), fun Wx φ ps H σ δ M RM RS o h Q P => ?_⟩
  refine sem_bind (sa Wx) RM RS h P fun ws M1 φ1 H1 vs x1 RM1 RS1 rx h1 P1 => ?_
  cases e : dats ws with
  | none => simp only [e] at h1; cases h1
  | some ds =>
    simp only [e] at h1
    split at h1
    · rename_i hl
      have e2 := Option.some.inj h1
      subst e2
      refine ⟨line_of (by rw [← rx.length, dats_len e]; exact hl), fun q hq => P1 φ1 _ (.ref q) (Xt.new hq) (RM1.new hq) ?_⟩
      show Rp F.K (φ1 ++ ps) _ (.lst ds) _
      rw [Rp]
      exact ⟨q, vs, rfl, upd_same, RM1.free hq, RpL.mv ((Xt.new (φ := φ1) hq).mv ps) _ _ (dats_rel rx e)⟩
    · cases h1
theorem q_ref (hs : QA F es fs) : QE F (.List es pos) (fRef fs) := by
  obtain ⟨ta, pa, sa⟩ := hs
  refine ⟨fun Wx => tLst (ta Wx), fun i Wx tk => pe_lst (pa i Wx tk), fun Wx φ ps H σ δ M RM RS o h Q P => ?_⟩
  refine sem_bind (sa Wx) RM RS h P fun ws M1 φ1 H1 vs x1 RM1 RS1 rx h1 P1 => ?_
  cases e : dats ws with
  | none => simp only [e] at h1; cases h1
  | some ds =>
    simp only [e] at h1
    split at h1
    · rename_i hl
      have e2 := Option.some.inj h1
      subst e2
      refine ⟨line_of (by rw [← rx.length, dats_len e]; exact hl), fun q hq => P1 (φ1 ++ [q]) _ (.ref q) (Xt.push hq) (RM1.push hq (dats_rel rx e)) ⟨q, ?_, rfl⟩⟩
      rw [← RM1.len, List.getElem?_append_right (Nat.le_refl _), Nat.sub_self]
      rfl
    · cases h1
def fCl (g : Mem → List W → Option W) (fs : Slots → Py (List W)) : Slots → Py W := fun δ => bnd (fs δ) fun ws => fun M => match g M ws with
  | some w => some (.ok w M)
  | none => none
theorem q_callB {x : Str} {id : String} {r : List V → Hp → VK → Prop} {g : Mem → List W → Option W} (hc : ∀ i, CallR (F.X i) (.builtin id) r) (hs : SemC F.K r g) (ha : QA F (e :: es) fs) (hg : F.sc.names.lookup x = some .globalImplicit) (hm : F.mg x = none)
    (hv : bootBuiltins x = some (.builtin id)) (hn : x ≠ "__name__" := by decide) (hdb : (x == ("__debug__" : Str)) = false := by decide)
    (he : ∀ env, starEach (e :: es) env = (false, eval e env) :: starEach es env := by intro _; rfl) (hpl : ∀ env, (backTo pos (starEach es env)).any (·.1) = false := by intro _; rfl) : QE F (.Call (.Name x p) (e :: es) [] pos) (fCl g fs) := by
  obtain ⟨ta, pa, sa⟩ := ha
  refine ⟨fun Wx => tCB r (ta Wx), fun i Wx tk => pe_callB (hc i) (by show (F.X i).env.scope.names.lookup x = _; rw [F.hsc i]; exact hg) (by rw [F.hm i]; exact hm) hv (pa i Wx tk) hn hdb (he _) (hpl _), fun Wx φ ps H σ δ M RM RS o h Q P => ?_⟩
  refine sem_bind (sa Wx) RM RS h P fun ws M1 φ1 H1 vs x1 RM1 RS1 rx h1 P1 => ?_
  cases e1 : g M1 ws with
  | none => simp only [e1] at h1; cases h1
  | some w =>
    simp only [e1] at h1
    have e2 := Option.some.inj h1
    subst e2
    exact hs φ1 ps H1 M1 ws vs w Q RM1 rx e1 fun H3 z x3 RM3 rz => P1 φ1 H3 z x3 RM3 rz
theorem q_callTy {x : Str} {T : String} {r : List V → Hp → VK → Prop} {g : Mem → List W → Option W} (hc : ∀ i, CallR (F.X i) (.type T) r) (hs : SemC F.K r g) (ha : QA F (e :: es) fs) (hg : F.sc.names.lookup x = some .globalImplicit) (hm : F.mg x = none)
    (hv : bootBuiltins x = some (.type T)) (hn : x ≠ "__name__" := by decide) (hdb : (x == ("__debug__" : Str)) = false := by decide)
    (he : ∀ env, starEach (e :: es) env = (false, eval e env) :: starEach es env := by intro _; rfl) (hpl : ∀ env, (backTo pos (starEach es env)).any (·.1) = false := by intro _; rfl) : QE F (.Call (.Name x p) (e :: es) [] pos) (fCl g fs) := by
  obtain ⟨ta, pa, sa⟩ := ha
  refine ⟨fun Wx => tCB r (ta Wx), fun i Wx tk => pe_callTy (hc i) (by show (F.X i).env.scope.names.lookup x = _; rw [F.hsc i]; exact hg) (by rw [F.hm i]; exact hm) hv (pa i Wx tk) hn hdb (he _) (hpl _), fun Wx φ ps H σ δ M RM RS o h Q P => ?_⟩
  refine sem_bind (sa Wx) RM RS h P fun ws M1 φ1 H1 vs x1 RM1 RS1 rx h1 P1 => ?_
  cases e1 : g M1 ws with
  | none => simp only [e1] at h1; cases h1
  | some w =>
    simp only [e1] at h1
    have e2 := Option.some.inj h1
    subst e2
    exact hs φ1 ps H1 M1 ws vs w Q RM1 rx e1 fun H3 z x3 RM3 rz => P1 φ1 H3 z x3 RM3 rz
/-- a built-in of a module, held by a name -/
theorem q_callF {x : Str} {id : String} {r : List V → Hp → VK → Prop} {g : Mem → List W → Option W} (hc : ∀ i, CallR (F.X i) (.builtin id) r) (hs : SemC F.K r g) (ha : QA F (e :: es) fs) (hg : F.sc.names.lookup x = some .globalImplicit) (hm : F.mg x = some (.builtin id))
    (hdb : (x == ("__debug__" : Str)) = false := by decide)
    (he : ∀ env, starEach (e :: es) env = (false, eval e env) :: starEach es env := by intro _; rfl) (hpl : ∀ env, (backTo pos (starEach es env)).any (·.1) = false := by intro _; rfl) : QE F (.Call (.Name x p) (e :: es) [] pos) (fCl g fs) := by
  obtain ⟨ta, pa, sa⟩ := ha
  refine ⟨fun Wx => tCB r (ta Wx), fun i Wx tk => pe_callBfun (hc i) (by show (F.X i).env.scope.names.lookup x = _; rw [F.hsc i]; exact hg) (by rw [F.hm i]; exact hm) (pa i Wx tk) hdb (he _) (hpl _), fun Wx φ ps H σ δ M RM RS o h Q P => ?_⟩
  refine sem_bind (sa Wx) RM RS h P fun ws M1 φ1 H1 vs x1 RM1 RS1 rx h1 P1 => ?_
  cases e1 : g M1 ws with
  | none => simp only [e1] at h1; cases h1
  | some w =>
    simp only [e1] at h1
    have e2 := Option.some.inj h1
    subst e2
    exact hs φ1 ps H1 M1 ws vs w Q RM1 rx e1 fun H3 z x3 RM3 rz => P1 φ1 H3 z x3 RM3 rz

/-! ### tests -/
def fB (fa : Slots → Py W) : Slots → Py Bool := fun δ => bnd (fa δ) fun x => fun M => match x with
  | .d (.bl b) => some (.ok b M)
  | _ => none
def fAnd (f g : Slots → Py Bool) : Slots → Py Bool := fun δ => bnd (f δ) fun b => if b = true then g δ else ret false
def fOr (f g : Slots → Py Bool) : Slots → Py Bool := fun δ => bnd (f δ) fun b => if b = true then ret true else g δ
def fNot (f : Slots → Py Bool) : Slots → Py Bool := fun δ => bnd (f δ) fun b => ret (!b)
def fVal (f : Slots → Py Bool) : Slots → Py W := fun δ => bnd (f δ) fun b => ret (.d (.bl b))
def fIf (f : Slots → Py Bool) (fa fb : Slots → Py W) : Slots → Py W := fun δ => bnd (f δ) fun b => if b = true then fa δ else fb δ
theorem rp_bl {K : PySem.W.Frag} {av : List Addr} {H : Hp} {b : Bool} {v : V} (h : Rp K av H (.bl b) v) : v = .bl b := by
  rw [Rp] at h
  exact h
theorem rp_int {K : PySem.W.Frag} {av : List Addr} {H : Hp} {b : Int} {v : V} (h : Rp K av H (.int b) v) : v = .int b := by
  rw [Rp] at h
  exact h
theorem rp_str {K : PySem.W.Frag} {av : List Addr} {H : Hp} {b : Str} {v : V} (h : Rp K av H (.str b) v) : v = .str b := by
  rw [Rp] at h
  exact h
theorem rw_bl {K : PySem.W.Frag} {φ ps : List Addr} {H : Hp} {b : Bool} {v : V} (h : RpW K φ ps H (.d (.bl b)) v) : v = .bl b := rp_bl (show Rp K (φ ++ ps) H (.bl b) v from h)
theorem rw_int {K : PySem.W.Frag} {φ ps : List Addr} {H : Hp} {b : Int} {v : V} (h : RpW K φ ps H (.d (.int b)) v) : v = .int b := rp_int (show Rp K (φ ++ ps) H (.int b) v from h)
theorem rw_str {K : PySem.W.Frag} {φ ps : List Addr} {H : Hp} {b : Str} {v : V} (h : RpW K φ ps H (.d (.str b)) v) : v = .str b := rp_str (show Rp K (φ ++ ps) H (.str b) v from h)
theorem to_bl {K : PySem.W.Frag} {φ ps : List Addr} {H : Hp} {b : Bool} : RpW K φ ps H (.d (.bl b)) (.bl b) := by show Rp _ _ _ _ _; rw [Rp]
theorem to_int {K : PySem.W.Frag} {φ ps : List Addr} {H : Hp} {b : Int} : RpW K φ ps H (.d (.int b)) (.int b) := by show Rp _ _ _ _ _; rw [Rp]
theorem to_str {K : PySem.W.Frag} {φ ps : List Addr} {H : Hp} {b : Str} : RpW K φ ps H (.d (.str b)) (.str b) := by show Rp _ _ _ _ _; rw [Rp]
theorem to_non {K : PySem.W.Frag} {φ ps : List Addr} {H : Hp} : RpW K φ ps H (.d .non) .non := by show Rp _ _ _ _ _; rw [Rp]
theorem sem_B {K : PySem.W.Frag} {Wx : WX} {ta : TE} (sa : SemG K Wx (RpW K) ta fa) : SemG K Wx RB (tB ta) (fB fa) := by
  intro φ ps H σ δ M RM RS o h Q P
  refine sem_bind sa RM RS h P fun x M1 φ1 H1 v x1 RM1 RS1 rx h1 P1 => ?_
  split at h1
  · rename_i b
    have e2 := Option.some.inj h1
    subst e2
    exact ⟨b, rw_bl rx, P1 φ1 H1 b Xt.refl RM1 rfl⟩
  · cases h1
theorem q_tval (ha : QE F e fa) (he : ∀ env whole, isTrue e env whole = (do let v ← whole; standAt e.pos; holding [v] (truthy v)) := by intro _ _; rfl) : QT F e (fB fa) := by
  obtain ⟨ta, pa, sa⟩ := ha
  exact ⟨fun Wx => tB (ta Wx), fun i Wx tk => pt_val (pa i Wx tk) (he _), fun Wx => sem_B (sa Wx)⟩
theorem q_tcmp {op : CmpOp} {r : R2} {g : Mem → W → W → Option W} (ho : ∀ i, OpR (F.X i) (compareOp op) r) (hs : Sem2 F.K r g) (ha : QE F a fa) (hb : QE F b fb) (hm : behindInMarks op b = false) : QT F (.Compare a [op] [b] pos) (fB (f2 g fa fb)) := by
  obtain ⟨ta, pa, sa⟩ := ha
  obtain ⟨tb, pb, sb⟩ := hb
  refine ⟨fun Wx => tTest (tOp r (ta Wx) (tb Wx)), fun i Wx tk => pt_cmpR (ho i) (pa i Wx tk) (pb i Wx tk) hm, fun Wx φ ps H σ δ M RM RS o h Q P => ?_⟩
  have h' : bnd (fa δ) (fun x => bnd (bnd (fb δ) fun y => fun M => match g M x y with | some w => some (.ok w M) | none => none) fun x => fun M => match x with | .d (.bl b) => some (.ok b M) | _ => none) M = some o := by
    rw [← h]
    unfold fB f2 bnd
    cases fa δ M with
    | none => rfl
    | some o1 => cases o1 <;> rfl
  refine sem_bind (sa Wx) RM RS h' P fun x M1 φ1 H1 v x1 RM1 RS1 rx h1 P1 => ?_
  have h1' : bnd (fb δ) (fun y => fun M => match g M x y with | some (.d (.bl b)) => some (.ok b M) | _ => none) M1 = some o := by
    rw [← h1]
    unfold bnd
    cases fb δ M1 with
    | none => rfl
    | some o1 =>
      cases o1 with
      | ex y M2 => rfl
      | ok y M2 =>
        dsimp only
        cases g M2 x y with
        | none => rfl
        | some w =>
          cases w with
          | r n => rfl
          | d z => cases z <;> rfl
  refine sem_bind (sb Wx) RM1 RS1 h1' P1 fun y M2 φ2 H2 u x2 RM2 RS2 ry h2 P2 => ?_
  cases e : g M2 x y with
  | none => simp only [e] at h2; cases h2
  | some w =>
    simp only [e] at h2
    split at h2
    · rename_i b0 eb
      have eb' : w = .d (.bl b0) := Option.some.inj eb
      have e2 := Option.some.inj h2
      subst e2
      exact hs φ2 ps H2 M2 x y v u w _ RM2 (rx.xt x2) ry e fun H3 z x3 RM3 rz => by
        subst eb'
        exact ⟨b0, rw_bl rz, P2 φ2 H3 b0 x3 RM3 rfl⟩
    · cases h2
theorem q_wand1 (h : QT F a fT) : QW F (.BoolOp .And [a] pos) fT := by
  obtain ⟨t, p, s⟩ := h
  exact ⟨t, fun i Wx tk => pw_and1 (p i Wx tk), s⟩
theorem q_wor1 (h : QT F a fT) : QW F (.BoolOp .Or [a] pos) fT := by
  obtain ⟨t, p, s⟩ := h
  exact ⟨t, fun i Wx tk => pw_or1 (p i Wx tk), s⟩
theorem q_wand {rest : List Expr} (h : QT F a fT) (g : QW F (.BoolOp .And (b :: rest) pos) fU) : QW F (.BoolOp .And (a :: b :: rest) pos) (fAnd fT fU) := by
  obtain ⟨t, p, s⟩ := h
  obtain ⟨u, q, r⟩ := g
  refine ⟨fun Wx => tAnd (t Wx) (u Wx), fun i Wx tk => pw_and (p i Wx tk) (q i Wx tk), fun Wx φ ps H σ δ M RM RS o h Q P => ?_⟩
  refine sem_bind (s Wx) RM RS h P fun x M1 φ1 H1 v x1 RM1 RS1 rx h1 P1 => ?_
  have e : x = v := rx
  subst e
  cases x with
  | true => rw [if_pos rfl] at h1 ⊢; exact r Wx φ1 ps H1 σ δ M1 RM1 RS1 o h1 Q P1
  | false =>
    rw [if_neg Bool.false_ne_true] at h1 ⊢
    have e2 := Option.some.inj h1
    subst e2
    exact P1 φ1 H1 false Xt.refl RM1 rfl
theorem q_wor {rest : List Expr} (h : QT F a fT) (g : QW F (.BoolOp .Or (b :: rest) pos) fU) : QW F (.BoolOp .Or (a :: b :: rest) pos) (fOr fT fU) := by
  obtain ⟨t, p, s⟩ := h
  obtain ⟨u, q, r⟩ := g
  refine ⟨fun Wx => tOr (t Wx) (u Wx), fun i Wx tk => pw_or (p i Wx tk) (q i Wx tk), fun Wx φ ps H σ δ M RM RS o h Q P => ?_⟩
  refine sem_bind (s Wx) RM RS h P fun x M1 φ1 H1 v x1 RM1 RS1 rx h1 P1 => ?_
  have e : x = v := rx
  subst e
  cases x with
  | false => rw [if_neg Bool.false_ne_true] at h1 ⊢; exact r Wx φ1 ps H1 σ δ M1 RM1 RS1 o h1 Q P1
  | true =>
    rw [if_pos rfl] at h1 ⊢
    have e2 := Option.some.inj h1
    subst e2
    exact P1 φ1 H1 true Xt.refl RM1 rfl
theorem q_w (h : QW F e fT) : QT F e fT := by
  obtain ⟨t, p, s⟩ := h
  exact ⟨t, fun i Wx tk => (p i Wx tk).pt, s⟩
theorem q_tnot (h : QT F a fT) : QT F (.UnaryOp .Not a pos) (fNot fT) := by
  obtain ⟨t, p, s⟩ := h
  refine ⟨fun Wx => tNot (t Wx), fun i Wx tk => pt_not (p i Wx tk), fun Wx φ ps H σ δ M RM RS o h Q P => ?_⟩
  refine sem_bind (s Wx) RM RS h P fun x M1 φ1 H1 v x1 RM1 RS1 rx h1 P1 => ?_
  have e : x = v := rx
  subst e
  have e2 := Option.some.inj h1
  subst e2
  exact P1 φ1 H1 _ Xt.refl RM1 rfl
/-! .. as values -/
theorem q_one {op : BoolOp} (h : QE F a fa) : QE F (.BoolOp op [a] pos) fa := by
  obtain ⟨t, p, s⟩ := h
  exact ⟨t, fun i Wx tk => pe_one (p i Wx tk), s⟩
def fAndV (fa fb : Slots → Py W) : Slots → Py W := fun δ => bnd (fB fa δ) fun b => if b = true then fb δ else ret (.d (.bl false))
def fOrV (fa fb : Slots → Py W) : Slots → Py W := fun δ => bnd (fB fa δ) fun b => if b = true then ret (.d (.bl true)) else fb δ
theorem q_and {rest : List Expr} (h : QE F a fa) (g : QE F (.BoolOp .And (b :: rest) pos) fb) : QE F (.BoolOp .And (a :: b :: rest) pos) (fAndV fa fb) := by
  obtain ⟨t, p, s⟩ := h
  obtain ⟨u, q, r⟩ := g
  refine ⟨fun Wx => tAndV (t Wx) (u Wx), fun i Wx tk => pe_and (p i Wx tk) (q i Wx tk), fun Wx φ ps H σ δ M RM RS o h Q P => ?_⟩
  refine sem_bind (sem_B (s Wx)) (Q := fun k H1 => if k = true then u Wx σ H1 Q else Q (.bl false) H1) RM RS h P fun x M1 φ1 H1 v x1 RM1 RS1 rx h1 P1 => ?_
  have e : x = v := rx
  subst e
  cases x with
  | true => rw [if_pos rfl] at h1 ⊢; exact r Wx φ1 ps H1 σ δ M1 RM1 RS1 o h1 Q P1
  | false =>
    rw [if_neg Bool.false_ne_true] at h1 ⊢
    have e2 := Option.some.inj h1
    subst e2
    exact P1 φ1 H1 (.bl false) Xt.refl RM1 to_bl
theorem q_or {rest : List Expr} (h : QE F a fa) (g : QE F (.BoolOp .Or (b :: rest) pos) fb) : QE F (.BoolOp .Or (a :: b :: rest) pos) (fOrV fa fb) := by
  obtain ⟨t, p, s⟩ := h
  obtain ⟨u, q, r⟩ := g
  refine ⟨fun Wx => tOrV (t Wx) (u Wx), fun i Wx tk => pe_or (p i Wx tk) (q i Wx tk), fun Wx φ ps H σ δ M RM RS o h Q P => ?_⟩
  refine sem_bind (sem_B (s Wx)) (Q := fun k H1 => if k = true then Q (.bl true) H1 else u Wx σ H1 Q) RM RS h P fun x M1 φ1 H1 v x1 RM1 RS1 rx h1 P1 => ?_
  have e : x = v := rx
  subst e
  cases x with
  | false => rw [if_neg Bool.false_ne_true] at h1 ⊢; exact r Wx φ1 ps H1 σ δ M1 RM1 RS1 o h1 Q P1
  | true =>
    rw [if_pos rfl] at h1 ⊢
    have e2 := Option.some.inj h1
    subst e2
    exact P1 φ1 H1 (.bl true) Xt.refl RM1 to_bl
def fNotV (fa : Slots → Py W) : Slots → Py W := fun δ => bnd (fB fa δ) fun b => ret (.d (.bl (!b)))
theorem q_not (h : QE F a fa) : QE F (.UnaryOp .Not a pos) (fNotV fa) := by
  obtain ⟨t, p, s⟩ := h
  refine ⟨fun Wx => tNotV (t Wx), fun i Wx tk => pe_not (p i Wx tk), fun Wx φ ps H σ δ M RM RS o h Q P => ?_⟩
  refine sem_bind (sem_B (s Wx)) (Q := fun k H1 => Q (.bl (!k)) H1) RM RS h P fun x M1 φ1 H1 v x1 RM1 RS1 rx h1 P1 => ?_
  have e : x = v := rx
  subst e
  have e2 := Option.some.inj h1
  subst e2
  exact P1 φ1 H1 _ Xt.refl RM1 to_bl
theorem q_if (h : QT F c fT) (ha : QE F a fa) (hb : QE F b fb) : QE F (.IfExp c a b pos) (fIf fT fa fb) := by
  obtain ⟨t, p, s⟩ := h
  obtain ⟨ta, pa, sa⟩ := ha
  obtain ⟨tb, pb, sb⟩ := hb
  refine ⟨fun Wx => tIf (t Wx) (ta Wx) (tb Wx), fun i Wx tk => pe_ifExp (p i Wx tk) (pa i Wx tk) (pb i Wx tk), fun Wx φ ps H σ δ M RM RS o h Q P => ?_⟩
  refine sem_bind (s Wx) RM RS h P fun x M1 φ1 H1 v x1 RM1 RS1 rx h1 P1 => ?_
  have e : x = v := rx
  subst e
  cases x with
  | true => rw [if_pos rfl] at h1 ⊢; exact sa Wx φ1 ps H1 σ δ M1 RM1 RS1 o h1 Q P1
  | false => rw [if_neg Bool.false_ne_true] at h1 ⊢; exact sb Wx φ1 ps H1 σ δ M1 RM1 RS1 o h1 Q P1
/-- a op b op' c -/
def fChain (g g' : Mem → W → W → Option W) (fa fb fc : Slots → Py W) : Slots → Py W := fun δ => bnd (fa δ) fun x => bnd (fb δ) fun y => fun M => match g M x y with
  | some (.d (.bl true)) => bnd (fc δ) (fun z => fun M => match g' M y z with | some w => some (.ok w M) | none => none) M
  | some (.d (.bl false)) => some (.ok (.d (.bl false)) M)
  | _ => none
theorem sem_chain {K : PySem.W.Frag} {Wx : WX} {r r' : R2} {g g' : Mem → W → W → Option W} {ta tb tc : TE} (hs : Sem2 K r g) (hs' : Sem2 K r' g') (sa : SemG K Wx (RpW K) ta fa) (sb : SemG K Wx (RpW K) tb fb) (sc : SemG K Wx (RpW K) tc fc) :
    SemG K Wx (RpW K) (tChain r r' ta tb tc) (fChain g g' fa fb fc) := by
  intro φ ps H σ δ M RM RS o h Q P
  refine sem_bind sa RM RS h P fun x M1 φ1 H1 v x1 RM1 RS1 rx h1 P1 => ?_
  refine sem_bind sb RM1 RS1 h1 P1 fun y M2 φ2 H2 u x2 RM2 RS2 ry h2 P2 => ?_
  split at h2
  · rename_i e
    refine hs φ2 ps H2 M2 x y v u _ _ RM2 (rx.xt x2) ry e fun H3 z x3 RM3 rz => ⟨true, rw_bl rz, ?_⟩
    rw [if_pos rfl]
    refine sem_bind sc RM3 (RS2.xt x3) h2 (P2.xt x3) fun q M4 φ4 H4 u4 x4 RM4 RS4 r4 h4 P4 => ?_
    cases e4 : g' M4 y q with
    | none => simp only [e4] at h4; cases h4
    | some w =>
      simp only [e4] at h4
      have e5 := Option.some.inj h4
      subst e5
      exact hs' φ4 ps H4 M4 y q u u4 w Q RM4 ((ry.xt x3).xt x4) r4 e4 fun H5 z5 x5 RM5 rz5 => P4 φ4 H5 z5 x5 RM5 rz5
  · rename_i e
    have e5 := Option.some.inj h2
    subst e5
    refine hs φ2 ps H2 M2 x y v u _ _ RM2 (rx.xt x2) ry e fun H3 z x3 RM3 rz => ⟨false, rw_bl rz, ?_⟩
    rw [if_neg Bool.false_ne_true]
    exact P2 φ2 H3 _ x3 RM3 to_bl
  · cases h2
theorem q_chain {op op' : CmpOp} {r r' : R2} {g g' : Mem → W → W → Option W} (ho : ∀ i, OpR (F.X i) (compareOp op) r) (ho' : ∀ i, OpR (F.X i) (compareOp op') r') (hs : Sem2 F.K r g) (hs' : Sem2 F.K r' g') (ha : QE F a fa) (hb : QE F b fb) (hc : QE F c fc)
    (hm : lastMarks [op, op'] [b, c] = false := by with_unfolding_all rfl) : QE F (.Compare a [op, op'] [b, c] pos) (fChain g g' fa fb fc) := by
  obtain ⟨ta, pa, sa⟩ := ha
  obtain ⟨tb, pb, sb⟩ := hb
  obtain ⟨tc, pc, sc⟩ := hc
  exact ⟨fun Wx => tChain r r' (ta Wx) (tb Wx) (tc Wx), fun i Wx tk => pe_chain (ho i) (ho' i) (pa i Wx tk) (pb i Wx tk) (pc i Wx tk) hm, fun Wx => sem_chain hs hs' (sa Wx) (sb Wx) (sc Wx)⟩
theorem q_tchain {op op' : CmpOp} {r r' : R2} {g g' : Mem → W → W → Option W} (ho : ∀ i, OpR (F.X i) (compareOp op) r) (ho' : ∀ i, OpR (F.X i) (compareOp op') r') (hs : Sem2 F.K r g) (hs' : Sem2 F.K r' g') (ha : QE F a fa) (hb : QE F b fb) (hc : QE F c fc)
    (hm : lastMarks [op, op'] [b, c] = false := by with_unfolding_all rfl) : QT F (.Compare a [op, op'] [b, c] pos) (fB (fChain g g' fa fb fc)) := by
  obtain ⟨ta, pa, sa⟩ := ha
  obtain ⟨tb, pb, sb⟩ := hb
  obtain ⟨tc, pc, sc⟩ := hc
  exact ⟨fun Wx => tB (tChain r r' (ta Wx) (tb Wx) (tc Wx)), fun i Wx tk => pt_chain (ho i) (ho' i) (pa i Wx tk) (pb i Wx tk) (pc i Wx tk) hm, fun Wx => sem_B (sem_chain hs hs' (sa Wx) (sb Wx) (sc Wx))⟩
end
end DL
/-! DLc: statements, targets, loops. -/
namespace DL
open PySem PySem.Spec PyProof.Rows L2

def FlP (K : PySem.W.Frag) (Wx : WX) (φ ps : List Addr) (H : Hp) (Dn : Ends) : Fl → Prop
  | .nx δ => ∀ σ, RelS K φ ps H σ δ → Dn.nx σ H
  | .rt w => ∀ v, RpW K φ ps H w v → Dn.rt v H
  | .bk δ => ∀ σ, RelS K φ ps H σ δ → Dn.bk σ H
  | .ct δ => ∀ σ, RelS K φ ps H σ δ → Dn.ct σ H
  | .xc x δ => ∀ σ cls d, RelS K φ ps H σ δ → RpX K φ ps H x cls d → Wx cls d σ H
def PstS (K : PySem.W.Frag) (Wx : WX) (φ ps : List Addr) (H : Hp) (fl : Fl) (M' : Mem) (Dn : Ends) : Prop :=
  ∀ φ' H', Xt φ H φ' H' → RelM K φ' ps H' M' → FlP K Wx φ' ps H' Dn fl
def SemS (K : PySem.W.Frag) (Wx : WX) (t : TS) (f : Slots → Py Fl) : Prop :=
  ∀ φ ps H σ δ M, RelM K φ ps H M → RelS K φ ps H σ δ → ∀ fl M', f δ M = some (.ok fl M') → ∀ Dn : Ends, PstS K Wx φ ps H fl M' Dn → t Dn σ H
/-- an expression within a statement: what it raises is a way of the statement -/
def lft {α : Type} (δ : Slots) (f : Py α) (g : α → Py Fl) : Py Fl := fun M => match f M with
  | none => none
  | some (.ex x M') => some (.ok (.xc x δ) M')
  | some (.ok a M') => g a M'
section
variable {α β : Type} {K : PySem.W.Frag} {Wx : WX} {R : List Addr → List Addr → Hp → α → β → Prop} {φ φ' ps : List Addr} {H H' : Hp} {σ : L2.St} {δ : Slots} {M M' : Mem} {fl : Fl} {Dn : Ends}
theorem PstS.xt (x : Xt φ H φ' H') (h : PstS K Wx φ ps H fl M' Dn) : PstS K Wx φ' ps H' fl M' Dn := fun φ2 H2 y => h φ2 H2 (x.trans y)
theorem PstS.now (RM : RelM K φ ps H M') (h : PstS K Wx φ ps H fl M' Dn) : FlP K Wx φ ps H Dn fl := h φ H Xt.refl RM
theorem sem_lft {t : L2.St → Hp → (β → Hp → Prop) → Prop} {f : Slots → Py α} {g : α → Py Fl} (hs : SemG K Wx R t f) (RM : RelM K φ ps H M) (RS : RelS K φ ps H σ δ) (h : lft δ (f δ) g M = some (.ok fl M'))
    (P : PstS K Wx φ ps H fl M' Dn) {Q : β → Hp → Prop}
    (rest : ∀ a M1 φ1 H1 b, Xt φ H φ1 H1 → RelM K φ1 ps H1 M1 → RelS K φ1 ps H1 σ δ → R φ1 ps H1 a b → g a M1 = some (.ok fl M') → PstS K Wx φ1 ps H1 fl M' Dn → Q b H1) : t σ H Q := by
  unfold lft at h
  cases e : f δ M with
  | none => rw [e] at h; cases h
  | some o1 =>
    rw [e] at h
    refine hs φ ps H σ δ M RM RS o1 e Q ?_
    cases o1 with
    | ok a M1 => exact fun φ1 H1 b x RM1 r => rest a M1 φ1 H1 b x RM1 (RS.xt x) r h (P.xt x)
    | ex x1 M1 =>
      have e2 := Out.ok.inj (Option.some.inj h)
      obtain ⟨e3, e4⟩ := e2
      subst e3 e4
      exact fun φ1 H1 cls d x RM1 rx => P φ1 H1 x RM1 σ cls d (RS.xt x) rx
end
def QS (F : Fam) (st : Stmt) (f : Slots → Py Fl) : Prop := ∃ t : WX → TS, (∀ i Wx, Takes (F.X i) Wx → PS (F.X i) st (t Wx)) ∧ ∀ Wx, SemS F.K Wx (t Wx) f
def QB (F : Fam) (st : List Stmt) (f : Slots → Py Fl) : Prop := ∃ t : WX → TS, (∀ i Wx, Takes (F.X i) Wx → PSs (F.X i) st (t Wx)) ∧ ∀ Wx, SemS F.K Wx (t Wx) f

def sNext : Slots → Py Fl := fun δ => ret (.nx δ)
def sSeq (f g : Slots → Py Fl) : Slots → Py Fl := fun δ => bnd (f δ) fun fl => match fl with
  | .nx δ1 => g δ1
  | fl => ret fl
def sRet (fa : Slots → Py W) : Slots → Py Fl := fun δ => lft δ (fa δ) fun w => ret (.rt w)
def sRetN : Slots → Py Fl := fun δ => ret (.rt (.d .non))
def sDrop (fa : Slots → Py W) : Slots → Py Fl := fun δ => lft δ (fa δ) fun _ => ret (.nx δ)
def sIf (c : Slots → Py Bool) (f g : Slots → Py Fl) : Slots → Py Fl := fun δ => lft δ (c δ) fun b => if b = true then f δ else g δ
def sBrk : Slots → Py Fl := fun δ => ret (.bk δ)
def sCnt : Slots → Py Fl := fun δ => ret (.ct δ)
def sNo : Slots → Py Fl := fun _ => no
section
variable {F : Fam} {st : Stmt} {rest sts sts' : List Stmt} {e c : Expr} {f g : Slots → Py Fl} {fa : Slots → Py W} {fT : Slots → Py Bool} {pos : Pos}
theorem ok_inj {fl fl' : Fl} {M M' : Mem} (h : some (Out.ok fl M) = some (Out.ok fl' M')) : fl = fl' ∧ M = M' := by
  have e := Option.some.inj h
  injection e with e1 e2
  exact ⟨e1, e2⟩
theorem qb_nil : QB F [] sNext := ⟨fun _ => tNext, fun _ _ _ => pss_nil, fun _ φ ps H σ δ M RM RS fl M' h Dn P => by
  obtain ⟨e1, e2⟩ := ok_inj h
  subst e1 e2
  exact P.now RM σ RS⟩
theorem qb_cons (h1 : QS F st f) (h2 : QB F rest g) : QB F (st :: rest) (sSeq f g) := by
  obtain ⟨t, p, s⟩ := h1
  obtain ⟨u, q, r⟩ := h2
  refine ⟨fun Wx => tSeq (t Wx) (u Wx), fun i Wx tk => pss_cons (p i Wx tk) (q i Wx tk), fun Wx φ ps H σ δ M RM RS fl M' h Dn P => ?_⟩
  unfold sSeq bnd at h
  cases e : f δ M with
  | none => rw [e] at h; cases h
  | some o1 =>
    rw [e] at h
    cases o1 with
    | ex x M1 => cases h
    | ok fl1 M1 =>
      refine s Wx φ ps H σ δ M RM RS fl1 M1 e _ fun φ1 H1 x RM1 => ?_
      cases fl1 with
      | nx δ1 => exact fun σ1 RS1 => r Wx φ1 ps H1 σ1 δ1 M1 RM1 RS1 fl M' h Dn (P.xt x)
      | rt w =>
        obtain ⟨e1, e2⟩ := ok_inj h
        subst e1 e2
        exact P φ1 H1 x RM1
      | bk w =>
        obtain ⟨e1, e2⟩ := ok_inj h
        subst e1 e2
        exact P φ1 H1 x RM1
      | ct w =>
        obtain ⟨e1, e2⟩ := ok_inj h
        subst e1 e2
        exact P φ1 H1 x RM1
      | xc w d =>
        obtain ⟨e1, e2⟩ := ok_inj h
        subst e1 e2
        exact P φ1 H1 x RM1
theorem qb_one (h1 : QS F st f) : QB F [st] f := by
  obtain ⟨t, p, s⟩ := h1
  exact ⟨t, fun i Wx tk => pss_one (p i Wx tk), s⟩
theorem qs_ret (ha : QE F e fa) : QS F (.Return (some e) pos) (sRet fa) := by
  obtain ⟨t, p, s⟩ := ha
  refine ⟨fun Wx => tRet (t Wx), fun i Wx tk => ps_ret (p i Wx tk), fun Wx φ ps H σ δ M RM RS fl M' h Dn P => ?_⟩
  refine sem_lft (s Wx) RM RS h P fun x M1 φ1 H1 v x1 RM1 RS1 rx h1 P1 => ?_
  obtain ⟨e1, e2⟩ := ok_inj h1
  subst e1 e2
  exact P1.now RM1 v rx
theorem qs_retN : QS F (.Return none pos) sRetN := ⟨fun _ => tRetN, fun _ _ _ => ps_retN, fun _ φ ps H σ δ M RM RS fl M' h Dn P => by
  obtain ⟨e1, e2⟩ := ok_inj h
  subst e1 e2
  exact P.now RM .non to_non⟩
theorem qs_expr (ha : QE F e fa) (hs : ∀ i, swapsWith e none pos.line (F.X i).env = pure false := by intro _; rfl) : QS F (.Expr e pos) (sDrop fa) := by
  obtain ⟨t, p, s⟩ := ha
  refine ⟨fun Wx => tDrop (t Wx), fun i Wx tk => ps_expr (p i Wx tk) (hs i), fun Wx φ ps H σ δ M RM RS fl M' h Dn P => ?_⟩
  refine sem_lft (s Wx) RM RS h P fun x M1 φ1 H1 v x1 RM1 RS1 rx h1 P1 => ?_
  obtain ⟨e1, e2⟩ := ok_inj h1
  subst e1 e2
  exact P1.now RM1 σ RS1
theorem qs_if (hc : QT F c fT) (ha : QB F sts f) (hb : QB F sts' g) : QS F (.If c sts sts' pos) (sIf fT f g) := by
  obtain ⟨t, p, s⟩ := hc
  obtain ⟨ta, pa, sa⟩ := ha
  obtain ⟨tb, pb, sb⟩ := hb
  refine ⟨fun Wx => tIfS (t Wx) (ta Wx) (tb Wx), fun i Wx tk => ps_if (p i Wx tk) (pa i Wx tk) (pb i Wx tk), fun Wx φ ps H σ δ M RM RS fl M' h Dn P => ?_⟩
  refine sem_lft (s Wx) RM RS h P fun x M1 φ1 H1 v x1 RM1 RS1 rx h1 P1 => ?_
  have e : x = v := rx
  subst e
  cases x with
  | true => rw [if_pos rfl] at h1 ⊢; exact sa Wx φ1 ps H1 σ δ M1 RM1 RS1 fl M' h1 Dn P1
  | false => rw [if_neg Bool.false_ne_true] at h1 ⊢; exact sb Wx φ1 ps H1 σ δ M1 RM1 RS1 fl M' h1 Dn P1
theorem qs_pass : QS F (.Pass pos) sNext := ⟨fun _ => tNext, fun _ _ _ => ps_pass, fun _ φ ps H σ δ M RM RS fl M' h Dn P => by
  obtain ⟨e1, e2⟩ := ok_inj h
  subst e1 e2
  exact P.now RM σ RS⟩
theorem qs_brk : QS F (.Break pos) sBrk := ⟨fun _ => tBreak, fun _ _ _ => ps_break, fun _ φ ps H σ δ M RM RS fl M' h Dn P => by
  obtain ⟨e1, e2⟩ := ok_inj h
  subst e1 e2
  exact P.now RM σ RS⟩
theorem qs_cnt : QS F (.Continue pos) sCnt := ⟨fun _ => tCont, fun _ _ _ => ps_continue, fun _ φ ps H σ δ M RM RS fl M' h Dn P => by
  obtain ⟨e1, e2⟩ := ok_inj h
  subst e1 e2
  exact P.now RM σ RS⟩
/-- a statement that no way leads to -/
theorem qs_never : QS F st sNo := ⟨fun _ => tNever, fun _ _ _ => ps_never, fun _ φ ps H σ δ M RM RS fl M' h Dn P => by cases h⟩
end

/-! ### targets; vs: the slots that may change -/
def SemTg (K : PySem.W.Frag) (g : TG) (f : W → Slots → Py Slots) (vs : List Nat) : Prop :=
  ∀ φ ps H σ δ M w v, RelM K φ ps H M → RelS K φ ps H σ δ → RpW K φ ps H w v → ∀ δ' M', f w δ M = some (.ok δ' M') → ∀ Q : L2.St → Hp → Prop,
    (∀ φ' H' σ', Xt φ H φ' H' → RelM K φ' ps H' M' → RelS K φ' ps H' σ' δ' → (∀ j, j ∉ vs → σ'[j]? = σ[j]?) → σ'.length = σ.length → Q σ' H') → g v σ H Q
def QG (F : Fam) (tg : Expr) (f : W → Slots → Py Slots) (vs : List Nat) : Prop := ∃ t : TG, (∀ i, PG (F.X i) tg t) ∧ SemTg F.K t f vs
def SemTgs (K : PySem.W.Frag) (g : TGs) (f : List D → Slots → Py Slots) (vs : List Nat) : Prop :=
  ∀ φ ps H σ δ M ds us, RelM K φ ps H M → RelS K φ ps H σ δ → RpL K (φ ++ ps) H ds us → ∀ δ' M', f ds δ M = some (.ok δ' M') → ∀ Q : L2.St → Hp → Prop,
    (∀ φ' H' σ', Xt φ H φ' H' → RelM K φ' ps H' M' → RelS K φ' ps H' σ' δ' → (∀ j, j ∉ vs → σ'[j]? = σ[j]?) → σ'.length = σ.length → Q σ' H') → g us σ H Q
def QGs (F : Fam) (tg : List Expr) (f : List D → Slots → Py Slots) (vs : List Nat) : Prop := ∃ t : TGs, (∀ i, PGs (F.X i) tg t) ∧ SemTgs F.K t f vs
def gN (i : Nat) : W → Slots → Py Slots := fun w δ => ret (δ.set i (some w))
def gsNil : List D → Slots → Py Slots := fun ds δ => match ds with
  | [] => ret δ
  | _ :: _ => no
def gsCons (f : W → Slots → Py Slots) (fs : List D → Slots → Py Slots) : List D → Slots → Py Slots := fun ds δ => match ds with
  | [] => no
  | d :: ds => fun M => match f (.d d) δ M with
    | some (.ok δ1 M1) => fs ds δ1 M1
    | _ => none
def gT (n : Nat) (fs : List D → Slots → Py Slots) : W → Slots → Py Slots := fun w δ => match w with
  | .d (.tup ds) => if ds.length = n then fs ds δ else no
  | _ => no
section
variable {F : Fam} {x : Str} {e : Expr} {es : List Expr} {f : W → Slots → Py Slots} {fs : List D → Slots → Py Slots} {vs us : List Nat} {pos : Pos}
theorem ok_inj2 {a a' : Slots} {M M' : Mem} (h : some (Out.ok a M) = some (Out.ok a' M')) : a = a' ∧ M = M' := by
  have e := Option.some.inj h
  injection e with e1 e2
  exact ⟨e1, e2⟩
def LocF (F : Fam) (x : Str) : Prop := F.sc.names.lookup x = some .local ∨ (F.sc.names.lookup x = some .cell ∧ F.own x = true)
theorem LocF.loc (h : LocF F x) : Loc F.sc x := by
  rcases h with h | h
  · exact .inl h
  · exact .inr h.1
theorem loc_fn {i : F.ι} (hx : LocF F x) : (F.X i).fn x = true ∨ (F.X i).env.scope.names.lookup x = some .local := by
  rcases hx with h | h
  · exact .inr (by rw [F.hsc i]; exact h)
  · exact .inl (F.fn i x h.2)
theorem sem_name {K : PySem.W.Frag} {i : Nat} : SemTg K (gName i) (gN i) [i] := by
  intro φ ps H σ δ M w v RM RS r δ' M' h Q P
  obtain ⟨e1, e2⟩ := ok_inj2 h
  subst e1 e2
  refine P φ H _ Xt.refl RM (RS.set i r) (fun j hj => ?_) (by rw [List.length_set])
  rw [List.getElem?_set_ne]
  intro z
  exact hj (by rw [z]; exact List.mem_singleton_self _)
theorem qg_name (i : Nat) (hi : F.N[i]? = some x := by rfl) (hx : LocF F x := by first | exact Or.inl rfl | exact Or.inr ⟨rfl, rfl⟩) : QG F (.Name x pos) (gN i) [i] :=
  ⟨gName i, fun j => pg_name (by rw [F.hN j]; exact F.nd) (by rw [F.hN j]; exact hi) (by rw [F.hsc j]; exact hx.loc) (loc_fn hx), sem_name⟩
theorem qgs_nil : QGs F [] gsNil [] := ⟨gNil, fun _ => pgs_nil, fun φ ps H σ δ M ds us RM RS r δ' M' h Q P => by
  cases ds with
  | cons d ds => cases h
  | nil =>
    obtain ⟨e1, e2⟩ := ok_inj2 h
    subst e1 e2
    rw [RpL] at r
    exact ⟨r, P φ H σ Xt.refl RM RS (fun _ _ => rfl) rfl⟩⟩
theorem qgs_cons (h1 : QG F e f vs) (h2 : QGs F es fs us) (hs : ∀ env, (assignEach (e :: es) env).map (·.2) = assign e env :: (assignEach es env).map (·.2) := by intro _; rfl) : QGs F (e :: es) (gsCons f fs) (vs ++ us) := by
  obtain ⟨t, p, s⟩ := h1
  obtain ⟨u, q, r⟩ := h2
  refine ⟨gCons t u, fun i => pgs_cons (p i) (q i) (hs _), fun φ ps H σ δ M ds vv RM RS rr δ' M' h Q P => ?_⟩
  cases ds with
  | nil => cases h
  | cons d ds =>
    rw [RpL] at rr
    obtain ⟨v, rv, e1, r1, r2⟩ := rr
    subst e1
    unfold gsCons at h
    dsimp only at h
    split at h
    · rename_i δ1 M1 e
      refine ⟨v, rv, rfl, s φ ps H σ δ M (.d d) v RM RS r1 δ1 M1 e _ fun φ1 H1 σ1 x1 RM1 RS1 k1 l1 => ?_⟩
      refine r φ1 ps H1 σ1 δ1 M1 ds rv RM1 RS1 (RpL.mv (x1.mv ps) _ _ r2) δ' M' h Q fun φ2 H2 σ2 x2 RM2 RS2 k2 l2 => P φ2 H2 σ2 (x1.trans x2) RM2 RS2 (fun j hj => ?_) (l2.trans l1)
      rw [k2 j fun z => hj (List.mem_append_right _ z), k1 j fun z => hj (List.mem_append_left _ z)]
    · cases h
theorem qg_tup (h : QGs F es fs vs) {n k : Nat} (hn : ∀ env, (assignEach es env).length = n := by intro _; rfl) (hst : ∀ env, (assignEach es env).findIdx? (·.1) = none := by intro _; rfl) : QG F (.Tuple es k pos) (gT n fs) vs := by
  obtain ⟨t, p, s⟩ := h
  refine ⟨gTup F.K n t, fun i => by have := pg_tup (k := k) (pos := pos) (F.calm i) (p i) (hn _) (hst _); rw [F.hK i] at this; exact this, fun φ ps H σ δ M w v RM RS r δ' M' h Q P => ?_⟩
  unfold gT at h
  split at h
  · rename_i ds
    split at h
    · rename_i hl
      have r' : Rp F.K (φ ++ ps) H (.tup ds) v := r
      rw [Rp] at r'
      obtain ⟨a, us, e1, q, r2⟩ := r'
      exact ⟨a, us, e1, q.sq, by rw [← r2.length]; exact hl, s φ ps H σ δ M ds us RM RS r2 δ' M' h Q P⟩
    · cases h
  · cases h
/-- o[i] = .., o a list that is changed -/
def gSubL (fo fi : Slots → Py W) : W → Slots → Py Slots := fun w δ => fun M => match fo δ M with
  | some (.ok (.r n) M1) => match fi δ M1 with
    | some (.ok (.d (.int k)) M2) => match w, M2[n]? with
      | .d x, some l => match ixN l.length k with
        | some j => some (.ok δ (M2.set n (l.set j x)))
        | none => none
      | _, _ => none
    | _ => none
  | _ => none
theorem takes_no {X : Cx} : Takes X (fun _ _ _ _ => False) := fun _ _ x => by
  obtain ⟨_, _, _, _, _, _, _, _, _, _, _, _, _, _, _, _, z⟩ := x
  exact z.elim
theorem qg_sub {o i : Expr} {fo fi : Slots → Py W} (ho : QE F o fo) (hi : QE F i fi)
    (ha : ∀ env v, assign (.Subscript o i pos) env v = (do
      let ov ← holding [v] (eval o env)
      let iv ← holding [v, ov] (eval i env)
      standAt pos
      holding [v, ov, iv] (setItem ov iv v)
      release [v, ov, iv] []) := by intro _ _; rfl) : QG F (.Subscript o i pos) (gSubL fo fi) [] := by
  obtain ⟨t, p, s⟩ := ho
  obtain ⟨u, q, r⟩ := hi
  refine ⟨gSub (t fun _ _ _ _ => False) (u fun _ _ _ _ => False) rSetL, fun j => pg_sub (p j _ takes_no) (q j _ takes_no) set_list (ha _), fun φ ps H σ δ M w v RM RS rw' δ' M' h Q P => ?_⟩
  unfold gSubL at h
  split at h
  · rename_i n M1 e1
    split at h
    · rename_i k M2 e2
      split at h
      · rename_i x l e3
        split at h
        · rename_i j ej
          obtain ⟨ea, eb⟩ := ok_inj2 h
          subst ea eb
          refine s _ φ ps H σ δ M RM RS _ e1 _ fun φ1 H1 ov x1 RM1 ro => ?_
          refine r _ φ1 ps H1 σ δ M1 RM1 (RS.xt x1) _ e2 _ fun φ2 H2 iv x2 RM2 ri => ?_
          obtain ⟨a, ea, eo⟩ := (show ∃ a, φ1[n]? = some a ∧ ov = .ref a from ro)
          have ei : iv = .int k := rw_int ri
          have ea2 := x2.get ea
          obtain ⟨us, h1, h2⟩ := RM2.mem n a l ea2 e3
          have rw2 : RpW F.K φ2 ps H2 (.d x) v := (rw'.xt x1).xt x2
          have r3 : RpL F.K (φ2 ++ ps) H2 (l.set j x) (us.set j v) := h2.set rw2 j
          refine ⟨a, us, k, j, eo, ei, h1, by rw [← h2.length]; exact ej, ?_⟩
          refine P φ2 _ σ ((x1.trans x2).trans (Xt.write (List.mem_of_getElem? ea2) (by rw [h1]; exact fun z => by cases z))) (RM2.write ea2 r3) ?_ (fun _ _ => rfl) rfl
          exact ((RS.xt x1).xt x2).xt (Xt.write (List.mem_of_getElem? ea2) (by rw [h1]; exact fun z => by cases z))
        · cases h
      · cases h
    · cases h
  · cases h
end

/-! ### assignments -/
def sAsg (fa : Slots → Py W) (g : W → Slots → Py Slots) : Slots → Py Fl := fun δ => lft δ (fa δ) fun w => fun M => match g w δ M with
  | some (.ok δ' M') => some (.ok (.nx δ') M')
  | _ => none
def sPar (i j : Nat) (fs : Slots → Py (List W)) : Slots → Py Fl := fun δ => lft δ (fs δ) fun ws => match ws with
  | [a, b] => ret (.nx ((δ.set i (some a)).set j (some b)))
  | _ => no
def sPar3 (i j l : Nat) (fs : Slots → Py (List W)) : Slots → Py Fl := fun δ => lft δ (fs δ) fun ws => match ws with
  | [a, b, c] => ret (.nx (((δ.set i (some a)).set j (some b)).set l (some c)))
  | _ => no
section
variable {F : Fam} {x y z : Str} {e tg : Expr} {es : List Expr} {fa : Slots → Py W} {fs : Slots → Py (List W)} {g : W → Slots → Py Slots} {vs : List Nat} {pos : Pos}
theorem sem_asg {K : PySem.W.Frag} {Wx : WX} {te : TE} {t : TG} (sa : SemG K Wx (RpW K) te fa) (sg : SemTg K t g vs) : SemS K Wx (tAsg te t) (sAsg fa g) := by
  intro φ ps H σ δ M RM RS fl M' h Dn P
  refine sem_lft sa RM RS h P fun x M1 φ1 H1 v x1 RM1 RS1 rx h1 P1 => ?_
  split at h1
  · rename_i δ1 M2 e
    obtain ⟨e1, e2⟩ := ok_inj h1
    subst e1 e2
    exact sg φ1 ps H1 σ δ M1 x v RM1 RS1 rx δ1 M2 e _ fun φ2 H2 σ2 x2 RM2 RS2 _ _ => P1 φ2 H2 x2 RM2 σ2 RS2
  · cases h1
theorem qs_asg (ha : QE F e fa) (hg : QG F tg g vs) (hs : ∀ i, swapsWithSole [tg] e pos.line (F.X i).env = pure false := by intro _; rfl) (hw : ∀ i, swappedStores [tg] e (F.X i).env = pure none := by intro _; rfl)
    (h1 : ∀ env, (assignEach [tg] env).map (·.2) = [assign tg env] := by intro _; rfl) : QS F (.Assign [tg] e pos) (sAsg fa g) := by
  obtain ⟨t, p, s⟩ := ha
  obtain ⟨u, q, r⟩ := hg
  exact ⟨fun Wx => tAsg (t Wx) u, fun i Wx tk => ps_asg (p i Wx tk) (q i) (hs i) (hw i) (h1 _), fun Wx => sem_asg (s Wx) r⟩
theorem qs_set (i : Nat) {pos' : Pos} (ha : QE F e fa) (hi : F.N[i]? = some x := by rfl) (hx : LocF F x := by first | exact Or.inl rfl | exact Or.inr ⟨rfl, rfl⟩) (hs : ∀ i, swapsWith e (some (.Name x pos')) pos.line (F.X i).env = pure false := by intro _; rfl) : QS F (.Assign [.Name x pos'] e pos) (sAsg fa (gN i)) := by
  obtain ⟨t, p, s⟩ := ha
  exact ⟨fun Wx => tAsg (t Wx) (gName i), fun j Wx tk => ps_set (by rw [F.hN j]; exact F.nd) (by rw [F.hN j]; exact hi) (by rw [F.hsc j]; exact hx.loc) (p j Wx tk) (hs j) (loc_fn hx), fun Wx => sem_asg (s Wx) sem_name⟩
theorem qs_par (i j : Nat) {a b : Expr} {px py pt : Pos} {kt k2 pt2} (ha : QA F [a, b] fs) (hi : F.N[i]? = some x := by rfl) (hj : F.N[j]? = some y := by rfl) (hij : i ≠ j := by decide)
    (hx : F.sc.names.lookup x = some .local := by rfl) (hy : F.sc.names.lookup y = some .local := by rfl)
    (hw : ∀ i, swappedStores [.Tuple [.Name x px, .Name y py] kt pt] (.Tuple [a, b] k2 pt2) (F.X i).env = pure (some [x, y]) := by intro _; rfl)
    (hs : ∀ i, swapsWithSole [.Tuple [.Name x px, .Name y py] kt pt] (.Tuple [a, b] k2 pt2) pos.line (F.X i).env = pure false := by intro _; rfl) :
    QS F (.Assign [.Tuple [.Name x px, .Name y py] kt pt] (.Tuple [a, b] k2 pt2) pos) (sPar i j fs) := by
  obtain ⟨t, p, s⟩ := ha
  refine ⟨fun Wx => tPar i j (t Wx), fun l Wx tk => ps_par (F.calm l) (by rw [F.hN l]; exact F.nd) (by rw [F.hN l]; exact hi) (by rw [F.hN l]; exact hj) hij (by rw [F.hsc l]; exact hx) (by rw [F.hsc l]; exact hy) (p l Wx tk) (hw l) (hs l), fun Wx φ ps H σ δ M RM RS fl M' h Dn P => ?_⟩
  refine sem_lft (s Wx) RM RS h P fun ws M1 φ1 H1 vs x1 RM1 RS1 rx h1 P1 => ?_
  match ws, h1, rx with
  | [w1, w2], h1, rx =>
    obtain ⟨v1, r1, q1, q2, q3⟩ := rx
    obtain ⟨v2, r2, q4, q5, q6⟩ := q3
    have q6' : r2 = [] := q6
    subst q6' q4 q1
    obtain ⟨e1, e2⟩ := ok_inj h1
    subst e1 e2
    exact ⟨v1, v2, rfl, P1.now RM1 _ ((RS1.set i q2).set j q5)⟩
  | [], h1, _ => cases h1
  | [_], h1, _ => cases h1
  | _ :: _ :: _ :: _, h1, _ => cases h1
theorem qs_par3 (i j l : Nat) {a b c : Expr} {px py pz pt : Pos} {kt k2 pt2} (ha : QA F [a, b, c] fs) (hi : F.N[i]? = some x := by rfl) (hj : F.N[j]? = some y := by rfl) (hl : F.N[l]? = some z := by rfl) (hij : i ≠ j := by decide) (hil : i ≠ l := by decide) (hjl : j ≠ l := by decide)
    (hx : F.sc.names.lookup x = some .local := by rfl) (hy : F.sc.names.lookup y = some .local := by rfl) (hz : F.sc.names.lookup z = some .local := by rfl)
    (hw : ∀ i, swappedStores [.Tuple [.Name x px, .Name y py, .Name z pz] kt pt] (.Tuple [a, b, c] k2 pt2) (F.X i).env = pure (some [x, y, z]) := by intro _; rfl)
    (hs : ∀ i, swapsWithSole [.Tuple [.Name x px, .Name y py, .Name z pz] kt pt] (.Tuple [a, b, c] k2 pt2) pos.line (F.X i).env = pure false := by intro _; rfl) :
    QS F (.Assign [.Tuple [.Name x px, .Name y py, .Name z pz] kt pt] (.Tuple [a, b, c] k2 pt2) pos) (sPar3 i j l fs) := by
  obtain ⟨t, p, s⟩ := ha
  refine ⟨fun Wx => tPar3 i j l (t Wx), fun m Wx tk => ps_par3 (F.calm m) (by rw [F.hN m]; exact F.nd) (by rw [F.hN m]; exact hi) (by rw [F.hN m]; exact hj) (by rw [F.hN m]; exact hl) hij hil hjl (by rw [F.hsc m]; exact hx) (by rw [F.hsc m]; exact hy) (by rw [F.hsc m]; exact hz) (p m Wx tk) (hw m) (hs m), fun Wx φ ps H σ δ M RM RS fl M' h Dn P => ?_⟩
  refine sem_lft (s Wx) RM RS h P fun ws M1 φ1 H1 vs x1 RM1 RS1 rx h1 P1 => ?_
  match ws, h1, rx with
  | [w1, w2, w3], h1, rx =>
    obtain ⟨v1, r1, q1, q2, q3⟩ := rx
    obtain ⟨v2, r2, q4, q5, q6⟩ := q3
    obtain ⟨v3, r3, q7, q8, q9⟩ := q6
    have q9' : r3 = [] := q9
    subst q9' q7 q4 q1
    obtain ⟨e1, e2⟩ := ok_inj h1
    subst e1 e2
    exact ⟨v1, v2, v3, rfl, P1.now RM1 _ (((RS1.set i q2).set j q5).set l q8)⟩
  | [], h1, _ => cases h1
  | [_], h1, _ => cases h1
  | [_, _], h1, _ => cases h1
  | _ :: _ :: _ :: _ :: _, h1, _ => cases h1
end

/-! ### while -/
def whL (c : Slots → Py Bool) (b : Slots → Py Fl) : Nat → Slots → Py Fl
  | 0, _ => no
  | n + 1, δ => lft δ (c δ) fun t => if t = true then bnd (b δ) fun fl => match fl with
      | .nx δ1 => whL c b n δ1
      | .ct δ1 => whL c b n δ1
      | .bk δ1 => ret (.nx δ1)
      | .rt w => ret (.rt w)
      | .xc x δ1 => ret (.xc x δ1)
    else ret (.nx δ)
def sWhile (fuel : Slots → Nat) (c : Slots → Py Bool) (b : Slots → Py Fl) : Slots → Py Fl := fun δ => whL c b (fuel δ) δ
section
variable {F : Fam} {c : Expr} {body : List Stmt} {fT : Slots → Py Bool} {f : Slots → Py Fl} {pos : Pos}
theorem qs_while (po : ∀ i, PassesOwn (model (F.X i).prog (F.X i).w) (F.X i).A (F.X i).env (F.X i).xe) (fuel : Slots → Nat) (hc : QT F c fT) (hb : QB F body f) : QS F (.While c body [] pos) (sWhile fuel fT f) := by
  obtain ⟨t, p, s⟩ := hc
  obtain ⟨u, q, r⟩ := hb
  refine ⟨fun Wx => tWhile (t Wx) (u Wx), fun i Wx tk => ps_while (po i) (p i Wx tk) (q i Wx tk), fun Wx φ ps H σ δ M RM RS fl M' h Dn P => ?_⟩
  refine ⟨fun m σ1 H1 => ∃ φ1 M1 δ1, Xt φ H φ1 H1 ∧ RelM F.K φ1 ps H1 M1 ∧ RelS F.K φ1 ps H1 σ1 δ1 ∧ whL fT f m δ1 M1 = some (.ok fl M'), ⟨fuel δ, φ, M, δ, Xt.refl, RM, RS, h⟩, ?_⟩
  rintro m σ1 H1 ⟨φ1, M1, δ1, x1, RM1, RS1, h1⟩
  cases m with
  | zero => cases h1
  | succ n =>
    refine sem_lft (s Wx) RM1 RS1 h1 (P.xt x1) fun b M2 φ2 H2 b' x2 RM2 RS2 rb h2 P2 => ?_
    have e : b = b' := rb
    subst e
    cases b with
    | false =>
      rw [if_neg Bool.false_ne_true] at h2 ⊢
      obtain ⟨e1, e2⟩ := ok_inj h2
      subst e1 e2
      exact P2.now RM2 σ1 RS2
    | true =>
      rw [if_pos rfl] at h2 ⊢
      refine ⟨fun σ3 H3 => ∃ φ3 M3 δ3, Xt φ H φ3 H3 ∧ RelM F.K φ3 ps H3 M3 ∧ RelS F.K φ3 ps H3 σ3 δ3 ∧ whL fT f n δ3 M3 = some (.ok fl M'), fun σ3 H3 z => ⟨n, Nat.lt_succ_self n, z⟩, ?_⟩
      unfold bnd at h2
      cases e : f δ1 M2 with
      | none => rw [e] at h2; cases h2
      | some o1 =>
        rw [e] at h2
        cases o1 with
        | ex x M1 => cases h2
        | ok fl1 M3 =>
          refine r Wx φ2 ps H2 σ1 δ1 M2 RM2 RS2 fl1 M3 e _ fun φ3 H3 x3 RM3 => ?_
          cases fl1 with
          | nx δ3 => exact fun σ3 RS3 => ⟨φ3, M3, δ3, (x1.trans x2).trans x3, RM3, RS3, h2⟩
          | ct δ3 => exact fun σ3 RS3 => ⟨φ3, M3, δ3, (x1.trans x2).trans x3, RM3, RS3, h2⟩
          | bk δ3 =>
            obtain ⟨e1, e2⟩ := ok_inj h2
            subst e1 e2
            exact P2 φ3 H3 x3 RM3
          | rt w =>
            obtain ⟨e1, e2⟩ := ok_inj h2
            subst e1 e2
            exact P2 φ3 H3 x3 RM3
          | xc x δ3 =>
            obtain ⟨e1, e2⟩ := ok_inj h2
            subst e1 e2
            exact P2 φ3 H3 x3 RM3
end

/-! ### for -/
/-- what is walked: the items, and a list of the memory that must stay -/
structure Its0 where
  items : List W
  gd : Option (Nat × List D)
def gdOk (g : Option (Nat × List D)) (M : Mem) : Prop := match g with
  | none => True
  | some (n, l) => M[n]? = some l
def Walks (K : PySem.W.Frag) (ps φ1 : List Addr) (H1 : Hp) (J : It) (it : Its0) : Prop :=
  ∀ φ2 H2 M2 qs, Xt φ1 H1 φ2 H2 → Mv (φ1 ++ ps) H1 (φ2 ++ qs) H2 → RelM K φ2 qs H2 M2 → gdOk it.gd M2 → ∀ i : Nat,
    (∀ x, it.items[i]? = some x → J.go i H2 ∧ ∀ v H3, J.yld i H2 v H3 → Xt φ2 H2 φ2 H3 ∧ RelM K φ2 qs H3 M2 ∧ RpW K φ2 qs H3 x v) ∧ (it.items.length ≤ i → J.stop i H2)
def SemI (K : PySem.W.Frag) (Wx : WX) (wi : TI) (fi : Slots → Py Its0) : Prop :=
  ∀ φ ps H σ δ M, RelM K φ ps H M → RelS K φ ps H σ δ → ∀ o, fi δ M = some o → ∀ R : It → Hp → Prop,
    PstE K Wx (fun φ' ps H' it J => Walks K ps φ' H' J it) φ ps H σ o R → wi σ H R
def QI (F : Fam) (tg e : Expr) (fi : Slots → Py Its0) : Prop := ∃ t : WX → TI, (∀ i Wx, Takes (F.X i) Wx → PI (F.X i) tg e (t Wx)) ∧ ∀ Wx, SemI F.K Wx (t Wx) fi
open Classical in
noncomputable def forL (gd : Option (Nat × List D)) (tg : W → Slots → Py Slots) (b : Slots → Py Fl) : List W → Slots → Py Fl
  | [], δ => fun M => if gdOk gd M then some (.ok (.nx δ) M) else none
  | x :: xs, δ => fun M => if gdOk gd M then (match tg x δ M with
      | some (.ok δ1 M1) => bnd (b δ1) (fun fl => match fl with
        | .nx δ2 => forL gd tg b xs δ2
        | .ct δ2 => forL gd tg b xs δ2
        | .bk δ2 => ret (.nx δ2)
        | .rt w => ret (.rt w)
        | .xc x δ2 => ret (.xc x δ2)) M1
      | _ => none) else none
noncomputable def sFor (fi : Slots → Py Its0) (tg : W → Slots → Py Slots) (b : Slots → Py Fl) : Slots → Py Fl := fun δ => lft δ (fi δ) fun it => forL it.gd tg b it.items δ
section
variable {F : Fam} {tg iter : Expr} {body : List Stmt} {fi : Slots → Py Its0} {g : W → Slots → Py Slots} {f : Slots → Py Fl} {vs : List Nat} {pos : Pos}
theorem qs_for (po : ∀ i, PassesOwn (model (F.X i).prog (F.X i).w) (F.X i).A (F.X i).env (F.X i).xe) (hi : QI F tg iter fi) (hg : QG F tg g vs) (hb : QB F body f) (hs : ∀ env x, foldedSetIterable iter env x = pure x := by intro _ _; rfl) : QS F (.For tg iter body [] pos) (sFor fi g f) := by
  obtain ⟨ti, pi, si⟩ := hi
  obtain ⟨tg', pg, sg⟩ := hg
  obtain ⟨u, q, r⟩ := hb
  refine ⟨fun Wx => tFor (ti Wx) tg' (u Wx), fun i Wx tk => ps_for (po i) (F.calm i) (pi i Wx tk) (pg i) (q i Wx tk) (hs _), fun Wx φ ps H σ δ M RM RS fl M' h Dn P => ?_⟩
  unfold sFor lft at h
  cases e : fi δ M with
  | none => rw [e] at h; cases h
  | some o1 =>
    rw [e] at h
    refine si Wx φ ps H σ δ M RM RS o1 e _ ?_
    cases o1 with
    | ex x1 M1 =>
      obtain ⟨e3, e4⟩ := ok_inj h
      subst e3 e4
      exact fun φ1 H1 cls d x RM1 rx => P φ1 H1 x RM1 σ cls d (RS.xt x) rx
    | ok it M1 =>
      intro φ1 H1 J x1 RM1 wk
      dsimp only at h
      refine ⟨fun i m σ2 H2 => ∃ φ2 M2 δ2, Xt φ1 H1 φ2 H2 ∧ RelM F.K φ2 ps H2 M2 ∧ RelS F.K φ2 ps H2 σ2 δ2 ∧ m = it.items.length - i ∧ i ≤ it.items.length ∧ forL it.gd g f (it.items.drop i) δ2 M2 = some (.ok fl M'),
        ⟨it.items.length, φ1, M1, δ, Xt.refl, RM1, RS.xt x1, by simp, Nat.zero_le _, h⟩, ?_⟩
      rintro i m σ2 H2 ⟨φ2, M2, δ2, x2, RM2, RS2, rfl, hi, h2⟩
      by_cases hlt : i < it.items.length
      · refine .inr ?_
        rw [List.drop_eq_getElem_cons hlt] at h2
        unfold forL at h2
        split at h2
        · rename_i hgd
          have ex : it.items[i]? = some it.items[i] := List.getElem?_eq_getElem hlt
          obtain ⟨go, yl⟩ := (wk φ2 H2 M2 ps x2 (x2.mv ps) RM2 hgd i).1 _ ex
          refine ⟨go, fun σ3 H3 => ∃ φ3 M3 δ3, Xt φ1 H1 φ3 H3 ∧ RelM F.K φ3 ps H3 M3 ∧ RelS F.K φ3 ps H3 σ3 δ3 ∧ forL it.gd g f (it.items.drop (i + 1)) δ3 M3 = some (.ok fl M'), ?_, fun v H3 hy => ?_⟩
          · rintro σ3 H3 ⟨φ3, M3, δ3, a1, a2, a3, a4⟩
            exact ⟨it.items.length - (i + 1), by omega, φ3, M3, δ3, a1, a2, a3, rfl, hlt, a4⟩
          · obtain ⟨x3, RM3, rv⟩ := yl v H3 hy
            split at h2
            · rename_i δ4 M4 e4
              refine sg φ2 ps H3 σ2 δ2 M2 it.items[i] v RM3 (RS2.xt x3) rv δ4 M4 e4 _ fun φ4 H4 σ4 x4 RM4 RS4 _ _ => ?_
              unfold bnd at h2
              cases e5 : f δ4 M4 with
              | none => rw [e5] at h2; cases h2
              | some o5 =>
                rw [e5] at h2
                cases o5 with
                | ex x M5 => cases h2
                | ok fl5 M5 =>
                  refine r Wx φ4 ps H4 σ4 δ4 M4 RM4 RS4 fl5 M5 e5 _ fun φ5 H5 x5 RM5 => ?_
                  have xx : Xt φ1 H1 φ5 H5 := ((x2.trans x3).trans x4).trans x5
                  cases fl5 with
                  | nx δ5 => exact fun σ5 RS5 => ⟨φ5, M5, δ5, xx, RM5, RS5, h2⟩
                  | ct δ5 => exact fun σ5 RS5 => ⟨φ5, M5, δ5, xx, RM5, RS5, h2⟩
                  | bk δ5 =>
                    obtain ⟨e1, e2⟩ := ok_inj h2
                    subst e1 e2
                    exact P φ5 H5 (x1.trans xx) RM5
                  | rt w =>
                    obtain ⟨e1, e2⟩ := ok_inj h2
                    subst e1 e2
                    exact P φ5 H5 (x1.trans xx) RM5
                  | xc x δ5 =>
                    obtain ⟨e1, e2⟩ := ok_inj h2
                    subst e1 e2
                    exact P φ5 H5 (x1.trans xx) RM5
            · cases h2
        · cases h2
      · have ei : i = it.items.length := by omega
        subst ei
        rw [List.drop_length] at h2
        unfold forL at h2
        split at h2
        · rename_i hgd
          obtain ⟨e1, e2⟩ := ok_inj h2
          subst e1 e2
          exact .inl ⟨(wk φ2 H2 M2 ps x2 (x2.mv ps) RM2 hgd _).2 (Nat.le_refl _), P φ2 H2 (x1.trans x2) RM2 σ2 RS2⟩
        · cases h2
end
end DL
/-! DLd: defs: what a def promises, its call, its body. -/
namespace DL
open PySem PySem.Spec PyProof.Rows L2

/-- a def's promise where no repr is under way around it -/
structure FnG (P : Program) (w : World) (K : PySem.W.Frag) (mg : Str → Option Value) (base : Heap) (k : Nat) (f : Addr) (fd : FuncData) (ps : List Str) (sp : Sp) : Prop where
  len : ∀ vs H Q E, sp vs H Q E → vs.length = ps.length
  run : ∀ (A : Around) (outer : List Env) (s : Shared) (H : Hp) (args : Args) (us : List Value) (vs : List V) (Q : VK) (E : XK), A.guards = some [] → Room k A → Env0 P w K mg base A outer s H → BindsTo s fd args (ps.zip us) → Vals vs us →
    sp vs H Q E → codeAny (model P w) A (.call (.ref f) args) (CR (L2.CX P w) outer P w H s Q E) s
theorem FnG.mono {P : Program} {w : World} {K : PySem.W.Frag} {mg : Str → Option Value} {base : Heap} {j k : Nat} {f : Addr} {fd : FuncData} {ps : List Str} {sp : Sp} (F : FnG P w K mg base j f fd ps sp) (h : j ≤ k) : FnG P w K mg base k f fd ps sp :=
  ⟨F.len, fun A outer s H args us vs Q E g hr => F.run A outer s H args us vs Q E g (hr.mono h)⟩

/-! ### the promise by a plain function -/
def PstF (K : PySem.W.Frag) (φ ps : List Addr) (H : Hp) (o : Out W) (Q : VK) (E : XK) : Prop :=
  match o with
  | .ok w M' => ∀ φ' H' v, Xt φ H φ' H' → RelM K φ' ps H' M' → RpW K φ' ps H' w v → Q v H'
  | .ex x M' => ∀ φ' H' cls d, Xt φ H φ' H' → RelM K φ' ps H' M' → RpX K φ' ps H' x cls d → E cls d H'
def spD (K : PySem.W.Frag) (n : Nat) (mf : List W → Py W) : Sp := fun vs H Q E =>
  ∃ φ ps ws M o, RelM K φ ps H M ∧ RpWL K φ ps H ws vs ∧ ws.length = n ∧ mf ws M = some o ∧ PstF K φ ps H o Q E

/-! ### what a body gives back -/
def slots0 (n : Nat) (ws : List W) : Slots := ws.map some ++ List.replicate (n - ws.length) none
/-- a list that is handed back is data from then on -/
def finV (n0 : Nat) (w : W) (M' : Mem) : Option (Out W) := match w with
  | .d x => some (.ok (.d x) (M'.take n0))
  | .r n => if n < n0 then some (.ok (.r n) (M'.take n0)) else match M'[n]? with
    | some l => some (.ok (.d (.lst l)) (M'.take n0))
    | none => none
/-- .. stays a list that may be changed -/
def finR (n0 : Nat) (w : W) (M' : Mem) : Option (Out W) := match w with
  | .d x => some (.ok (.d x) (M'.take n0))
  | .r n => if n < n0 then some (.ok (.r n) (M'.take n0)) else match M'[n]? with
    | some l => some (.ok (.r n0) (M'.take n0 ++ [l]))
    | none => none
def clo (fin : Nat → W → Mem → Option (Out W)) (n : Nat) (f : Slots → Py Fl) : List W → Py W := fun ws M => match f (slots0 n ws) M with
  | some (.ok (.rt w) M') => fin M.length w M'
  | some (.ok (.nx _) M') => fin M.length (.d .non) M'
  | some (.ok (.xc x _) M') => some (.ex x (M'.take M.length))
  | _ => none
section
variable {K : PySem.W.Frag} {φ φ' ps ex : List Addr} {H H' : Hp} {M M' : Mem}
theorem Xt.cut (x : Xt φ H φ' H') : Xt φ H φ H' := ⟨⟨[], by simp, by simp⟩, x.keep, x.al⟩
theorem Mv.less (h : ∀ a, a ∈ φ → a ∈ φ') : Mv (φ' ++ ps) H' (φ ++ ps) H' := fun a o e n => ⟨e, fun z => n (by
  rcases List.mem_append.mp z with z | z
  · exact List.mem_append_left _ (h a z)
  · exact List.mem_append_right _ z)⟩
theorem RelM.cut (x : Xt φ H φ' H') (R : RelM K φ' ps H' M') : RelM K φ ps H' (M'.take φ.length) := by
  obtain ⟨ex, rfl, _⟩ := x.ex
  have sub : ∀ a, a ∈ φ → a ∈ φ ++ ex := fun a h => List.mem_append_left _ h
  refine ⟨?_, (List.nodup_append.mp R.nd).1, fun a h => R.dj a (sub a h), R.tr, fun n a l e1 e2 => ?_⟩
  · have := R.len
    rw [List.length_append] at this
    rw [List.length_take]
    omega
  · have hn := (List.getElem?_eq_some_iff.mp e1).1
    rw [List.getElem?_take_of_lt hn] at e2
    obtain ⟨vs, h1, h2⟩ := R.mem n a l (by rw [List.getElem?_append_left hn]; exact e1) e2
    exact ⟨vs, h1, RpL.mv (Mv.less sub) _ _ h2⟩
theorem RpW.cut (x : Xt φ H φ' H') {d : D} {v : V} (h : RpW K φ' ps H' (.d d) v) : RpW K φ ps H' (.d d) v := by
  obtain ⟨ex, rfl, _⟩ := x.ex
  exact Rp.mv (Mv.less fun a z => List.mem_append_left _ z) d v h
/-- a list of the memory that is new -/
theorem RelM.fresh (x : Xt φ H φ' H') (R : RelM K φ' ps H' M') {n : Nat} {a : Addr} (h : φ'[n]? = some a) (hn : ¬ n < φ.length) : a ∉ φ ++ ps := by
  obtain ⟨ex, rfl, _⟩ := x.ex
  intro z
  rcases List.mem_append.mp z with z | z
  · rw [List.getElem?_append_right (by omega)] at h
    exact (List.nodup_append.mp R.nd).2.2 a z a (List.mem_of_getElem? h) rfl
  · exact R.dj a (List.mem_of_getElem? h) z
/-- how an end is handed on -/
def FinOk (fin : Nat → W → Mem → Option (Out W)) : Prop :=
  ∀ (K : PySem.W.Frag) (φ ps : List Addr) (H : Hp) (φ' : List Addr) (H' : Hp) (M' : Mem) (w : W) (v : V) (o : Out W) (Q : VK) (E : XK), Xt φ H φ' H' → RelM K φ' ps H' M' → RpW K φ' ps H' w v → fin φ.length w M' = some o → PstF K φ ps H o Q E → Q v H'
theorem finV_ok : FinOk finV := by
  intro K φ ps H φ' H' M' w v o Q E x RM rw' h P
  have RC := RM.cut x
  cases w with
  | d y =>
    have e := Option.some.inj h
    subst e
    exact P φ H' v x.cut RC (rw'.cut x)
  | r n =>
    obtain ⟨a, e1, e2⟩ := (show ∃ a, φ'[n]? = some a ∧ v = .ref a from rw')
    unfold finV at h
    dsimp only at h
    split at h
    · rename_i hn
      have e := Option.some.inj h
      subst e
      refine P φ H' v x.cut RC ⟨a, ?_, e2⟩
      obtain ⟨ex, rfl, _⟩ := x.ex
      rw [List.getElem?_append_left hn] at e1
      exact e1
    · rename_i hn
      split at h
      · rename_i l hl
        have e := Option.some.inj h
        subst e
        obtain ⟨vs, h1, h2⟩ := RM.mem n a l e1 hl
        refine P φ H' v x.cut RC ?_
        show Rp K (φ ++ ps) H' (.lst l) v
        rw [Rp]
        obtain ⟨ex, e3, f3⟩ := id x.ex
        exact ⟨a, vs, e2, h1, RM.fresh x e1 hn, RpL.mv (by rw [e3]; exact Mv.less fun b z => List.mem_append_left _ z) _ _ h2⟩
      · cases h
theorem finR_ok : FinOk finR := by
  intro K φ ps H φ' H' M' w v o Q E x RM rw' h P
  have RC := RM.cut x
  cases w with
  | d y =>
    have e := Option.some.inj h
    subst e
    exact P φ H' v x.cut RC (rw'.cut x)
  | r n =>
    obtain ⟨a, e1, e2⟩ := (show ∃ a, φ'[n]? = some a ∧ v = .ref a from rw')
    unfold finR at h
    dsimp only at h
    split at h
    · rename_i hn
      have e := Option.some.inj h
      subst e
      refine P φ H' v x.cut RC ⟨a, ?_, e2⟩
      obtain ⟨ex, rfl, _⟩ := x.ex
      rw [List.getElem?_append_left hn] at e1
      exact e1
    · rename_i hn
      split at h
      · rename_i l hl
        have e := Option.some.inj h
        subst e
        obtain ⟨vs, h1, h2⟩ := RM.mem n a l e1 hl
        have fr := RM.fresh x e1 hn
        have hlen := RC.len
        obtain ⟨ex, e3, f3⟩ := id x.ex
        have ha : a ∈ ex := by
          rw [e3, List.getElem?_append_right (by omega)] at e1
          exact List.mem_of_getElem? e1
        have x2 : Xt φ H (φ ++ [a]) H' := ⟨⟨[a], rfl, fun p hp => by rw [List.mem_singleton.mp hp]; exact f3 a ha⟩, x.keep, x.al⟩
        have mv2 : Mv (φ' ++ ps) H' ((φ ++ [a]) ++ ps) H' := Mv.less fun b z => by
          rw [e3]
          rcases List.mem_append.mp z with z | z
          · exact List.mem_append_left _ z
          · rw [List.mem_singleton.mp z]
            exact List.mem_append_right _ ha
        refine P (φ ++ [a]) H' v x2 ⟨?_, ?_, fun b hb => ?_, RM.tr, fun m b l2 g1 g2 => ?_⟩ ⟨a, ?_, e2⟩
        · simp only [List.length_append, List.length_cons, List.length_nil]
          omega
        · refine List.nodup_append.mpr ⟨RC.nd, by simp, fun b hb c hc => ?_⟩
          rw [List.mem_singleton.mp hc]
          exact fun z => fr (List.mem_append_left _ (by rw [← z]; exact hb))
        · rcases List.mem_append.mp hb with z | z
          · exact RC.dj b z
          · rw [List.mem_singleton.mp z]
            exact fun q => fr (List.mem_append_right _ q)
        · by_cases hm : m < φ.length
          · rw [List.getElem?_append_left hm] at g1
            rw [List.getElem?_append_left (by omega)] at g2
            rw [List.getElem?_take_of_lt hm] at g2
            obtain ⟨us, k1, k2⟩ := RM.mem m b l2 (by rw [e3, List.getElem?_append_left hm]; exact g1) g2
            exact ⟨us, k1, RpL.mv mv2 _ _ k2⟩
          · have em : m = φ.length := by
              have := (List.getElem?_eq_some_iff.mp g1).1
              rw [List.length_append, List.length_singleton] at this
              omega
            subst em
            rw [List.getElem?_append_right (Nat.le_refl _), Nat.sub_self] at g1
            rw [List.getElem?_append_right (by omega), show φ.length - (List.take φ.length M').length = 0 by omega] at g2
            have i1 : a = b := Option.some.inj g1
            have i2 : l = l2 := Option.some.inj g2
            subst i1 i2
            exact ⟨vs, h1, RpL.mv mv2 _ _ h2⟩
        · rw [List.getElem?_append_right (Nat.le_refl _), Nat.sub_self]
          rfl
      · cases h
end

/-! ### a body as a family -/
def bodyFam (P : Program) (w : World) (K : PySem.W.Frag) (mg : Str → Option Value) (base : Heap) (N : List Str) (nd : N.Nodup) (qual : Str) (scope : Scope) (k : Nat) (f : Addr) (cdv : Value) (A : Around) (outer : List Env) (s : Shared) (H : Hp) (E : XK)
    (hr : Room k (A.deeper (envOfC qual scope s.heap.objs.size f cdv))) (hg : A.guards = some []) : Fam where
  ι := Unit
  X := fun _ => cxOf (L2.CX P w) P w K mg base N qual scope f cdv A outer s H E
  K := K
  mg := mg
  N := N
  sc := scope
  k := k
  prog := P
  w := w
  base := base
  hK := fun _ => rfl
  hm := fun _ => rfl
  hN := fun _ => rfl
  hsc := fun _ => rfl
  hp := fun _ => rfl
  hw := fun _ => rfl
  hb := fun _ => rfl
  calm := fun _ => rfl
  gd := fun _ => hg
  room := fun _ => hr
  own := fun _ => true
  fn := fun _ _ _ => rfl
  nd := nd
/-- the body's function, whatever is around -/
def BodyQ (P : Program) (w : World) (K : PySem.W.Frag) (mg : Str → Option Value) (base : Heap) (N : List Str) (nd : N.Nodup) (qual : Str) (st : Stmt) (k : Nat) (fb : Slots → Py Fl) : Prop :=
  ∀ (f : Addr) (cdv : Value) (A : Around) (outer : List Env) (s : Shared) (H : Hp) (E : XK) (hr : Room k (A.deeper (envOfC qual (defScope st) s.heap.objs.size f cdv))) (hg : A.guards = some []),
    QB (bodyFam P w K mg base N nd qual (defScope st) k f cdv A outer s H E hr hg) (defBody st) fb
theorem rel_start {K : PySem.W.Frag} {φ ps : List Addr} {H : Hp} (N : List Str) {ws : List W} {vs : List V} (r : RpWL K φ ps H ws vs) : RelS K φ ps H (L2.start N vs) (slots0 N.length ws) := by
  have hl := r.length
  refine ⟨by unfold slots0 L2.start; simp [hl], fun i w e => ?_⟩
  unfold slots0 at e
  by_cases hi : i < ws.length
  · rw [List.getElem?_append_left (by rw [List.length_map]; exact hi), List.getElem?_map] at e
    have get : ∀ {ws : List W} {vs : List V} {i : Nat}, RpWL K φ ps H ws vs → (ws[i]?).map some = some (some w) → ∃ v, vs[i]? = some v ∧ RpW K φ ps H w v := by
      intro ws
      induction ws with
      | nil => intro vs i _ e; simp at e
      | cons w0 ws ih =>
        intro vs i r e
        obtain ⟨v, r', e1, h1, h2⟩ := r
        rw [e1]
        cases i with
        | zero =>
          have e2 : w0 = w := by simpa using e
          subst e2
          exact ⟨v, rfl, h1⟩
        | succ j =>
          obtain ⟨u, q1, q2⟩ := ih (i := j) h2 (by simpa using e)
          exact ⟨u, by simpa using q1, q2⟩
    obtain ⟨v, h1, h2⟩ := get r e
    refine ⟨v, ?_, h2⟩
    unfold L2.start
    rw [List.getElem?_append_left (by rw [List.length_map, ← hl]; exact hi), List.getElem?_map, h1]
    rfl
  · rw [List.getElem?_append_right (by rw [List.length_map]; omega), List.getElem?_replicate] at e
    split at e <;> cases e
section
variable {P : Program} {w : World} {K : PySem.W.Frag} {mg : Str → Option Value} {base : Heap}
theorem fnG_of {k : Nat} {f : Addr} {name qual : Str} {params : Arguments} {body : List Stmt} {scope : Scope} {dV kV doc pm cdv ct oc : Value} {an od : Option Addr} {osl : Array (Option Value)} {N ps : List Str} {sp : Sp}
    (lk : K.lookup f = some ⟨oc, od, .func (PySem.W.fnOf name qual params body scope dV kV doc pm an cdv ct), osl⟩) (hcd : PySem.W.codeIn K cdv qual = true) (S : FnScope N ps scope) (len : ∀ vs H Q E, sp vs H Q E → vs.length = ps.length)
    (hbody : ∀ (A : Around) (outer : List Env) (s : Shared) (H : Hp) (vs : List V) (Q : VK) (E : XK), A.guards = some [] → Room k (A.deeper (envOfC qual scope s.heap.objs.size f cdv)) → sp vs H Q E →
      ∃ t, PSs (cxOf (L2.CX P w) P w K mg base N qual scope f cdv A outer s H E) body t ∧ t { nx := fun _ H' => Q .non H', rt := Q } (L2.start N vs) H) :
    FnG P w K mg base (k + 1) f (PySem.W.fnOf name qual params body scope dV kV doc pm an cdv ct) ps sp := by
  constructor
  · exact len
  intro A outer s H args us vs Q E hg hr e0 hb r hsp
  have kin := e0.mod.kin.keeps (h' := s.heap) fun b o e => And.left (e0.bs b o e)
  have knd : ∀ y ∈ ps.zip us, scope.names.lookup y.1 = some .local ∨ (scope.names.lookup y.1 = some .cell ∧ ((cellsFrom (s.heap.objs.size + 1) scope.names []).lookup y.1).isSome = true) := by
    rintro ⟨n, v⟩ hy
    cases S.par n (List.of_mem_zip hy).1 with
    | inl q => exact Or.inl q
    | inr q => exact Or.inr ⟨q, PySem.W.cellsFrom_some _ _ _ (Or.inl q)⟩
  refine codeAny_call_function (hr.depth) (kin _ _ lk) rfl S.co S.gen rfl (PySem.W.codeRec_of kin hcd) (hb _ _ _ _ (wpAny_newFunctionEnv_cells S.kind knd ?_))
  intro env he s1 x
  subst he
  refine And.intro ((e0.mod.nolimit.keeps (h' := s.heap) fun b o e => And.left (e0.bs b o e)).keeps x.toInCall.keep) (codeAny_func ?_)
  obtain ⟨t, ht, hq⟩ := hbody A outer s H vs Q E hg (hr.deeper _) hsp
  refine wpAny_mono (ht.run [] s1 (L2.start N vs) H _ (inv_start S hr.hd e0 (len _ _ _ _ hsp) r x) hq) ?_ (fun _ _ z => z)
  intro fl s' hs
  cases fl with
  | brk => obtain ⟨_, _, _, z⟩ := hs; exact False.elim z
  | cont => obtain ⟨_, _, _, z⟩ := hs; exact False.elim z
  | next => obtain ⟨σ', H', J, z⟩ := hs; exact ⟨V.non, H', J.os, J.bare, J.base, J.hok, rfl, z⟩
  | ret u => obtain ⟨v, σ', H', J, rv, z⟩ := hs; exact ⟨v, H', J.os, J.bare, J.base, J.hok, rv, z⟩
theorem fn_den {fin : Nat → W → Mem → Option (Out W)} (fo : FinOk fin) {k : Nat} {f : Addr} {name qual : Str} {st : Stmt} {dV kV doc pm cdv ct oc : Value} {an od : Option Addr} {osl : Array (Option Value)} {N ps : List Str} {fb : Slots → Py Fl}
    (lk : K.lookup f = some ⟨oc, od, .func (PySem.W.fnOf name qual (defArgs st) (defBody st) (defScope st) dV kV doc pm an cdv ct), osl⟩) (hcd : PySem.W.codeIn K cdv qual = true) (S : FnScope N ps (defScope st)) (hb : BodyQ P w K mg base N S.nd qual st k fb) :
    FnG P w K mg base (k + 1) f (PySem.W.fnOf name qual (defArgs st) (defBody st) (defScope st) dV kV doc pm an cdv ct) ps (spD K ps.length (clo fin N.length fb)) := by
  refine fnG_of lk hcd S (fun vs H Q E h => ?_) (fun A outer s H vs Q E hg hr hsp => ?_)
  · obtain ⟨φ, ps', ws, M, o, _, r, hl, _, _⟩ := h
    rw [← r.length, hl]
  · obtain ⟨φ, ps', ws, M, o, RM, r, hl, he, PF⟩ := hsp
    obtain ⟨t, p, sm⟩ := hb f cdv A outer s H E hr hg
    refine ⟨t (fun cls d _ H => E cls d H), p () _ (takes_of rfl rfl rfl rfl), ?_⟩
    unfold clo at he
    have RS := rel_start (K := K) N r
    have ln := RM.len
    cases e : fb (slots0 N.length ws) M with
    | none => rw [e] at he; cases he
    | some o1 =>
      rw [e] at he
      cases o1 with
      | ex x M1 => cases he
      | ok fl M1 =>
        refine sm _ φ ps' H _ _ M RM RS fl M1 e _ fun φ' H' x RM' => ?_
        cases fl with
        | bk δ => cases he
        | ct δ => cases he
        | nx δ =>
          rw [← ln] at he
          exact fun σ _ => fo K φ ps' H φ' H' M1 (.d .non) .non o Q E x RM' to_non he PF
        | rt wv =>
          rw [← ln] at he
          exact fun v rv => fo K φ ps' H φ' H' M1 wv v o Q E x RM' rv he PF
        | xc xv δ =>
          have e2 := Option.some.inj he
          subst e2
          intro σ cls d _ rx
          refine PF φ H' cls d x.cut (by rw [← ln]; exact RM'.cut x) ⟨rx.1, fun hn => ?_⟩
          obtain ⟨dd, vs', q1, q2, q3, q4, q5⟩ := rx.2 hn
          obtain ⟨exs, e3, _⟩ := x.ex
          have mv : Mv (φ' ++ ps') H' (φ ++ ps') H' := by rw [e3]; exact Mv.less fun b z => List.mem_append_left _ z
          exact ⟨dd, vs', q1, q2, (mv dd _ q2 q3).2, q4, RpL.mv mv _ _ q5⟩
end

/-! ### calls -/
def pick {α : Type} (π : List Nat) (l : List α) : List α := π.filterMap fun i => l[i]?
theorem pick_vals : ∀ {π : List Nat} {vs : List V} {us : List Value}, Vals vs us → Vals (pick π vs) (pick π us)
  | [], vs, us, r => .nil
  | i :: π, vs, us, r => by
    have ih := pick_vals (π := π) r
    cases e : vs[i]? with
    | none =>
      have e2 := r.none_of e
      show Vals (List.filterMap _ (i :: π)) (List.filterMap _ (i :: π))
      rw [List.filterMap_cons_none e, List.filterMap_cons_none e2]
      exact ih
    | some v =>
      obtain ⟨u, e2, ru⟩ := r.get e
      show Vals (List.filterMap _ (i :: π)) (List.filterMap _ (i :: π))
      rw [List.filterMap_cons_some e, List.filterMap_cons_some e2]
      exact .cons ru ih
section
variable {K : PySem.W.Frag} {φ ps : List Addr} {H : Hp}
theorem RpWL.get : ∀ {ws : List W} {vs : List V} {i : Nat}, RpWL K φ ps H ws vs → (ws[i]? = none ∧ vs[i]? = none) ∨ ∃ w v, ws[i]? = some w ∧ vs[i]? = some v ∧ RpW K φ ps H w v
  | [], vs, i, r => by
    have e : vs = [] := r
    subst e
    exact .inl ⟨by simp, by simp⟩
  | w :: ws, vs, 0, r => by
    obtain ⟨v, r', e, h1, h2⟩ := r
    subst e
    exact .inr ⟨w, v, rfl, rfl, h1⟩
  | w :: ws, vs, i + 1, r => by
    obtain ⟨v, r', e, h1, h2⟩ := r
    subst e
    simpa using RpWL.get (i := i) h2
theorem pick_ws {ws : List W} {vs : List V} (r : RpWL K φ ps H ws vs) : ∀ (π : List Nat), RpWL K φ ps H (pick π ws) (pick π vs)
  | [] => rfl
  | i :: π => by
    have ih := pick_ws r π
    show RpWL K φ ps H (List.filterMap _ (i :: π)) (List.filterMap _ (i :: π))
    rcases r.get (i := i) with ⟨e1, e2⟩ | ⟨w, v, e1, e2, h⟩
    · rw [List.filterMap_cons_none e1, List.filterMap_cons_none e2]
      exact ih
    · rw [List.filterMap_cons_some e1, List.filterMap_cons_some e2]
      exact ⟨v, _, rfl, h, ih⟩
theorem RpWL.app : ∀ {ws zs : List W} {vs us : List V}, RpWL K φ ps H ws vs → RpWL K φ ps H zs us → RpWL K φ ps H (ws ++ zs) (vs ++ us)
  | [], zs, vs, us, r, q => by
    have e : vs = [] := r
    subst e
    exact q
  | w :: ws, zs, vs, us, r, q => by
    obtain ⟨v, r', e, h1, h2⟩ := r
    subst e
    exact ⟨v, _, rfl, h1, RpWL.app h2 q⟩
theorem ws_of : ∀ {ds : List D} {vs : List V}, RpL K (φ ++ ps) H ds vs → RpWL K φ ps H (ds.map W.d) vs
  | [], vs, r => by rw [RpL] at r; exact r
  | d :: ds, vs, r => by
    rw [RpL] at r
    obtain ⟨v, r', e, h1, h2⟩ := r
    exact ⟨v, r', e, h1, ws_of h2⟩
end
/-- what a caller knows of a def, called with n values and keywords ks; dd: the defaults that fill up; π: where the parameters come from -/
structure Callee (P : Program) (w : World) (K : PySem.W.Frag) (mg : Str → Option Value) (base : Heap) (x : Str) (j : Nat) (n : Nat) (ks : List Str) (π : List Nat) (dd : List D) (mf : List W → Py W) : Prop where
  ex : ∃ (f : Addr) (fd : FuncData) (ps : List Str) (ds : List Value) (dvs : List V), FnG P w K mg base j f fd ps (spD K ps.length mf) ∧ mg x = some (.ref f) ∧ PySem.W.keepIn K (.ref f) = true ∧
    (∀ (s : Shared) (us ws : List Value), K.In s.heap → us.length = n → ws.length = ks.length → BindsTo s fd ⟨us, ks.zip ws⟩ (ps.zip (pick π (us ++ (ws ++ ds))))) ∧ Vals dvs ds ∧ (∀ av H, RpL K av H dd dvs) ∧ π.length = ps.length
/-- the length is looked at -/
def lenIs {α β : Type} (n : Nat) (f : List α → Py β) : List α → Py β := fun ws M => if ws.length = n then f ws M else none
def fCall (n : Nat) (π : List Nat) (dd : List D) (mf : List W → Py W) (fs : Slots → Py (List W)) : Slots → Py W := fun δ => bnd (fs δ) (lenIs n fun ws => mf (pick π (ws ++ dd.map W.d)))
def fCallK (n m : Nat) (π : List Nat) (dd : List D) (mf : List W → Py W) (fs fk : Slots → Py (List W)) : Slots → Py W := fun δ => bnd (fs δ) (lenIs n fun ws => bnd (fk δ) (lenIs m fun zs => mf (pick π (ws ++ (zs ++ dd.map W.d)))))
section
variable {X : Cx} {pins : List (Addr × Obj)} {σ : L2.St} {H : Hp} {s : Shared} {Q : VK} {us : List Value} {vs : List V} {k : Nat} {f : Addr} {fd : FuncData} {ps : List Str} {sp : Sp} {Wx : WX}
theorem run_fnG (F : FnG X.prog X.w X.K X.mg X.base k f fd ps sp) (hr : Room k X.A) (hg : X.A.guards = some []) (tk : Takes X Wx) {args : Args} (hb : BindsTo s fd args (ps.zip us)) (I : L2.Inv X pins σ H s) (r : Vals vs us) (h : sp vs H Q (WE Wx σ)) :
    codeAny (model X.prog X.w) X.A (.call (.ref f) args) (callEnd (EP X pins σ Q) X.xe) s := by
  refine codeAny_mono (F.run X.A X.stack s H args us vs Q (WE Wx σ) hg hr I.env0 hb r h) ?_
  intro r s' hq
  cases r with
  | error e => exact passAt tk σ pins H s e s' I hq
  | ok fl =>
    cases fl with
    | ret u => exact I.after hq
    | next => exact False.elim hq
    | brk => exact False.elim hq
    | cont => exact False.elim hq
end
def QK (F : Fam) (kws : List Keyword) (f : Slots → Py (List W)) : Prop := ∃ t : WX → TA, (∀ i Wx, Takes (F.X i) Wx → PK (F.X i) kws (t Wx)) ∧ ∀ Wx, SemG F.K Wx (RpWL F.K) (t Wx) f
section
variable {F : Fam} {x : Str} {j n : Nat} {ks : List Str} {π : List Nat} {dd : List D} {mf : List W → Py W} {e : Expr} {es : List Expr} {kws : List Keyword} {fa : Slots → Py W} {fs fk : Slots → Py (List W)} {pos p : Pos}
theorem qk_nil : QK F [] fNil := ⟨fun _ => tNil, fun _ _ _ => pk_nil, fun _ φ ps H σ δ M RM RS o h Q P => by
  have e2 : Out.ok [] M = o := Option.some.inj h
  subst e2
  exact P φ H [] Xt.refl RM rfl⟩
theorem qk_cons {nm : Option Str} {kp : Pos} (ha : QE F e fa) (hs : QK F kws fs) : QK F (⟨nm, e, kp⟩ :: kws) (fCons fa fs) := by
  obtain ⟨ta, pa, sa⟩ := ha
  obtain ⟨tb, pb, sb⟩ := hs
  refine ⟨fun Wx => tCons (ta Wx) (tb Wx), fun i Wx tk => pk_cons (pa i Wx tk) (pb i Wx tk), fun Wx φ ps H σ δ M RM RS o h Q P => ?_⟩
  refine sem_bind (sa Wx) RM RS h P fun x M1 φ1 H1 v x1 RM1 RS1 rx h1 P1 => ?_
  refine sem_bind (sb Wx) RM1 RS1 h1 P1 fun y M2 φ2 H2 u x2 RM2 RS2 ry h2 P2 => ?_
  have e2 := Option.some.inj h2
  subst e2
  exact P2 φ2 H2 (v :: u) Xt.refl RM2 ⟨v, u, rfl, rx.xt x2, ry⟩
def tCallG (n m : Nat) (π : List Nat) (dvs : List V) (sp : Sp) (Wx : WX) (t u : TA) : TE := fun σ H Q => t σ H fun vs H1 => u σ H1 fun zs H2 => vs.length = n ∧ zs.length = m ∧ sp (pick π (vs ++ (zs ++ dvs))) H2 Q (WE Wx σ)
theorem sem_callK {K : PySem.W.Frag} {Wx : WX} {q m : Nat} {t u : TA} {dvs : List V} (hl : π.length = q) (hd : ∀ av H, RpL K av H dd dvs) (s : SemG K Wx (RpWL K) t fs) (s2 : SemG K Wx (RpWL K) u fk) (hin : ∀ i ∈ π, i < n + (m + dd.length)) :
    SemG K Wx (RpW K) (tCallG n m π dvs (spD K q mf) Wx t u) (fCallK n m π dd mf fs fk) := by
  intro φ ps H σ δ M RM RS o h Q P
  refine sem_bind s RM RS h P fun ws M1 φ1 H1 vs x1 RM1 RS1 rx h1 P1 => ?_
  unfold lenIs at h1
  split at h1
  · rename_i hn
    refine sem_bind s2 RM1 RS1 h1 P1 fun zs M2 φ2 H2 us x2 RM2 RS2 rz h2 P2 => ?_
    dsimp only at h2
    split at h2
    · rename_i hm
      refine ⟨by rw [← rx.length]; exact hn, by rw [← rz.length]; exact hm, φ2, ps, _, M2, o, RM2, pick_ws ((rx.xt x2).app (rz.app (ws_of (hd _ _)))) π, ?_, h2, ?_⟩
      · have all : ∀ {α : Type} (l : List α) (ρ : List Nat), (∀ i ∈ ρ, i < l.length) → (pick ρ l).length = ρ.length := by
          intro α l ρ
          induction ρ with
          | nil => intro _; rfl
          | cons i ρ ih =>
            intro hi
            have h0 := hi i List.mem_cons_self
            show (List.filterMap _ (i :: ρ)).length = _
            rw [List.filterMap_cons_some (List.getElem?_eq_getElem h0), List.length_cons, List.length_cons]
            exact congrArg Nat.succ (ih fun j hj => hi j (List.mem_cons_of_mem _ hj))
        rw [all _ _ fun i hi => by rw [List.length_append, List.length_append, List.length_map, hn, hm]; exact hin i hi, hl]
      · cases o with
        | ok w M2 => exact P2
        | ex y M2 => exact P2
    · cases h2
  · cases h1
theorem sem_call {K : PySem.W.Frag} {Wx : WX} {q : Nat} {t : TA} {dvs : List V} (hl : π.length = q) (hd : ∀ av H, RpL K av H dd dvs) (s : SemG K Wx (RpWL K) t fs) (hin : ∀ i ∈ π, i < n + dd.length) :
    SemG K Wx (RpW K) (tCallG n 0 π dvs (spD K q mf) Wx t tNil) (fCall n π dd mf fs) := by
  have e : fCall n π dd mf fs = fCallK n 0 π dd mf fs fNil := by
    funext δ M
    unfold fCall fCallK bnd fNil
    cases fs δ M with
    | none => rfl
    | some o1 => cases o1 <;> rfl
  rw [e]
  refine sem_callK hl hd s (fun φ ps H σ δ M RM RS o h Q P => ?_) (fun i hi => by have := hin i hi; omega)
  have e2 : Out.ok [] M = o := Option.some.inj h
  subst e2
  exact P φ H [] Xt.refl RM rfl
theorem q_callK (c : Callee F.prog F.w F.K F.mg F.base x j n ks π dd mf) (hj : j ≤ F.k) (ha : QA F (e :: es) fs) (hk' : QK F kws fk) (hin : ∀ i ∈ π, i < n + (ks.length + dd.length) := by decide) (hg : F.sc.names.lookup x = some .globalImplicit := by rfl) (hdb : (x == ("__debug__" : Str)) = false := by decide)
    (hall : ∀ env, (backToKw pos (keywordEach kws env)).all (·.1.isSome) = true := by intro _; rfl) (hks : ∀ env, (backToKw pos (keywordEach kws env)).filterMap (·.1) = ks := by intro _; rfl)
    (he : ∀ env, starEach (e :: es) env = (false, eval e env) :: starEach es env := by intro _; rfl)
    (hpl : ∀ env, ((backTo pos (starEach (e :: es) env)).any (·.1) || (backToKw pos (keywordEach kws env)).any (·.1.isNone)) = false := by intro _; rfl) : QE F (.Call (.Name x p) (e :: es) kws pos) (fCallK n ks.length π dd mf fs fk) := by
  obtain ⟨f, fd, ps, ds, dvs, G, hm, hk, hb, rd, hd, hl⟩ := c.ex
  obtain ⟨t, pa, sa⟩ := ha
  obtain ⟨u, pb, sb⟩ := hk'
  refine ⟨fun Wx => tCallG n ks.length π dvs (spD F.K ps.length mf) Wx (t Wx) (u Wx), fun i Wx tk => ?_, fun Wx => sem_callK hl hd (sa Wx) (sb Wx) hin⟩
  have G' : FnG (F.X i).prog (F.X i).w (F.X i).K (F.X i).mg (F.X i).base F.k f fd ps (spD F.K ps.length mf) := by
    rw [F.hp i, F.hw i, F.hK i, F.hm i, F.hb i]
    exact G.mono hj
  refine ⟨fun pins s σ H Q I h => ?_⟩
  refine wpAny_Call_Name_kw (ld_glob I (by show (F.X i).env.scope.names.lookup x = _; rw [F.hsc i]; exact hg) (by rw [F.hm i]; exact hm) ?_ hdb)
  refine PySem.W.callWith_KW (h₀ := (F.X i).base) I.ok.mod.kin (by rw [F.hK i]; exact hk) (hall _) (thn ((pa i Wx tk).run pos pins s σ H _ I h) fun us s1 ⟨vs, H1, I1, r, q⟩ => ?_) (hpl _) (he _)
  refine thn ((pb i Wx tk).run pos pins s1 σ H1 _ I1 q) fun ws s2 ⟨zs, H2, I2, rz, l1, l2, q2⟩ => ⟨I2.kIn, wpAny_call ?_⟩
  rw [hks]
  have kin : F.K.In s2.heap := by have := I2.kIn; rw [F.hK i] at this; exact this
  exact run_fnG G' (F.room i) (F.gd i) tk (hb _ us ws kin (by rw [← r.length]; exact l1) (by rw [← rz.length]; exact l2)) I2 (pick_vals (r.append (rz.append rd))) q2
theorem q_callK0 (c : Callee F.prog F.w F.K F.mg F.base x j 0 ks π dd mf) (hj : j ≤ F.k) (hk' : QK F kws fk) (hin : ∀ i ∈ π, i < 0 + (ks.length + dd.length) := by decide) (hg : F.sc.names.lookup x = some .globalImplicit := by rfl) (hdb : (x == ("__debug__" : Str)) = false := by decide)
    (hall : ∀ env, (backToKw pos (keywordEach kws env)).all (·.1.isSome) = true := by intro _; rfl) (hks : ∀ env, (backToKw pos (keywordEach kws env)).filterMap (·.1) = ks := by intro _; rfl)
    (hpl : ∀ env, ((backTo pos (starEach [] env)).any (·.1) || (backToKw pos (keywordEach kws env)).any (·.1.isNone)) = false := by intro _; rfl) : QE F (.Call (.Name x p) [] kws pos) (fCallK 0 ks.length π dd mf fNil fk) := by
  obtain ⟨f, fd, ps, ds, dvs, G, hm, hk, hb, rd, hd, hl⟩ := c.ex
  obtain ⟨u, pb, sb⟩ := hk'
  refine ⟨fun Wx => tCallG 0 ks.length π dvs (spD F.K ps.length mf) Wx tNil (u Wx), fun i Wx tk => ?_, fun Wx => sem_callK hl hd (fun φ ps H σ δ M RM RS o h Q P => ?_) (sb Wx) hin⟩
  · have G' : FnG (F.X i).prog (F.X i).w (F.X i).K (F.X i).mg (F.X i).base F.k f fd ps (spD F.K ps.length mf) := by
      rw [F.hp i, F.hw i, F.hK i, F.hm i, F.hb i]
      exact G.mono hj
    refine ⟨fun pins s σ H Q I h => ?_⟩
    have h' : (u Wx) σ H fun zs H2 => ([] : List V).length = 0 ∧ zs.length = ks.length ∧ spD F.K ps.length mf (pick π ([] ++ (zs ++ dvs))) H2 Q (WE Wx σ) := h
    refine wpAny_Call_Name_kw (ld_glob I (by show (F.X i).env.scope.names.lookup x = _; rw [F.hsc i]; exact hg) (by rw [F.hm i]; exact hm) ?_ hdb)
    refine PySem.W.callWith_KW0 (h₀ := (F.X i).base) I.ok.mod.kin (by rw [F.hK i]; exact hk) (hall _) (thn ((pb i Wx tk).run pos pins s σ H _ I h') fun ws s2 ⟨zs, H2, I2, rz, l1, l2, q2⟩ => ⟨I2.kIn, wpAny_call ?_⟩) (hpl _)
    rw [hks]
    have kin : F.K.In s2.heap := by have := I2.kIn; rw [F.hK i] at this; exact this
    exact run_fnG G' (F.room i) (F.gd i) tk (hb _ [] ws kin rfl (by rw [← rz.length]; exact l2)) I2 (pick_vals (rz.append rd)) q2
  · have e2 : Out.ok [] M = o := Option.some.inj h
    subst e2
    exact P φ H [] Xt.refl RM rfl
theorem q_call (c : Callee F.prog F.w F.K F.mg F.base x j n [] π dd mf) (hj : j ≤ F.k) (ha : QA F (e :: es) fs) (hin : ∀ i ∈ π, i < n + dd.length := by decide) (hg : F.sc.names.lookup x = some .globalImplicit := by rfl) (hdb : (x == ("__debug__" : Str)) = false := by decide)
    (he : ∀ env, starEach (e :: es) env = (false, eval e env) :: starEach es env := by intro _; rfl) (hpl : ∀ env, (backTo pos (starEach es env)).any (·.1) = false := by intro _; rfl) : QE F (.Call (.Name x p) (e :: es) [] pos) (fCall n π dd mf fs) := by
  obtain ⟨f, fd, ps, ds, dvs, G, hm, hk, hb, rd, hd, hl⟩ := c.ex
  obtain ⟨t, pa, sa⟩ := ha
  refine ⟨fun Wx => tCallG n 0 π dvs (spD F.K ps.length mf) Wx (t Wx) tNil, fun i Wx tk => ?_, fun Wx => sem_call hl hd (sa Wx) hin⟩
  have G' : FnG (F.X i).prog (F.X i).w (F.X i).K (F.X i).mg (F.X i).base F.k f fd ps (spD F.K ps.length mf) := by
    rw [F.hp i, F.hw i, F.hK i, F.hm i, F.hb i]
    exact G.mono hj
  refine ⟨fun pins s σ H Q I h => ?_⟩
  refine wpAny_Call_Name_kw (ld_glob I (by show (F.X i).env.scope.names.lookup x = _; rw [F.hsc i]; exact hg) (by rw [F.hm i]; exact hm) ?_ hdb)
  refine PySem.W.callWith_K (h₀ := (F.X i).base) I.ok.mod.kin (by rw [F.hK i]; exact hk) (thn ((pa i Wx tk).run pos pins s σ H _ I h) fun us s1 ⟨vs, H1, I1, r, l1, l2, q⟩ => ⟨I1.kIn, wpAny_call ?_⟩) (he _) (hpl _)
  have kin : F.K.In s1.heap := by have := I1.kIn; rw [F.hK i] at this; exact this
  exact run_fnG G' (F.room i) (F.gd i) tk (hb _ us [] kin (by rw [← r.length]; exact l1) rfl) I1 (pick_vals (r.append rd)) q
end
end DL
/-! DLe: what is walked; comprehensions. -/
namespace DL
open PySem PySem.Spec PyProof.Rows L2

section
variable {K : PySem.W.Frag} {φ φ' ps : List Addr} {H H' : Hp} {M : Mem} {σ : L2.St} {δ : Slots} {p : Addr} {o : HO}
/-- from here on p is to be avoided -/
theorem Xt.mvP (x : Xt φ H φ' H') (hp : H p = none) : Mv (φ ++ ps) H (φ' ++ (p :: ps)) H' := fun a u e n => by
  obtain ⟨h1, h2⟩ := x.mv ps a u e n
  refine ⟨h1, fun z => ?_⟩
  rcases List.mem_append.mp z with z | z
  · exact h2 (List.mem_append_left _ z)
  · rcases List.mem_cons.mp z with z | z
    · rw [z, hp] at e
      cases e
    · exact h2 (List.mem_append_right _ z)
theorem RelS.mv (m : Mv (φ ++ ps) H (φ' ++ ps) H') (sub : ∀ (n : Nat) (a : Addr), φ[n]? = some a → φ'[n]? = some a) (h : RelS K φ ps H σ δ) : RelS K φ' ps H' σ δ :=
  ⟨h.sl, fun i w e => by
    obtain ⟨v, h1, h2⟩ := h.at_ i w e
    refine ⟨v, h1, ?_⟩
    cases w with
    | d y => exact Rp.mv m y v h2
    | r n =>
      obtain ⟨a, h3, h4⟩ := h2
      exact ⟨a, sub n a h3, h4⟩⟩
theorem RelS.mvP {qs : List Addr} (m : Mv (φ ++ ps) H (φ' ++ qs) H') (sub : ∀ (n : Nat) (a : Addr), φ[n]? = some a → φ'[n]? = some a) (h : RelS K φ ps H σ δ) : RelS K φ' qs H' σ δ :=
  ⟨h.sl, fun i w e => by
    obtain ⟨v, h1, h2⟩ := h.at_ i w e
    refine ⟨v, h1, ?_⟩
    cases w with
    | d y => exact Rp.mv m y v h2
    | r n =>
      obtain ⟨a, h3, h4⟩ := h2
      exact ⟨a, sub n a h3, h4⟩⟩
theorem RelM.addP (R : RelM K φ ps H M) (h : H p = none) : RelM K φ (p :: ps) (upd H p o) M := by
  have f := R.free h
  refine ⟨R.len, R.nd, fun a ha z => ?_, fun a ha => ?_, fun n a l e1 e2 => ?_⟩
  · rcases List.mem_cons.mp z with z | z
    · exact f (List.mem_append_left _ (by rw [← z]; exact ha))
    · exact R.dj a ha z
  · rcases List.mem_cons.mp ha with z | z
    · rw [z, upd_same]
      exact fun q => by cases q
    · exact (Xt.new (φ := φ) h).al a (R.tr a z)
  · obtain ⟨vs, h1, h2⟩ := R.mem n a l e1 e2
    exact ⟨vs, by rw [upd_ne (ne_of_none h1 h)]; exact h1, RpL.mv ((Xt.new (φ := φ) h).mvP h) l vs h2⟩
/-- the list that is being made changes -/
theorem Mv.updP : Mv (φ ++ (p :: ps)) H (φ ++ (p :: ps)) (upd H p o) := fun a u e n => ⟨by
  rw [upd_ne fun z => n (by rw [z]; exact List.mem_append_right _ List.mem_cons_self)]
  exact e, n⟩
theorem RelM.updP (R : RelM K φ (p :: ps) H M) : RelM K φ (p :: ps) (upd H p o) M := by
  refine ⟨R.len, R.nd, R.dj, fun a ha => ?_, fun n a l e1 e2 => ?_⟩
  · by_cases z : a = p
    · rw [z, upd_same]
      exact fun q => by cases q
    · rw [upd_ne z]
      exact R.tr a ha
  · obtain ⟨vs, h1, h2⟩ := R.mem n a l e1 e2
    have ne : a ≠ p := fun z => R.dj a (List.mem_of_getElem? e1) (by rw [z]; exact List.mem_cons_self)
    exact ⟨vs, by rw [upd_ne ne]; exact h1, RpL.mv Mv.updP l vs h2⟩
theorem Mv.dropP : Mv (φ ++ (p :: ps)) H (φ ++ ps) H := fun a u e n => ⟨e, fun z => n (by
  rcases List.mem_append.mp z with z | z
  · exact List.mem_append_left _ z
  · exact List.mem_append_right _ (List.mem_cons_of_mem _ z))⟩
theorem RelM.dropP (R : RelM K φ (p :: ps) H M) : RelM K φ ps H M :=
  ⟨R.len, R.nd, fun a h z => R.dj a h (List.mem_cons_of_mem _ z), fun a h => R.tr a (List.mem_cons_of_mem _ h), fun n a l e1 e2 => by
    obtain ⟨vs, h1, h2⟩ := R.mem n a l e1 e2
    exact ⟨vs, h1, RpL.mv Mv.dropP l vs h2⟩⟩
theorem RelM.keepP (R : RelM K φ (p :: ps) H M) (x : Xt φ H φ' H') {u : HO} (h : H p = some u) : H' p = some u := x.keep p u h fun z => R.dj p z List.mem_cons_self
end

/-! ### slots forgotten -/
def wipeD (δ : Slots) : List Nat → Slots
  | [] => δ
  | v :: vs => (wipeD δ vs).set v none
theorem rel_wipe {K : PySem.W.Frag} {φ ps : List Addr} {H : Hp} {σ : L2.St} {δ : Slots} (h : RelS K φ ps H σ δ) : ∀ vs, RelS K φ ps H (wipe σ vs) (wipeD δ vs)
  | [] => h
  | v :: vs => (rel_wipe h vs).unset v none
theorem wipe_get (σ : L2.St) : ∀ (vs : List Nat) (j : Nat), (wipe σ vs)[j]? = if j ∈ vs then (σ[j]?).map (fun _ => none) else σ[j]?
  | [], j => by simp [wipe]
  | v :: vs, j => by
    unfold wipe
    have ih := wipe_get σ vs j
    by_cases hj : v = j
    · subst hj
      rw [if_pos List.mem_cons_self]
      by_cases hl : v < σ.length
      · rw [List.getElem?_set_self (by rw [wipe_length]; exact hl), List.getElem?_eq_getElem hl]
        rfl
      · rw [List.getElem?_eq_none (by rw [List.length_set, wipe_length]; omega), List.getElem?_eq_none (by omega)]
        rfl
    · rw [List.getElem?_set_ne hj, ih]
      by_cases hm : j ∈ vs
      · rw [if_pos hm, if_pos (List.mem_cons_of_mem _ hm)]
      · rw [if_neg hm, if_neg fun z => (List.mem_cons.mp z).elim (fun q => hj q.symm) hm]
theorem wipe_eq {σ σ' : L2.St} {own us : List Nat} (h : ∀ j, j ∉ us → σ'[j]? = (wipe σ own)[j]?) (hl : σ'.length = (wipe σ own).length) (hs : ∀ j ∈ us, j ∈ own) : wipe σ' own = wipe σ own := by
  refine List.ext_getElem? fun j => ?_
  rw [wipe_get, wipe_get]
  by_cases hm : j ∈ own
  · rw [if_pos hm, if_pos hm]
    rw [wipe_length] at hl
    by_cases hj : j < σ.length
    · rw [List.getElem?_eq_getElem (by omega), List.getElem?_eq_getElem hj]
      rfl
    · rw [List.getElem?_eq_none (by omega), List.getElem?_eq_none (by omega)]
  · rw [if_neg hm, if_neg hm, h j fun z => hm (hs j z), wipe_get, if_neg hm]

/-! ### what is walked -/
def iR1 (fs : Slots → Py (List W)) : Slots → Py Its0 := fun δ => bnd (fs δ) fun ws => fun M => match ws with
  | [.d (.int n)] => if n < 2 ^ 40 ∧ -(2 ^ 40) ≤ n then some (.ok ⟨(List.range n.toNat).map fun (i : Nat) => W.d (.int (i : Int)), none⟩ M) else none
  | _ => none
def iR2 (fs : Slots → Py (List W)) : Slots → Py Its0 := fun δ => bnd (fs δ) fun ws => fun M => match ws with
  | [.d (.int a), .d (.int b)] => if (-(2 ^ 40) ≤ a ∧ a < 2 ^ 40) ∧ -(2 ^ 40) ≤ b ∧ b < 2 ^ 40 then some (.ok ⟨(List.range (b - a).toNat).map fun (i : Nat) => W.d (.int (a + (i : Int))), none⟩ M) else none
  | _ => none
/-- a list, a tuple, a list that is changed (not while it is walked) -/
def iSeq (fa : Slots → Py W) : Slots → Py Its0 := fun δ => bnd (fa δ) fun w => fun M => match w with
  | .d (.lst l) => some (.ok ⟨l.map W.d, none⟩ M)
  | .r n => match M[n]? with
    | some l => some (.ok ⟨l.map W.d, some (n, l)⟩ M)
    | none => none
  | .d (.scr l) => some (.ok ⟨l.map fun i => W.d (.int i), none⟩ M)
  | _ => none
def iTupD (fa : Slots → Py W) : Slots → Py Its0 := fun δ => bnd (fa δ) fun w => fun M => match w with
  | .d (.tup l) => some (.ok ⟨l.map W.d, none⟩ M)
  | _ => none
theorem vint1 {K : PySem.W.Frag} {φ ps : List Addr} {H : Hp} {n : Int} {vs : List V} (r : RpWL K φ ps H [.d (.int n)] vs) : vs = [.int n] := by
  obtain ⟨v, r', e, h1, h2⟩ := r
  have h2' : r' = [] := h2
  rw [e, rw_int h1, h2']
theorem vint2 {K : PySem.W.Frag} {φ ps : List Addr} {H : Hp} {a b : Int} {vs : List V} (r : RpWL K φ ps H [.d (.int a), .d (.int b)] vs) : vs = [.int a, .int b] := by
  obtain ⟨v, r', e, h1, h2⟩ := r
  rw [e, rw_int h1, vint1 h2]
section
variable {F : Fam} {tg a b e : Expr} {fa : Slots → Py W} {fs : Slots → Py (List W)} {p pos : Pos}
theorem walks_rng {K : PySem.W.Frag} {ps φ1 : List Addr} {H1 : Hp} {lo : Int} {n : Nat} : Walks K ps φ1 H1 (Itr lo n) ⟨(List.range n).map fun (i : Nat) => W.d (.int (lo + (i : Int))), none⟩ := by
  intro φ2 H2 M2 qs x m RM _ i
  refine ⟨fun w hw => ?_, fun hi => ?_⟩
  · dsimp only at hw
    rw [List.getElem?_map] at hw
    by_cases hn : i < n
    · rw [List.getElem?_range hn] at hw
      have e := Option.some.inj hw
      subst e
      refine ⟨hn, fun v H3 hy => ?_⟩
      obtain ⟨e1, e2⟩ := hy
      subst e1 e2
      exact ⟨Xt.refl, RM, to_int⟩
    · rw [List.getElem?_eq_none (by rw [List.length_range]; omega)] at hw
      cases hw
  · have : n ≤ i := by simpa using hi
    exact this
theorem qi_range1 (ha : QA F [a] fs) (hm : F.mg ("range" : Str) = none) (hg : F.sc.names.lookup ("range" : Str) = some .globalImplicit := by rfl) (hs : ∀ env, starEach [a] env = [(false, eval a env)] := by intro _; rfl) : QI F tg (.Call (.Name "range" p) [a] [] pos) (iR1 fs) := by
  obtain ⟨t, pa, sa⟩ := ha
  refine ⟨fun Wx => iRng1 (t Wx), fun i Wx tk => pi_range1 (by show (F.X i).env.scope.names.lookup _ = _; rw [F.hsc i]; exact hg) (by rw [F.hm i]; exact hm) (pa i Wx tk) (hs _), fun Wx φ ps H σ δ M RM RS o h R P => ?_⟩
  refine sem_bind (sa Wx) RM RS h P fun ws M1 φ1 H1 vs x1 RM1 RS1 rx h1 P1 => ?_
  split at h1
  · rename_i n
    split at h1
    · rename_i hn
      have e2 := Option.some.inj h1
      subst e2
      refine ⟨n, vint1 rx, by omega, by omega, P1 φ1 H1 _ Xt.refl RM1 ?_⟩
      have := walks_rng (K := F.K) (ps := ps) (φ1 := φ1) (H1 := H1) (lo := 0) (n := n.toNat)
      have e3 : (fun i : Nat => W.d (.int ((0 : Int) + (i : Int)))) = fun i : Nat => W.d (.int (i : Int)) := by
        funext i
        rw [Int.zero_add]
      rw [e3] at this
      exact this
    · cases h1
  · cases h1
theorem qi_range2 (ha : QA F [a, b] fs) (hm : F.mg ("range" : Str) = none) (hg : F.sc.names.lookup ("range" : Str) = some .globalImplicit := by rfl) (hs : ∀ env, starEach [a, b] env = [(false, eval a env), (false, eval b env)] := by intro _; rfl) (hs2 : ∀ env, starEach [b] env = [(false, eval b env)] := by intro _; rfl) : QI F tg (.Call (.Name "range" p) [a, b] [] pos) (iR2 fs) := by
  obtain ⟨t, pa, sa⟩ := ha
  refine ⟨fun Wx => iRng2 (t Wx), fun i Wx tk => pi_range2 (by show (F.X i).env.scope.names.lookup _ = _; rw [F.hsc i]; exact hg) (by rw [F.hm i]; exact hm) (pa i Wx tk) (hs _) (hs2 _), fun Wx φ ps H σ δ M RM RS o h R P => ?_⟩
  refine sem_bind (sa Wx) RM RS h P fun ws M1 φ1 H1 vs x1 RM1 RS1 rx h1 P1 => ?_
  split at h1
  · rename_i n m
    split at h1
    · rename_i hn
      have e2 := Option.some.inj h1
      subst e2
      exact ⟨n, m, vint2 rx, ⟨by omega, by omega, by omega, by omega⟩, P1 φ1 H1 _ Xt.refl RM1 walks_rng⟩
    · cases h1
  · cases h1
theorem walks_list {K : PySem.W.Frag} {ps φ1 : List Addr} {H1 : Hp} {ad : Addr} {vs : List V} {l : List D} {g : Option (Nat × List D)} (st : ∀ φ2 H2 M2 qs, Xt φ1 H1 φ2 H2 → Mv (φ1 ++ ps) H1 (φ2 ++ qs) H2 → RelM K φ2 qs H2 M2 → gdOk g M2 → ∃ us, SqL K H2 ad us ∧ RpL K (φ2 ++ qs) H2 l us) :
    Walks K ps φ1 H1 (Itl K ad) ⟨l.map W.d, g⟩ := by
  intro φ2 H2 M2 qs x m RM hg i
  obtain ⟨us, hs, hr⟩ := st φ2 H2 M2 qs x m RM hg
  refine ⟨fun w hw => ?_, fun hi => ?_⟩
  · dsimp only at hw
    rw [List.getElem?_map] at hw
    cases e : l[i]? with
    | none => rw [e] at hw; cases hw
    | some y =>
      rw [e] at hw
      have e2 := Option.some.inj hw
      subst e2
      obtain ⟨v, h1, h2⟩ := hr.get e
      refine ⟨⟨us, v, hs, h1⟩, fun v' H3 hy => ?_⟩
      obtain ⟨e3, e4⟩ := hy
      subst e3
      have e5 := e4 us hs
      rw [h1] at e5
      have e6 := Option.some.inj e5
      subst e6
      exact ⟨Xt.refl, RM, h2⟩
  · refine ⟨us, hs, ?_⟩
    rw [← hr.length]
    simpa using hi
theorem qi_seq (ha : QE F e fa) : QI F tg e (iSeq fa) := by
  obtain ⟨t, pa, sa⟩ := ha
  refine ⟨fun Wx => iList F.K (t Wx), fun i Wx tk => by have := pi_list (tg := tg) (pa i Wx tk); rw [F.hK i] at this; exact this, fun Wx φ ps H σ δ M RM RS o h R P => ?_⟩
  refine sem_bind (sa Wx) RM RS h P fun w M1 φ1 H1 v x1 RM1 RS1 rx h1 P1 => ?_
  split at h1
  · rename_i l
    have e2 := Option.some.inj h1
    subst e2
    have rx' : Rp F.K (φ1 ++ ps) H1 (.lst l) v := rx
    rw [Rp] at rx'
    obtain ⟨ad, vs, e3, h2, h3, h4⟩ := rx'
    refine ⟨ad, e3, ⟨vs, SqL.of h2⟩, P1 φ1 H1 _ Xt.refl RM1 (walks_list (vs := vs) fun φ2 H2 M2 qs x m RM2 _ => ?_)⟩
    exact ⟨vs, SqL.of (m ad _ h2 h3).1, RpL.mv m _ _ h4⟩
  · rename_i n
    split at h1
    · rename_i l hl
      have e2 := Option.some.inj h1
      subst e2
      obtain ⟨ad, e3, e4⟩ := (show ∃ a, φ1[n]? = some a ∧ v = .ref a from rx)
      obtain ⟨vs, h2, h3⟩ := RM1.mem n ad l e3 hl
      refine ⟨ad, e4, ⟨vs, SqL.of h2⟩, P1 φ1 H1 _ Xt.refl RM1 (walks_list (vs := vs) fun φ2 H2 M2 qs x m RM2 hg => ?_)⟩
      obtain ⟨us, h5, h6⟩ := RM2.mem n ad l (x.get e3) hg
      exact ⟨us, SqL.of h5, h6⟩
    · cases h1
  · rename_i l
    have e2 := Option.some.inj h1
    subst e2
    have rx' : Rp F.K (φ1 ++ ps) H1 (.scr l) v := rx
    rw [Rp] at rx'
    obtain ⟨ad, e3, h2⟩ := rx'
    have allI : ∀ (av : List Addr) (H : Hp) (l : List Int), RpL F.K av H (l.map D.int) (l.map V.int) := by
      intro av H l
      induction l with
      | nil => exact RpL.nil
      | cons i l ih => exact RpL.cons (by rw [Rp]) ih
    have sq : ∀ {φ2 qs : List Addr} {H2 : Hp}, Mv (φ1 ++ ps) H1 (φ2 ++ qs) H2 → SqL F.K H2 ad (l.map V.int) := fun {φ2 qs H2} m => by
      rcases h2 with ⟨o, h2, h3⟩ | h2
      · exact .inl (.inr ⟨o, (m ad _ h2 h3).1⟩)
      · rcases h2 with (h | ⟨o, h⟩) | h
        · cases h
        · cases h
        · exact .inr h
    refine ⟨ad, e3, ⟨_, sq (φ2 := φ1) (qs := ps) fun a o e n => ⟨e, n⟩⟩, P1 φ1 H1 _ Xt.refl RM1 ?_⟩
    have := walks_list (K := F.K) (ps := ps) (φ1 := φ1) (H1 := H1) (ad := ad) (vs := []) (l := l.map D.int) (g := none) fun φ2 H2 M2 qs x m RM2 hg => ⟨_, sq m, allI _ _ l⟩
    rw [List.map_map] at this
    exact this
  · cases h1
theorem qi_tup (ha : QE F e fa) : QI F tg e (iTupD fa) := by
  obtain ⟨t, pa, sa⟩ := ha
  refine ⟨fun Wx => iTup F.K (t Wx), fun i Wx tk => by have := pi_tup (tg := tg) (pa i Wx tk); rw [F.hK i] at this; exact this, fun Wx φ ps H σ δ M RM RS o h R P => ?_⟩
  refine sem_bind (sa Wx) RM RS h P fun w M1 φ1 H1 v x1 RM1 RS1 rx h1 P1 => ?_
  split at h1
  · rename_i l
    have e2 := Option.some.inj h1
    subst e2
    have rx' : Rp F.K (φ1 ++ ps) H1 (.tup l) v := rx
    rw [Rp] at rx'
    obtain ⟨ad, vs, e3, h2, h4⟩ := rx'
    refine ⟨ad, e3, ⟨vs, h2.sq⟩, P1 φ1 H1 _ Xt.refl RM1 fun φ2 H2 M2 qs x m RM2 _ i => ?_⟩
    have sq2 : SqT F.K H2 ad vs := by
      rcases h2 with ⟨q, n⟩ | q
      · exact .inl (m.rd q n).1
      · rcases q with (h | ⟨o, h⟩) | h
        · cases h
        · cases h
        · exact .inr h
    have hr := RpL.mv m _ _ h4
    refine ⟨fun w hw => ?_, fun hi => ?_⟩
    · dsimp only at hw
      rw [List.getElem?_map] at hw
      cases e : l[i]? with
      | none => rw [e] at hw; cases hw
      | some y =>
        rw [e] at hw
        have e2 := Option.some.inj hw
        subst e2
        obtain ⟨v, h1, h2⟩ := hr.get e
        refine ⟨⟨vs, v, sq2, h1⟩, fun v' H3 hy => ?_⟩
        obtain ⟨e3, e4⟩ := hy
        subst e3
        have e5 := e4 vs sq2
        rw [h1] at e5
        have e6 := Option.some.inj e5
        subst e6
        exact ⟨Xt.refl, RM2, h2⟩
    · refine ⟨vs, sq2, ?_⟩
      rw [← hr.length]
      simpa using hi
  · cases h1
end

/-! ### comprehensions -/
/-- the block's scope: what is a cell of the def is one here -/
def compSc (up scope : Scope) : Scope := { scope with names := scope.names.map fun (n, k) => if (k == .free && up.kind == .function && up.names.lookup n == some .cell) then (n, .cell) else (n, k) }
def Fam.comp (F : Fam) (scope : Scope) : Fam where
  ι := F.ι × Shared × Hp × Addr × List (Str × Addr) × List Addr
  X := fun q => (F.X q.1).blk q.2.1 q.2.2.1 scope (compEnvC scope q.2.2.2.2.1 q.2.2.2.1 (F.X q.1).env) q.2.2.2.2.2
  K := F.K
  mg := F.mg
  N := F.N
  sc := compSc F.sc scope
  k := F.k
  prog := F.prog
  w := F.w
  base := F.base
  hK := fun q => F.hK q.1
  hm := fun q => F.hm q.1
  hN := fun q => F.hN q.1
  hsc := fun q => by
    show relabel scope (F.X q.1).env = _
    unfold relabel compSc Env.kindOf
    rw [F.hsc q.1]
  hp := fun q => F.hp q.1
  hw := fun q => F.hw q.1
  hb := fun q => F.hb q.1
  calm := fun q => F.calm q.1
  gd := fun q => F.gd q.1
  room := fun q => F.room q.1
  own := fun x => scope.names.lookup x == some NameKind.cell
  fn := fun _ _ h => h
  nd := F.nd
open Classical in
noncomputable def compL (gd : Option (Nat × List D)) (tg : W → Slots → Py Slots) (t : Slots → Py Bool) (e : Slots → Py W) (δ0 : Slots) : List W → Py (List D)
  | [] => fun M => if gdOk gd M then some (.ok [] M) else none
  | x :: xs => fun M => if gdOk gd M then (match tg x δ0 M with
      | some (.ok δ1 M1) => (match t δ1 M1 with
        | some (.ok true M2) => (match e δ1 M2 with
          | some (.ok (.d y) M3) => (match compL gd tg t e δ0 xs M3 with
            | some (.ok l M4) => some (.ok (y :: l) M4)
            | _ => none)
          | _ => none)
        | some (.ok false M2) => compL gd tg t e δ0 xs M2
        | _ => none)
      | _ => none) else none
noncomputable def fComp (fi : Slots → Py Its0) (tg : W → Slots → Py Slots) (t : Slots → Py Bool) (e : Slots → Py W) (own : List Nat) : Slots → Py W := fun δ => bnd (fi δ) fun it => fun M =>
  if it.items.length ≤ 1000000 then (match compL it.gd tg t e (wipeD δ own) it.items M with
    | some (.ok l M') => some (.ok (.d (.lst l)) M')
    | _ => none) else none
noncomputable def fCompR (fi : Slots → Py Its0) (tg : W → Slots → Py Slots) (t : Slots → Py Bool) (e : Slots → Py W) (own : List Nat) : Slots → Py W := fun δ => bnd (fi δ) fun it => fun M =>
  if it.items.length ≤ 1000000 then (match compL it.gd tg t e (wipeD δ own) it.items M with
    | some (.ok l M') => some (.ok (.r M'.length) (M' ++ [l]))
    | _ => none) else none
def fYes : Slots → Py Bool := fun _ => ret true
def QTs (F : Fam) (ifs : List Expr) (f : Slots → Py Bool) : Prop := ∃ t : WX → TT, (∀ i Wx, Takes (F.X i) Wx → PTs (F.X i) ifs (t Wx)) ∧ ∀ Wx, SemG F.K Wx RB (t Wx) f
theorem qts_nil {F : Fam} : QTs F [] fYes := ⟨fun _ => tYes, fun _ _ _ => pts_nil, fun _ φ ps H σ δ M RM RS o h Q P => by
  have e2 : Out.ok true M = o := Option.some.inj h
  subst e2
  exact P φ H true Xt.refl RM rfl⟩
theorem qts_one {F : Fam} {c : Expr} {f : Slots → Py Bool} (h : QT F c f) : QTs F [c] f := by
  obtain ⟨t, p, s⟩ := h
  exact ⟨t, fun i Wx tk => pts_one (p i Wx tk), s⟩
abbrev W0 : WX := fun _ _ _ _ => False
section
variable {K : PySem.W.Frag} {φ1 ps : List Addr} {H1 : Hp} {σ : L2.St} {δ : Slots}
/-- the list made, from the first item on -/
theorem sem_comp {J : It} {it : Its0} {g : TG} {tt : TT} {te : TE} {tg : W → Slots → Py Slots} {t : Slots → Py Bool} {e : Slots → Py W} {own us : List Nat} {M1 M' : Mem} {l : List D} (wk : Walks K ps φ1 H1 J it) (sg : SemTg K g tg us) (hus : ∀ j ∈ us, j ∈ own)
    (st : SemG K W0 RB tt t) (se : SemG K W0 (RpW K) te e) (RM1 : RelM K φ1 ps H1 M1) (RS1 : RelS K φ1 ps H1 σ δ) (hl : it.items.length ≤ 1000000) (h : compL it.gd tg t e (wipeD δ own) it.items M1 = some (.ok l M')) {Q : VK} {Dl : Addr} (hD : H1 Dl = none)
    (fin : ∀ φ2 H2 vs, Xt φ1 H1 φ2 H2 → RelM K φ2 (Dl :: ps) H2 M' → H2 Dl = some (.lst vs) → RpL K (φ2 ++ (Dl :: ps)) H2 l vs → Q (.ref Dl) H2) :
    ∃ W : Nat → Nat → Hp → Prop, (∃ m, W 0 m (upd H1 Dl (.lst []))) ∧ ∀ i m H, W i m H →
      (J.stop i H ∧ Q (.ref Dl) H) ∨ (J.go i H ∧ ∃ Nx : Hp → Prop, (∀ H', Nx H' → ∃ m', m' < m ∧ W (i + 1) m' H') ∧ ∀ x H', J.yld i H x H' → g x (wipe σ own) H' fun σ2 H2 => wipe σ2 own = wipe σ own ∧ tt σ2 H2 fun b H3 =>
        if b = true then te σ2 H3 fun y H4 => ∃ acc, H4 Dl = some (.lst acc) ∧ acc.length < sizeLine ∧ Nx (upd H4 Dl (.lst (acc ++ [y]))) else Nx H3) := by
  have x0 : Xt φ1 H1 φ1 (upd H1 Dl (.lst [])) := Xt.new hD
  refine ⟨fun i m H2 => ∃ φ2 M2 vs ds rest, Xt φ1 H1 φ2 H2 ∧ RelM K φ2 (Dl :: ps) H2 M2 ∧ H2 Dl = some (.lst vs) ∧ RpL K (φ2 ++ (Dl :: ps)) H2 ds vs ∧ vs.length ≤ i ∧ m = it.items.length - i ∧ i ≤ it.items.length ∧
      compL it.gd tg t e (wipeD δ own) (it.items.drop i) M2 = some (.ok rest M') ∧ ds ++ rest = l,
    ⟨it.items.length, φ1, M1, [], [], l, x0, RM1.addP hD, upd_same, RpL.nil, Nat.zero_le _, by simp, Nat.zero_le _, h, rfl⟩, ?_⟩
  rintro i m H2 ⟨φ2, M2, vs, ds, rest, x2, RM2, hv, hr, hvi, rfl, hi, h2, hdr⟩
  have mv2 : Mv (φ1 ++ ps) H1 (φ2 ++ (Dl :: ps)) H2 := x2.mvP hD
  have RS2 : RelS K φ2 (Dl :: ps) H2 (wipe σ own) (wipeD δ own) := rel_wipe (RS1.mvP mv2 fun n a z => x2.get z) own
  by_cases hlt : i < it.items.length
  · refine .inr ?_
    rw [List.drop_eq_getElem_cons hlt] at h2
    unfold compL at h2
    split at h2
    · rename_i hgd
      have ex : it.items[i]? = some it.items[i] := List.getElem?_eq_getElem hlt
      obtain ⟨go, yl⟩ := (wk φ2 H2 M2 (Dl :: ps) x2 mv2 RM2 hgd i).1 _ ex
      refine ⟨go, fun H3 => ∃ φ3 M3 vs ds rest, Xt φ1 H1 φ3 H3 ∧ RelM K φ3 (Dl :: ps) H3 M3 ∧ H3 Dl = some (.lst vs) ∧ RpL K (φ3 ++ (Dl :: ps)) H3 ds vs ∧ vs.length ≤ i + 1 ∧
          compL it.gd tg t e (wipeD δ own) (it.items.drop (i + 1)) M3 = some (.ok rest M') ∧ ds ++ rest = l, ?_, fun v H3 hy => ?_⟩
      · rintro H3 ⟨φ3, M3, vs3, ds3, rest3, a1, a2, a3, a4, a5, a6, a7⟩
        exact ⟨it.items.length - (i + 1), by omega, φ3, M3, vs3, ds3, rest3, a1, a2, a3, a4, a5, rfl, hlt, a6, a7⟩
      · obtain ⟨x3, RM3, rv⟩ := yl v H3 hy
        split at h2
        · rename_i δ4 M4 e4
          refine sg φ2 (Dl :: ps) H3 _ _ M2 it.items[i] v RM3 (RS2.xt x3) rv δ4 M4 e4 _ fun φ4 H4 σ4 x4 RM4 RS4 k4 l4 => ⟨wipe_eq k4 l4 hus, ?_⟩
          split at h2
          · rename_i M5 e5
            refine st φ4 (Dl :: ps) H4 σ4 δ4 M4 RM4 RS4 _ e5 _ fun φ5 H5 b x5 RM5 rb => ?_
            have rb' : true = b := rb
            subst rb'
            rw [if_pos rfl]
            split at h2
            · rename_i y M6 e6
              refine se φ5 (Dl :: ps) H5 σ4 δ4 M5 RM5 (RS4.xt x5) _ e6 _ fun φ6 H6 u x6 RM6 ru => ?_
              have xx : Xt φ2 H2 φ6 H6 := ((x3.trans x4).trans x5).trans x6
              have hv6 : H6 Dl = some (.lst vs) := RM2.keepP xx hv
              split at h2
              · rename_i l7 M7 e7
                have e8 := Option.some.inj h2
                injection e8 with e9 e10
                subst e9 e10
                refine ⟨vs, hv6, Nat.lt_of_lt_of_le (by omega : vs.length < 1000001) (by decide), φ6, M6, vs ++ [u], ds ++ [y], l7, ?_, RM6.updP, upd_same, ?_, by rw [List.length_append, List.length_singleton]; omega, e7, by rw [List.append_assoc]; exact hdr⟩
                · have y6 : Xt φ1 H1 φ6 H6 := x2.trans xx
                  exact ⟨y6.ex, fun a o ha n => by rw [upd_ne (ne_of_none ha hD)]; exact y6.keep a o ha n, fun a ha => by
                    by_cases z : a = Dl
                    · rw [z, upd_same]
                      exact fun q => by cases q
                    · rw [upd_ne z]
                      exact y6.al a ha⟩
                · have r6 : RpL K (φ6 ++ (Dl :: ps)) H6 (ds ++ [y]) (vs ++ [u]) := (RpL.mv (xx.mv (Dl :: ps)) _ _ hr).app (RpL.one ru)
                  exact RpL.mv Mv.updP _ _ r6
              · cases h2
            · cases h2
          · rename_i M5 e5
            refine st φ4 (Dl :: ps) H4 σ4 δ4 M4 RM4 RS4 _ e5 _ fun φ5 H5 b x5 RM5 rb => ?_
            have rb' : false = b := rb
            subst rb'
            rw [if_neg Bool.false_ne_true]
            have xx : Xt φ2 H2 φ5 H5 := (x3.trans x4).trans x5
            exact ⟨φ5, M5, vs, ds, rest, x2.trans xx, RM5, RM2.keepP xx hv, RpL.mv (xx.mv (Dl :: ps)) _ _ hr, by omega, h2, hdr⟩
          · cases h2
        · cases h2
    · cases h2
  · have ei : i = it.items.length := by omega
    subst ei
    rw [List.drop_length] at h2
    unfold compL at h2
    split at h2
    · rename_i hgd
      have e8 := Option.some.inj h2
      injection e8 with e9 e10
      subst e9 e10
      rw [List.append_nil] at hdr
      subst hdr
      exact .inl ⟨(wk φ2 H2 M2 (Dl :: ps) x2 mv2 RM2 hgd _).2 (Nat.le_refl _), fin φ2 H2 vs x2 RM2 hv hr⟩
    · cases h2
end
section
variable {F : Fam} {elt tg iter : Expr} {ifs : List Expr} {scope : Scope} {own : List (Str × Nat)} {us : List Nat} {fi : Slots → Py Its0} {g : W → Slots → Py Slots} {ft : Slots → Py Bool} {fe : Slots → Py W} {pos spos : Pos}
theorem q_lc_core (hi : QI F tg iter fi) (hg : QG (F.comp scope) tg g us) (hus : ∀ j ∈ us, j ∈ own.map (·.2)) (ht : QTs (F.comp scope) ifs ft) (he : QE (F.comp scope) elt fe) (ok : BlkOk F.N F.sc scope own) :
    ∃ (ti : WX → TI) (tg' : TG) (tt : TT) (te : TE), (∀ i Wx, Takes (F.X i) Wx → PI (F.X i) tg iter (ti Wx)) ∧ (∀ i, BlkOk (F.X i).N (F.X i).env.scope scope own) ∧
      (∀ i (s : Shared) (H : Hp) (C : Addr) (cl : List (Str × Addr)) (fp : List Addr), PG ((F.X i).blk s H scope (compEnvC scope cl C (F.X i).env) fp) tg tg') ∧
      (∀ i (s : Shared) (H : Hp) (C : Addr) (cl : List (Str × Addr)) (fp : List Addr), PTs ((F.X i).blk s H scope (compEnvC scope cl C (F.X i).env) fp) ifs tt) ∧
      (∀ i (s : Shared) (H : Hp) (C : Addr) (cl : List (Str × Addr)) (fp : List Addr), PE ((F.X i).blk s H scope (compEnvC scope cl C (F.X i).env) fp) elt te) ∧
      (∀ Wx, SemG F.K Wx (RpW F.K) (tLc (ti Wx) tg' tt te (own.map (·.2))) (fComp fi g ft fe (own.map (·.2)))) ∧ (∀ Wx, SemG F.K Wx (RpW F.K) (tLc (ti Wx) tg' tt te (own.map (·.2))) (fCompR fi g ft fe (own.map (·.2)))) := by
  obtain ⟨ti, pi, si⟩ := hi
  obtain ⟨tg', pg, sg⟩ := hg
  obtain ⟨tt, pt, st⟩ := ht
  obtain ⟨te, pe, se⟩ := he
  refine ⟨ti, tg', tt W0, te W0, pi, fun i => by rw [F.hN i, F.hsc i]; exact ok, fun i s H C cl fp => pg (i, s, H, C, cl, fp), fun i s H C cl fp => pt (i, s, H, C, cl, fp) W0 takes_no, fun i s H C cl fp => pe (i, s, H, C, cl, fp) W0 takes_no, fun Wx φ ps H σ δ M RM RS o h Q P => ?_, fun Wx φ ps H σ δ M RM RS o h Q P => ?_⟩
  · unfold fComp bnd at h
    cases e : fi δ M with
    | none => rw [e] at h; cases h
    | some o1 =>
      rw [e] at h
      refine si Wx φ ps H σ δ M RM RS o1 e _ ?_
      cases o1 with
      | ex x M1 =>
        have e2 := Option.some.inj h
        subst e2
        exact P
      | ok it M1 =>
        intro φ1 H1 J x1 RM1 wk Dl hD
        dsimp only at h
        split at h
        · rename_i hl
          split at h
          · rename_i l M2 e3
            have e2 := Option.some.inj h
            subst e2
            refine sem_comp wk sg hus (st W0) (se W0) RM1 (RS.xt x1) hl e3 hD fun φ2 H2 vs x2 RM2 hv hr => P φ2 H2 (.ref Dl) (x1.trans x2) RM2.dropP ?_
            show Rp F.K (φ2 ++ ps) H2 (.lst l) (.ref Dl)
            rw [Rp]
            refine ⟨Dl, vs, rfl, hv, fun z => ?_, RpL.mv Mv.dropP _ _ hr⟩
            rcases List.mem_append.mp z with z | z
            · exact RM2.dj Dl z List.mem_cons_self
            · exact RM1.tr Dl z hD
          · cases h
        · cases h
  · unfold fCompR bnd at h
    cases e : fi δ M with
    | none => rw [e] at h; cases h
    | some o1 =>
      rw [e] at h
      refine si Wx φ ps H σ δ M RM RS o1 e _ ?_
      cases o1 with
      | ex x M1 =>
        have e2 := Option.some.inj h
        subst e2
        exact P
      | ok it M1 =>
        intro φ1 H1 J x1 RM1 wk Dl hD
        dsimp only at h
        split at h
        · rename_i hl
          split at h
          · rename_i l M2 e3
            have e2 := Option.some.inj h
            subst e2
            refine sem_comp wk sg hus (st W0) (se W0) RM1 (RS.xt x1) hl e3 hD fun φ2 H2 vs x2 RM2 hv hr => ?_
            have nD2 : Dl ∉ φ2 := fun z => RM2.dj Dl z List.mem_cons_self
            have x3 : Xt φ H (φ2 ++ [Dl]) H2 := by
              obtain ⟨ex, e4, f4⟩ := (x1.trans x2).ex
              refine ⟨⟨ex ++ [Dl], by rw [e4, List.append_assoc], fun p hp => ?_⟩, (x1.trans x2).keep, (x1.trans x2).al⟩
              rcases List.mem_append.mp hp with z | z
              · exact f4 p z
              · rw [List.mem_singleton.mp z]
                cases q : H Dl with
                | none => rfl
                | some u => exact absurd hD (x1.al Dl (by rw [q]; exact fun z => by cases z))
            have m3 : Mv (φ2 ++ (Dl :: ps)) H2 ((φ2 ++ [Dl]) ++ ps) H2 := fun a u e n => ⟨e, by rw [List.append_assoc]; exact n⟩
            refine P (φ2 ++ [Dl]) H2 (.ref Dl) x3 ⟨?_, ?_, fun a ha => ?_, fun a ha => RM2.tr a (List.mem_cons_of_mem _ ha), fun n a m g1 g2 => ?_⟩ ⟨Dl, ?_, rfl⟩
            · rw [List.length_append, List.length_append, RM2.len]
              rfl
            · refine List.nodup_append.mpr ⟨RM2.nd, by simp, fun b hb c hc => ?_⟩
              rw [List.mem_singleton.mp hc]
              exact fun z => nD2 (by rw [← z]; exact hb)
            · rcases List.mem_append.mp ha with z | z
              · exact fun q => RM2.dj a z (List.mem_cons_of_mem _ q)
              · rw [List.mem_singleton.mp z]
                exact fun q => RM1.tr Dl q hD
            · by_cases hm : n < φ2.length
              · rw [List.getElem?_append_left hm] at g1
                rw [List.getElem?_append_left (by rw [← RM2.len]; exact hm)] at g2
                obtain ⟨us', k1, k2⟩ := RM2.mem n a m g1 g2
                exact ⟨us', k1, RpL.mv m3 _ _ k2⟩
              · have em : n = φ2.length := by
                  have := (List.getElem?_eq_some_iff.mp g1).1
                  rw [List.length_append, List.length_singleton] at this
                  omega
                subst em
                rw [List.getElem?_append_right (Nat.le_refl _), Nat.sub_self] at g1
                rw [RM2.len, List.getElem?_append_right (Nat.le_refl _), Nat.sub_self] at g2
                have i1 : Dl = a := Option.some.inj g1
                have i2 : l = m := Option.some.inj g2
                subst i1 i2
                exact ⟨vs, hv, RpL.mv m3 _ _ hr⟩
            · rw [← RM2.len, List.getElem?_append_right (Nat.le_refl _), Nat.sub_self]
              rfl
          · cases h
        · cases h
theorem q_lc (hi : QI F tg iter fi) (hg : QG (F.comp scope) tg g us) (ht : QTs (F.comp scope) ifs ft) (he : QE (F.comp scope) elt fe) (ok : blkC F.N F.sc scope own = true := by decide +kernel) (hus : ∀ j ∈ us, j ∈ own.map (·.2) := by decide) (hs : ∀ env x, foldedSetIterable iter env x = pure x := by intro _ _; rfl) : QE F (.ListComp elt [⟨tg, iter, ifs, 0⟩] scope pos) (fComp fi g ft fe (own.map (·.2))) := by
  obtain ⟨ti, tg', tt, te, p1, p2, p3, p4, p5, s1, _⟩ := q_lc_core hi hg hus ht he (blkOk_by ok)
  exact ⟨fun Wx => tLc (ti Wx) tg' tt te (own.map (·.2)), fun i Wx tk => pe_lc (F.calm i) (by rw [F.hN i]; exact F.nd) (p1 i Wx tk) (p2 i) (p3 i) (p4 i) (p5 i) (hs _), s1⟩
theorem q_lcR (hi : QI F tg iter fi) (hg : QG (F.comp scope) tg g us) (ht : QTs (F.comp scope) ifs ft) (he : QE (F.comp scope) elt fe) (ok : blkC F.N F.sc scope own = true := by decide +kernel) (hus : ∀ j ∈ us, j ∈ own.map (·.2) := by decide) (hs : ∀ env x, foldedSetIterable iter env x = pure x := by intro _ _; rfl) : QE F (.ListComp elt [⟨tg, iter, ifs, 0⟩] scope pos) (fCompR fi g ft fe (own.map (·.2))) := by
  obtain ⟨ti, tg', tt, te, p1, p2, p3, p4, p5, _, s1⟩ := q_lc_core hi hg hus ht he (blkOk_by ok)
  exact ⟨fun Wx => tLc (ti Wx) tg' tt te (own.map (·.2)), fun i Wx tk => pe_lc (F.calm i) (by rw [F.hN i]; exact F.nd) (p1 i Wx tk) (p2 i) (p3 i) (p4 i) (p5 i) (hs _), s1⟩
/-- name = [..], on one line, the name a local -/
theorem qs_lc (j : Nat) {y : Str} {py : Pos} (hi : QI F tg iter fi) (hg : QG (F.comp scope) tg g us) (ht : QTs (F.comp scope) ifs ft) (he : QE (F.comp scope) elt fe) (ok : blkC F.N F.sc scope own = true := by decide +kernel) (hus : ∀ j ∈ us, j ∈ own.map (·.2) := by decide)
    (hy : F.N[j]? = some y := by rfl) (hyl : F.sc.names.lookup y = some .local := by rfl) (hsw : ∀ i, swapsWith (.ListComp elt [⟨tg, iter, ifs, 0⟩] scope pos) (some (.Name y py)) spos.line (F.X i).env = pure true := by exact fun _ => sw_true rfl rfl rfl (by decide +kernel)) (hs : ∀ env x, foldedSetIterable iter env x = pure x := by intro _ _; rfl) :
    QS F (.Assign [.Name y py] (.ListComp elt [⟨tg, iter, ifs, 0⟩] scope pos) spos) (sAsg (fComp fi g ft fe (own.map (·.2))) (gN j)) := by
  obtain ⟨ti, tg', tt, te, p1, p2, p3, p4, p5, s1, _⟩ := q_lc_core hi hg hus ht he (blkOk_by ok)
  exact ⟨fun Wx => tAsg (tLc (ti Wx) tg' tt te (own.map (·.2))) (gName j), fun i Wx tk => ps_setLc (F.calm i) (by rw [F.hN i]; exact F.nd) (by rw [F.hN i]; exact hy) (by rw [F.hsc i]; exact hyl) (hsw i) (p1 i Wx tk) (p2 i) (p3 i) (p4 i) (p5 i) (hs _), fun Wx => sem_asg (s1 Wx) sem_name⟩
theorem qs_lcR (j : Nat) {y : Str} {py : Pos} (hi : QI F tg iter fi) (hg : QG (F.comp scope) tg g us) (ht : QTs (F.comp scope) ifs ft) (he : QE (F.comp scope) elt fe) (ok : blkC F.N F.sc scope own = true := by decide +kernel) (hus : ∀ j ∈ us, j ∈ own.map (·.2) := by decide)
    (hy : F.N[j]? = some y := by rfl) (hyl : F.sc.names.lookup y = some .local := by rfl) (hsw : ∀ i, swapsWith (.ListComp elt [⟨tg, iter, ifs, 0⟩] scope pos) (some (.Name y py)) spos.line (F.X i).env = pure true := by exact fun _ => sw_true rfl rfl rfl (by decide +kernel)) (hs : ∀ env x, foldedSetIterable iter env x = pure x := by intro _ _; rfl) :
    QS F (.Assign [.Name y py] (.ListComp elt [⟨tg, iter, ifs, 0⟩] scope pos) spos) (sAsg (fCompR fi g ft fe (own.map (·.2))) (gN j)) := by
  obtain ⟨ti, tg', tt, te, p1, p2, p3, p4, p5, _, s1⟩ := q_lc_core hi hg hus ht he (blkOk_by ok)
  exact ⟨fun Wx => tAsg (tLc (ti Wx) tg' tt te (own.map (·.2))) (gName j), fun i Wx tk => ps_setLc (F.calm i) (by rw [F.hN i]; exact F.nd) (by rw [F.hN i]; exact hy) (by rw [F.hsc i]; exact hyl) (hsw i) (p1 i Wx tk) (p2 i) (p3 i) (p4 i) (p5 i) (hs _), fun Wx => sem_asg (s1 Wx) sem_name⟩
end
end DL
/-! DLf: the operators and built-ins as plain functions. -/
namespace DL
open PySem PySem.Spec PyProof.Rows L2

/-! ### reading data -/
/-- a list that may be put behind another -/
def lstOf (M : Mem) : W → Option (List D)
  | .d (.lst l) => some l
  | .r n => M[n]?
  | _ => none
/-- a list that may be read -/
def sqOf (M : Mem) : W → Option (List D)
  | .d (.lst l) => some l
  | .d (.scr l) => some (l.map D.int)
  | .r n => M[n]?
  | _ => none
def ltOf (M : Mem) : W → Option (List D)
  | .d (.tup l) => some l
  | w => sqOf M w
def asInts : List D → Option (List Int)
  | [] => some []
  | .int i :: ds => (asInts ds).map (i :: ·)
  | _ :: _ => none
def bls : List D → Option (List Bool)
  | [] => some []
  | .bl i :: ds => (bls ds).map (i :: ·)
  | _ :: _ => none
section
variable {K : PySem.W.Frag} {φ ps : List Addr} {H : Hp} {M : Mem} {w : W} {v : V} {l : List D}
theorem rel_ints : ∀ {l : List D} {vs : List V} {ns : List Int} {av : List Addr}, RpL K av H l vs → asInts l = some ns → vs = ns.map V.int
  | [], vs, ns, av, r, e => by
    have e1 : [] = ns := Option.some.inj e
    subst e1
    rw [RpL] at r
    rw [r]
    rfl
  | d :: ds, vs, ns, av, r, e => by
    rw [RpL] at r
    obtain ⟨v, r', e1, h1, h2⟩ := r
    cases d with
    | int i =>
      cases q : asInts ds with
      | none => rw [asInts, q] at e; cases e
      | some ms =>
        rw [asInts, q] at e
        have e2 : i :: ms = ns := Option.some.inj e
        subst e2
        rw [e1, rp_int h1, rel_ints h2 q]
        rfl
    | _ => cases e
theorem rel_bls : ∀ {l : List D} {vs : List V} {ns : List Bool} {av : List Addr}, RpL K av H l vs → bls l = some ns → vs = ns.map V.bl
  | [], vs, ns, av, r, e => by
    have e1 : [] = ns := Option.some.inj e
    subst e1
    rw [RpL] at r
    rw [r]
    rfl
  | d :: ds, vs, ns, av, r, e => by
    rw [RpL] at r
    obtain ⟨v, r', e1, h1, h2⟩ := r
    cases d with
    | bl i =>
      cases q : bls ds with
      | none => rw [bls, q] at e; cases e
      | some ms =>
        rw [bls, q] at e
        have e2 : i :: ms = ns := Option.some.inj e
        subst e2
        rw [e1, rp_bl h1, rel_bls h2 q]
        rfl
    | _ => cases e
theorem ints_map : ∀ ns : List Int, asInts (ns.map D.int) = some ns
  | [] => rfl
  | n :: ns => by
    show (asInts (ns.map D.int)).map (n :: ·) = _
    rw [ints_map ns]
    rfl
theorem bls_map : ∀ ns : List Bool, bls (ns.map D.bl) = some ns
  | [] => rfl
  | n :: ns => by
    show (bls (ns.map D.bl)).map (n :: ·) = _
    rw [bls_map ns]
    rfl
theorem rp_ints {av : List Addr} : ∀ ns : List Int, RpL K av H (ns.map D.int) (ns.map V.int)
  | [] => RpL.nil
  | n :: ns => RpL.cons (by rw [Rp]) (rp_ints ns)
theorem rel_lst (RM : RelM K φ ps H M) (r : RpW K φ ps H w v) (e : lstOf M w = some l) : ∃ a vs, v = .ref a ∧ H a = some (.lst vs) ∧ RpL K (φ ++ ps) H l vs := by
  cases w with
  | r n =>
    obtain ⟨a, h1, h2⟩ := r
    obtain ⟨vs, h3, h4⟩ := RM.mem n a l h1 e
    exact ⟨a, vs, h2, h3, h4⟩
  | d x =>
    cases x with
    | lst m =>
      have e1 : m = l := Option.some.inj e
      subst e1
      have r' : Rp K (φ ++ ps) H (.lst m) v := r
      rw [Rp] at r'
      obtain ⟨a, vs, h1, h2, _, h3⟩ := r'
      exact ⟨a, vs, h1, h2, h3⟩
    | _ => cases e
theorem sqK {a : Addr} {xs : List V} (h : SqL K (fun _ => none) a xs) : SqL K H a xs := by
  rcases h with (h | ⟨o, h⟩) | h
  · cases h
  · cases h
  · exact .inr h
theorem rel_sq (RM : RelM K φ ps H M) (r : RpW K φ ps H w v) (e : sqOf M w = some l) : ∃ a vs, v = .ref a ∧ SqL K H a vs ∧ RpL K (φ ++ ps) H l vs := by
  cases w with
  | r n =>
    obtain ⟨a, h1, h2⟩ := r
    obtain ⟨vs, h3, h4⟩ := RM.mem n a l h1 e
    exact ⟨a, vs, h2, SqL.of h3, h4⟩
  | d x =>
    cases x with
    | lst m =>
      have e1 : m = l := Option.some.inj e
      subst e1
      have r' : Rp K (φ ++ ps) H (.lst m) v := r
      rw [Rp] at r'
      obtain ⟨a, vs, h1, h2, _, h3⟩ := r'
      exact ⟨a, vs, h1, SqL.of h2, h3⟩
    | scr m =>
      have e1 : m.map D.int = l := Option.some.inj e
      subst e1
      have r' : Rp K (φ ++ ps) H (.scr m) v := r
      rw [Rp] at r'
      obtain ⟨a, h1, h2⟩ := r'
      refine ⟨a, m.map V.int, h1, ?_, rp_ints m⟩
      rcases h2 with ⟨o, h2, _⟩ | h2
      · exact .inl (.inr ⟨o, h2⟩)
      · exact sqK h2
    | _ => cases e
theorem rel_tup {x : D} (r : RpW K φ ps H (.d (.tup l)) v) : ∃ a vs, v = .ref a ∧ SqT K H a vs ∧ RpL K (φ ++ ps) H l vs := by
  have r' : Rp K (φ ++ ps) H (.tup l) v := r
  rw [Rp] at r'
  obtain ⟨a, vs, h1, h2, h3⟩ := r'
  exact ⟨a, vs, h1, h2.sq, h3⟩
theorem rel_lt (RM : RelM K φ ps H M) (r : RpW K φ ps H w v) (e : ltOf M w = some l) : ∃ a vs, v = .ref a ∧ (SqL K H a vs ∨ SqT K H a vs) ∧ RpL K (φ ++ ps) H l vs := by
  have other : sqOf M w = some l → ∃ a vs, v = .ref a ∧ (SqL K H a vs ∨ SqT K H a vs) ∧ RpL K (φ ++ ps) H l vs := fun e => by
    obtain ⟨a, vs, h1, h2, h3⟩ := rel_sq RM r e
    exact ⟨a, vs, h1, .inl h2, h3⟩
  cases w with
  | r n => exact other e
  | d x =>
    cases x with
    | tup m =>
      have e1 : m = l := Option.some.inj e
      subst e1
      obtain ⟨a, vs, h1, h2, h3⟩ := rel_tup (x := .non) r
      exact ⟨a, vs, h1, .inr h2, h3⟩
    | _ => exact other e
/-- a new list, a new tuple -/
theorem new_lst (RM : RelM K φ ps H M) {p : Addr} {vs : List V} (h : H p = none) (r : RpL K (φ ++ ps) H l vs) : RpW K φ ps (upd H p (.lst vs)) (.d (.lst l)) (.ref p) := by
  show Rp K (φ ++ ps) _ (.lst l) _
  rw [Rp]
  exact ⟨p, vs, rfl, upd_same, RM.free h, RpL.mv ((Xt.new (φ := φ) h).mv ps) _ _ r⟩
theorem new_tup (RM : RelM K φ ps H M) {p : Addr} {vs : List V} (h : H p = none) (r : RpL K (φ ++ ps) H l vs) : RpW K φ ps (upd H p (.tup vs)) (.d (.tup l)) (.ref p) := by
  show Rp K (φ ++ ps) _ (.tup l) _
  rw [Rp]
  exact ⟨p, vs, rfl, .inl ⟨.inl upd_same, RM.free h⟩, RpL.mv ((Xt.new (φ := φ) h).mv ps) _ _ r⟩
end

/-! ### + -/
def gAdd (M : Mem) (x y : W) : Option W := match x, y with
  | .d (.int i), .d (.int j) => some (.d (.int (i + j)))
  | .d (.str s), .d (.str t) => if s.length + t.length ≤ 1000000 then some (.d (.str (s ++ t))) else none
  | .d (.tup a), .d (.tup b) => if a.length + b.length ≤ 1000000 then some (.d (.tup (a ++ b))) else none
  | x, y => match lstOf M x, lstOf M y with
    | some a, some b => if a.length + b.length ≤ 1000000 then some (.d (.lst (a ++ b))) else none
    | _, _ => none
def rAddAll (K : PySem.W.Frag) : R2 := fun x y H Q => (rI0 (fun i j => .int (i + j)) x y H Q ∨ (∃ i j, x = .str i ∧ y = .str j ∧ i.length + j.length ≤ sizeLine ∧ Q (.str (i ++ j)) H)) ∨ (rCatA K x y H Q ∨ rCat x y H Q)
theorem million {n : Nat} (h : n ≤ 1000000) : n ≤ sizeLine := Nat.le_trans h (by decide)
theorem sem_add {K : PySem.W.Frag} : Sem2 K (rAddAll K) gAdd := by
  intro φ ps H M x y v u w Q RM rx ry h P
  have lists : (∃ a b, lstOf M x = some a ∧ lstOf M y = some b ∧ a.length + b.length ≤ 1000000 ∧ w = .d (.lst (a ++ b))) → rAddAll K v u H Q := by
    rintro ⟨a, b, e1, e2, hl, rfl⟩
    obtain ⟨p, vs, h1, h2, h3⟩ := rel_lst RM rx e1
    obtain ⟨q, us, g1, g2, g3⟩ := rel_lst RM ry e2
    exact .inr (.inr ⟨p, q, vs, us, h1, g1, h2, g2, by rw [← h3.length, ← g3.length]; exact million hl, fun r hr => P _ _ (Xt.new hr) (RM.new hr) (new_lst RM hr (h3.app g3))⟩)
  have other : (match lstOf M x, lstOf M y with
      | some a, some b => if a.length + b.length ≤ 1000000 then some (W.d (.lst (a ++ b))) else none
      | _, _ => none) = some w → rAddAll K v u H Q := fun h => by
    split at h
    · rename_i a b e1 e2
      split at h
      · rename_i hl
        exact lists ⟨a, b, e1, e2, hl, (Option.some.inj h).symm⟩
      · cases h
    · cases h
  unfold gAdd at h
  split at h
  · have e := Option.some.inj h
    subst e
    exact .inl (.inl ⟨_, _, rw_int rx, rw_int ry, P H _ Xt.refl RM to_int⟩)
  · split at h
    · rename_i hl
      have e := Option.some.inj h
      subst e
      exact .inl (.inr ⟨_, _, rw_str rx, rw_str ry, million hl, P H _ Xt.refl RM to_str⟩)
    · cases h
  · rename_i a b
    split at h
    · rename_i hl
      have e := Option.some.inj h
      subst e
      obtain ⟨p, vs, h1, h2, h3⟩ := rel_tup (x := .non) rx
      obtain ⟨q, us, g1, g2, g3⟩ := rel_tup (x := .non) ry
      refine .inr (.inl ⟨p, q, vs, us, h1, g1, h2, g2, by rw [← h3.length, ← g3.length]; exact million hl, fun z => ?_, fun z1 z2 => ?_, fun z1 z2 r hr => P _ _ (Xt.new hr) (RM.new hr) (new_tup RM hr (h3.app g3))⟩)
      · have e1 : a = [] := List.eq_nil_of_length_eq_zero (by rw [h3.length, z]; rfl)
        subst e1
        exact P H _ Xt.refl RM (by rw [g1] at ry; exact ry)
      · have e1 : b = [] := List.eq_nil_of_length_eq_zero (by rw [g3.length, z2]; rfl)
        subst e1
        rw [List.append_nil] at P
        exact P H _ Xt.refl RM (by rw [h1] at rx; exact rx)
    · cases h
  · exact other h

/-! ### arithmetic of whole numbers -/
def gII (c : Int → Int → Prop) [∀ i j, Decidable (c i j)] (g : Int → Int → D) (_ : Mem) (x y : W) : Option W := match x, y with
  | .d (.int i), .d (.int j) => if c i j then some (.d (g i j)) else none
  | _, _ => none
theorem sem_II {K : PySem.W.Frag} {c : Int → Int → Prop} [∀ i j, Decidable (c i j)] {C : Int → Int → Prop} {g : Int → Int → D} {gv : Int → Int → V} (hc : ∀ i j, c i j → C i j) (hg : ∀ i j av H, Rp K av H (g i j) (gv i j)) : Sem2 K (rI C gv) (gII c g) := by
  intro φ ps H M x y v u w Q RM rx ry h P
  unfold gII at h
  split at h
  · split at h
    · rename_i i j hh
      have e := Option.some.inj h
      subst e
      exact ⟨i, j, rw_int rx, rw_int ry, hc i j hh, P H _ Xt.refl RM (hg i j _ _)⟩
    · cases h
  · cases h
theorem sem_II0 {K : PySem.W.Frag} {g : Int → Int → D} {gv : Int → Int → V} (hg : ∀ i j av H, Rp K av H (g i j) (gv i j)) : Sem2 K (rI0 gv) (gII (fun _ _ => True) g) := by
  intro φ ps H M x y v u w Q RM rx ry h P
  unfold gII at h
  split at h
  · split at h
    · rename_i i j hh
      have e := Option.some.inj h
      subst e
      exact ⟨i, j, rw_int rx, rw_int ry, P H _ Xt.refl RM (hg i j _ _)⟩
    · cases h
  · cases h
def cMul (i j : Int) : Prop := ((-(2 ^ 64) < i ∧ i < 2 ^ 64) ∨ (-(2 ^ 64) < j ∧ j < 2 ^ 64)) ∨ (i.natAbs < 2 ^ 5000 ∧ j.natAbs < 2 ^ 5000)
instance : ∀ i j, Decidable (cMul i j) := fun i j => by unfold cMul; infer_instance
def cDiv (i j : Int) : Prop := 0 < j ∧ j.natAbs < 2 ^ 5000
instance : ∀ i j, Decidable (cDiv i j) := fun i j => by unfold cDiv; infer_instance
def cMod (_ j : Int) : Prop := 0 < j
instance : ∀ i j, Decidable (cMod i j) := fun i j => by unfold cMod; infer_instance
def cPow (i j : Int) : Prop := 0 ≤ j ∧ j ≤ 1000000 ∧ i.natAbs < 2 ^ 64
instance : ∀ i j, Decidable (cPow i j) := fun i j => by unfold cPow; infer_instance
def cYes (_ _ : Int) : Prop := True
instance : ∀ i j, Decidable (cYes i j) := fun i j => by unfold cYes; infer_instance
abbrev gSub := gII cYes fun i j => .int (i - j)
abbrev gMul := gII cMul fun i j => .int (i * j)
abbrev gDiv := gII cDiv fun i j => .int (i / j)
abbrev gMod := gII cMod fun i j => .int (i % j)
abbrev gPow := gII cPow fun i j => .int (i ^ j.toNat)
abbrev gLt := gII cYes fun i j => .bl (decide (i < j))
abbrev gLe := gII cYes fun i j => .bl (decide (i ≤ j))
abbrev gGt := gII cYes fun i j => .bl (decide (j < i))
abbrev gGe := gII cYes fun i j => .bl (decide (j ≤ i))
section
variable {F : Fam} {a b c e : Expr} {fa fb fc : Slots → Py W} {pos : Pos}
theorem opR_II {X : Cx} {f : Value → Value → Sem Value} {gv : Int → Int → V} (h : OpR X f (rI0 gv)) : OpR X f (rI (fun _ _ => True) gv) := fun pins s σ H x y v u Q I rx ry ⟨i, j, e1, e2, _, q⟩ => h pins s σ H x y v u Q I rx ry ⟨i, j, e1, e2, q⟩
theorem q_add (ha : QE F a fa) (hb : QE F b fb) : QE F (.BinOp a .Add b pos) (f2 gAdd fa fb) :=
  q_op (r := rAddAll F.K) (fun i => .or (.or op_add op_add_str) (.or (by have := op_catA (X := F.X i); rw [F.hK i] at this; exact this) op_cat)) sem_add ha hb
theorem q_sub (ha : QE F a fa) (hb : QE F b fb) : QE F (.BinOp a .Sub b pos) (f2 gSub fa fb) := q_op (fun _ => opR_II op_sub) (sem_II (fun _ _ _ => trivial) fun _ _ _ _ => by rw [Rp]) ha hb
theorem q_mul (ha : QE F a fa) (hb : QE F b fb) : QE F (.BinOp a .Mult b pos) (f2 gMul fa fb) := by
  refine q_op (r := rI (fun i j => CMul i j ∨ CMulW i j) fun i j => .int (i * j)) (fun i => ?_) (sem_II (fun i j h => ?_) fun _ _ _ _ => by rw [Rp]) ha hb
  · intro pins s σ H x y v u Q I rx ry ⟨i, j, e1, e2, hc, q⟩
    rcases hc with hc | hc
    · exact op_mul pins s σ H x y v u Q I rx ry ⟨i, j, e1, e2, hc, q⟩
    · exact op_mulW pins s σ H x y v u Q I rx ry ⟨i, j, e1, e2, hc, q⟩
  · rcases h with h | ⟨h1, h2⟩
    · exact .inl h
    · exact .inr (wide_mul h1 h2 (by decide) (by decide) (by decide))
theorem q_div (ha : QE F a fa) (hb : QE F b fb) : QE F (.BinOp a .FloorDiv b pos) (f2 gDiv fa fb) := q_op (fun _ => op_fdivW) (sem_II (fun _ _ h => wide_div h.1 h.2 (by decide) (by decide)) fun _ _ _ _ => by rw [Rp]) ha hb
theorem q_mod (ha : QE F a fa) (hb : QE F b fb) : QE F (.BinOp a .Mod b pos) (f2 gMod fa fb) := q_op (fun _ => op_mod) (sem_II (fun _ _ h => h) fun _ _ _ _ => by rw [Rp]) ha hb
theorem q_pow (ha : QE F a fa) (hb : QE F b fb) : QE F (.BinOp a .Pow b pos) (f2 gPow fa fb) := q_op (fun _ => op_pow) (sem_II (fun _ _ h => h) fun _ _ _ _ => by rw [Rp]) ha hb
def gNeg (_ : Mem) (x : W) : Option W := match x with
  | .d (.int i) => some (.d (.int (-i)))
  | _ => none
theorem q_neg (ha : QE F a fa) : QE F (.UnaryOp .USub a pos) (f1 gNeg fa) := by
  refine q_un (fun _ => un_neg) ?_ ha
  intro φ ps H M x v w Q RM rx h P
  unfold gNeg at h
  split at h
  · have e := Option.some.inj h
    subst e
    exact ⟨_, rw_int rx, P H _ Xt.refl RM to_int⟩
  · cases h
theorem oLt {i : F.ι} : OpR (F.X i) (compareOp .Lt) (rI (fun _ _ => True) fun i j => .bl (decide (i < j))) := opR_II op_lt
theorem oLe {i : F.ι} : OpR (F.X i) (compareOp .LtE) (rI (fun _ _ => True) fun i j => .bl (decide (i ≤ j))) := opR_II op_le
theorem oGt {i : F.ι} : OpR (F.X i) (compareOp .Gt) (rI (fun _ _ => True) fun i j => .bl (decide (j < i))) := opR_II op_gt
theorem oGe {i : F.ι} : OpR (F.X i) (compareOp .GtE) (rI (fun _ _ => True) fun i j => .bl (decide (j ≤ i))) := opR_II op_ge
theorem sLt {K : PySem.W.Frag} : Sem2 K (rI (fun _ _ => True) fun i j => .bl (decide (i < j))) gLt := sem_II (fun _ _ _ => trivial) fun _ _ _ _ => by rw [Rp]
theorem sLe {K : PySem.W.Frag} : Sem2 K (rI (fun _ _ => True) fun i j => .bl (decide (i ≤ j))) gLe := sem_II (fun _ _ _ => trivial) fun _ _ _ _ => by rw [Rp]
theorem sGt {K : PySem.W.Frag} : Sem2 K (rI (fun _ _ => True) fun i j => .bl (decide (j < i))) gGt := sem_II (fun _ _ _ => trivial) fun _ _ _ _ => by rw [Rp]
theorem sGe {K : PySem.W.Frag} : Sem2 K (rI (fun _ _ => True) fun i j => .bl (decide (j ≤ i))) gGe := sem_II (fun _ _ _ => trivial) fun _ _ _ _ => by rw [Rp]

/-! ### == of data -/
def toP : D → PyData
  | .non => .none
  | .bl b => .bool b
  | .int i => .int i
  | .str s => .str s
  | .adr _ => .dict []
  | .scr l => .list (l.map PyData.int)
  | .tup l => .tuple (toPs l)
  | .lst l => .list (toPs l)
  | .dct _ _ => .dict []
  | .ins _ _ _ => .dict []
where toPs : List D → List PyData
  | [] => []
  | d :: ds => toP d :: toPs ds
def pl : D → Bool
  | .adr _ => false
  | .dct _ _ => false
  | .ins _ _ _ => false
  | .tup l => pls l
  | .lst l => pls l
  | _ => true
where pls : List D → Bool
  | [] => true
  | d :: ds => pl d && pls ds
mutual
theorem rp_dp {K : PySem.W.Frag} {av : List Addr} {H : Hp} : ∀ (d : D) (v : V), Rp K av H d v → pl d = true → Dp K H v (toP d)
  | .non, v, r, _ => by rw [Rp] at r; rw [r]; exact .non
  | .bl b, v, r, _ => by rw [Rp] at r; rw [r]; exact .bl b
  | .int b, v, r, _ => by rw [Rp] at r; rw [r]; exact .int b
  | .str b, v, r, _ => by rw [Rp] at r; rw [r]; exact .str b
  | .adr a, v, r, h => by cases h
  | .dct a b, v, r, h => by cases h
  | .ins a b c, v, r, h => by cases h
  | .scr l, v, r, _ => by
    rw [Rp] at r
    obtain ⟨a, e, h⟩ := r
    rw [e]
    have sq : SqL K H a (l.map V.int) := by
      rcases h with ⟨o, h, _⟩ | h
      · exact .inl (.inr ⟨o, h⟩)
      · exact sqK h
    have all : ∀ l : List Int, DpAll K H (l.map V.int) (l.map PyData.int) := fun l => by
      induction l with
      | nil => exact .nil
      | cons n l ih => exact .cons (.int n) ih
    exact .lst sq (all l)
  | .tup l, v, r, h => by
    rw [Rp] at r
    obtain ⟨a, vs, e, h1, h2⟩ := r
    rw [e]
    exact .tup h1.sq (rp_dps l vs h2 h)
  | .lst l, v, r, h => by
    rw [Rp] at r
    obtain ⟨a, vs, e, h1, _, h2⟩ := r
    rw [e]
    exact .lst (SqL.of h1) (rp_dps l vs h2 h)
theorem rp_dps {K : PySem.W.Frag} {av : List Addr} {H : Hp} : ∀ (ds : List D) (vs : List V), RpL K av H ds vs → pl.pls ds = true → DpAll K H vs (toP.toPs ds)
  | [], vs, r, _ => by rw [RpL] at r; rw [r]; exact .nil
  | d :: ds, vs, r, h => by
    rw [RpL] at r
    obtain ⟨v, r', e, h1, h2⟩ := r
    rw [e]
    have h' : pl d = true ∧ pl.pls ds = true := by
      have : (pl d && pl.pls ds) = true := h
      simpa using this
    exact .cons (rp_dp d v h1 h'.1) (rp_dps ds r' h2 h'.2)
end
/-- data of any value that may be compared; lists of the memory are read -/
def datOf (M : Mem) : W → Option D
  | .d x => some x
  | .r n => (M[n]?).map D.lst
def okD (x : D) : Bool := pl x && SeqAt.shaped (toP x)
def eqD (x y : D) : Bool := PyData.eqv (toP x) (toP y)
def gEqD (M : Mem) (x y : W) : Option W := match datOf M x, datOf M y with
  | some a, some b => if (okD a && okD b) = true then some (.d (.bl (eqD a b))) else none
  | _, _ => none
def gNeD (M : Mem) (x y : W) : Option W := match datOf M x, datOf M y with
  | some a, some b => if (okD a && okD b) = true then some (.d (.bl (!eqD a b))) else none
  | _, _ => none
def gEq (M : Mem) (x y : W) : Option W := match x, y with
  | .d (.str s), .d (.str t) => some (.d (.bl (decide (s = t))))
  | x, y => gEqD M x y
def gNe (M : Mem) (x y : W) : Option W := match x, y with
  | .d (.str s), .d (.str t) => some (.d (.bl (!decide (s = t))))
  | x, y => gNeD M x y
theorem rel_dat {K : PySem.W.Frag} {φ ps : List Addr} {H : Hp} {M : Mem} {w : W} {v : V} {x : D} (RM : RelM K φ ps H M) (r : RpW K φ ps H w v) (e : datOf M w = some x) (h : pl x = true) : Dp K H v (toP x) := by
  cases w with
  | d y =>
    have e1 : y = x := Option.some.inj e
    subst e1
    exact rp_dp y v r h
  | r n =>
    obtain ⟨a, h1, h2⟩ := r
    cases q : M[n]? with
    | none =>
      rw [datOf, q] at e
      cases e
    | some l =>
      rw [datOf, q] at e
      have e1 : D.lst l = x := Option.some.inj e
      subst e1
      obtain ⟨vs, h3, h4⟩ := RM.mem n a l h1 q
      rw [h2]
      exact .lst (SqL.of h3) (rp_dps l vs h4 h)
theorem okD_and {x : D} (h : okD x = true) : pl x = true ∧ SeqAt.shaped (toP x) = true := by
  unfold okD at h
  simpa using h
theorem sEqD {K : PySem.W.Frag} : Sem2 K (rEqD K) gEqD := by
  intro φ ps H M x y v u w Q RM rx ry h P
  unfold gEqD at h
  split at h
  · rename_i a b ea eb
    split at h
    · rename_i hh
      have e := Option.some.inj h
      subst e
      have hh' : okD a = true ∧ okD b = true := by simpa using hh
      have h1 := okD_and hh'.1
      have h2 := okD_and hh'.2
      exact ⟨toP a, toP b, rel_dat RM rx ea h1.1, rel_dat RM ry eb h2.1, h1.2, h2.2, P H _ Xt.refl RM to_bl⟩
    · cases h
  · cases h
theorem sNeD {K : PySem.W.Frag} : Sem2 K (rNeD K) gNeD := by
  intro φ ps H M x y v u w Q RM rx ry h P
  unfold gNeD at h
  split at h
  · rename_i a b ea eb
    split at h
    · rename_i hh
      have e := Option.some.inj h
      subst e
      have hh' : okD a = true ∧ okD b = true := by simpa using hh
      have h1 := okD_and hh'.1
      have h2 := okD_and hh'.2
      exact ⟨toP a, toP b, rel_dat RM rx ea h1.1, rel_dat RM ry eb h2.1, h1.2, h2.2, P H _ Xt.refl RM to_bl⟩
    · cases h
  · cases h
def rEqA (K : PySem.W.Frag) : R2 := fun x y H Q => rEqD K x y H Q ∨ rEq x y H Q
def rNeA (K : PySem.W.Frag) : R2 := fun x y H Q => rNeD K x y H Q ∨ rNe x y H Q
theorem str_iff {s t : Str} : decide (V.str s = V.str t) = decide (s = t) := by
  by_cases h : s = t
  · subst h
    simp
  · rw [decide_eq_false h, decide_eq_false fun z => h (by injection z)]
theorem sEq {K : PySem.W.Frag} : Sem2 K (rEqA K) gEq := by
  intro φ ps H M x y v u w Q RM rx ry h P
  unfold gEq at h
  split at h
  · have e := Option.some.inj h
    subst e
    rw [rw_str rx, rw_str ry]
    exact .inr ⟨rfl, by rw [str_iff]; exact P H _ Xt.refl RM to_bl⟩
  · exact .inl (sEqD φ ps H M _ _ v u w Q RM rx ry h P)
theorem sNe {K : PySem.W.Frag} : Sem2 K (rNeA K) gNe := by
  intro φ ps H M x y v u w Q RM rx ry h P
  unfold gNe at h
  split at h
  · have e := Option.some.inj h
    subst e
    rw [rw_str rx, rw_str ry]
    exact .inr ⟨rfl, by rw [str_iff]; exact P H _ Xt.refl RM to_bl⟩
  · exact .inl (sNeD φ ps H M _ _ v u w Q RM rx ry h P)
theorem units64 {i : F.ι} : (F.X i).A.units + 64 < cLine := by have := (F.room i).un; omega
theorem oEq {i : F.ι} : OpR (F.X i) (compareOp .Eq) (rEqA F.K) := .or (by have := op_eqD (X := F.X i) units64; rw [F.hK i] at this; exact this) op_eq
theorem oNe {i : F.ι} : OpR (F.X i) (compareOp .NotEq) (rNeA F.K) := .or (by have := op_neD (X := F.X i) units64; rw [F.hK i] at this; exact this) op_ne

/-! ### is None -/
def gIsN (_ : Mem) (x y : W) : Option W := match x, y with
  | .d d, .d .non => some (.d (.bl (match d with | .non => true | _ => false)))
  | _, _ => none
def gNotN (_ : Mem) (x y : W) : Option W := match x, y with
  | .d d, .d .non => some (.d (.bl (!(match d with | .non => true | _ => false))))
  | _, _ => none
theorem rp_isnon {K : PySem.W.Frag} {av : List Addr} {H : Hp} : ∀ {d : D} {v : V}, Rp K av H d v → decide (v = .non) = (match d with | .non => true | _ => false)
  | .non, v, r => by rw [Rp] at r; rw [r]; rfl
  | .bl b, v, r => by rw [Rp] at r; rw [r]; rfl
  | .int b, v, r => by rw [Rp] at r; rw [r]; rfl
  | .str b, v, r => by rw [Rp] at r; rw [r]; rfl
  | .adr a, v, r => by rw [Rp] at r; rw [r]; rfl
  | .scr l, v, r => by rw [Rp] at r; obtain ⟨a, e, _⟩ := r; rw [e]; rfl
  | .tup l, v, r => by rw [Rp] at r; obtain ⟨a, _, e, _⟩ := r; rw [e]; rfl
  | .lst l, v, r => by rw [Rp] at r; obtain ⟨a, _, e, _⟩ := r; rw [e]; rfl
  | .dct _ _, v, r => by rw [Rp] at r; obtain ⟨a, _, e, _⟩ := r; rw [e]; rfl
  | .ins _ _ _, v, r => by rw [Rp] at r; obtain ⟨a, _, _, e, _⟩ := r; rw [e]; rfl
theorem rw_non {K : PySem.W.Frag} {φ ps : List Addr} {H : Hp} {v : V} (h : RpW K φ ps H (.d .non) v) : v = .non := by
  have h' : Rp K (φ ++ ps) H .non v := h
  rw [Rp] at h'
  exact h'
theorem sIsN {K : PySem.W.Frag} : Sem2 K (fun x y H Q => y = .non ∧ Q (.bl (decide (x = .non))) H) gIsN := by
  intro φ ps H M x y v u w Q RM rx ry h P
  unfold gIsN at h
  split at h
  · rename_i d
    have e := Option.some.inj h
    subst e
    exact ⟨rw_non ry, P H _ Xt.refl RM (by rw [rp_isnon rx]; exact to_bl)⟩
  · cases h
theorem sNotN {K : PySem.W.Frag} : Sem2 K (fun x y H Q => y = .non ∧ Q (.bl (!decide (x = .non))) H) gNotN := by
  intro φ ps H M x y v u w Q RM rx ry h P
  unfold gNotN at h
  split at h
  · rename_i d
    have e := Option.some.inj h
    subst e
    exact ⟨rw_non ry, P H _ Xt.refl RM (by rw [rp_isnon rx]; exact to_bl)⟩
  · cases h
theorem oIsN {i : F.ι} : OpR (F.X i) (compareOp .Is) (fun x y H Q => y = .non ∧ Q (.bl (decide (x = .non))) H) := op_isN
theorem oNotN {i : F.ι} : OpR (F.X i) (compareOp .IsNot) (fun x y H Q => y = .non ∧ Q (.bl (!decide (x = .non))) H) := op_notN

/-! ### subscripts, slices -/
def gIx (M : Mem) (x y : W) : Option W := match y with
  | .d (.int i) => match x with
    | .d (.str s) => if s.length ≤ 1000000 then (atI s.cps.toList i).map fun c => .d (.str ⟨#[c]⟩) else none
    | x => match ltOf M x with
      | some l => (atI l i).map .d
      | none => none
  | _ => none
theorem ixN_eq {n m : Nat} (h : n = m) (i : Int) : ixN n i = ixN m i := by rw [h]
theorem at_rel {K : PySem.W.Frag} {av : List Addr} {H : Hp} {l : List D} {vs : List V} {i : Int} {d : D} (r : RpL K av H l vs) (h : atI l i = some d) : ∃ v, atI vs i = some v ∧ Rp K av H d v := by
  unfold atI at h ⊢
  rw [← r.length]
  cases e : ixN l.length i with
  | none => rw [e] at h; cases h
  | some j =>
    rw [e] at h
    exact r.get h
theorem sIx {K : PySem.W.Frag} : Sem2 K (rIx K) gIx := by
  intro φ ps H M x y v u w Q RM rx ry h P
  unfold gIx at h
  split at h
  · rename_i i
    have ey := rw_int ry
    have other : (match ltOf M x with | some l => (atI l i).map W.d | none => none) = some w → rIx K v u H Q := fun h => by
      split at h
      · rename_i l el
        obtain ⟨a, vs, h1, h2, h3⟩ := rel_lt RM rx el
        cases e : atI l i with
        | none => rw [e] at h; cases h
        | some d =>
          rw [e] at h
          have e2 := Option.some.inj h
          subst e2
          obtain ⟨z, h4, h5⟩ := at_rel h3 e
          rcases h2 with h2 | h2
          · exact .inl ⟨a, vs, i, z, h1, ey, h2, h4, P H z Xt.refl RM h5⟩
          · exact .inr (.inl ⟨a, vs, i, z, h1, ey, h2, h4, P H z Xt.refl RM h5⟩)
      · cases h
    split at h
    · rename_i s
      split at h
      · rename_i hl
        cases e : atI s.cps.toList i with
        | none => rw [e] at h; cases h
        | some c =>
          rw [e] at h
          have e2 := Option.some.inj h
          subst e2
          exact .inr (.inr ⟨s, i, c, rw_str rx, ey, million hl, e, P H _ Xt.refl RM to_str⟩)
      · cases h
    · exact other h
  · cases h
theorem q_idx (ha : QE F a fa) (hb : QE F b fb) (hx : PlainIx b := by exact fun _ _ => rfl) : QE F (.Subscript a b pos) (f2 gIx fa fb) := q_ix (r := rIx F.K) (fun i => by have := ix_seq (X := F.X i); rw [F.hK i] at this; exact this) sIx ha hb hx
end
/-- a bound of a slice -/
def QO (F : Fam) (e : Option Expr) (f : Slots → Py (Option Int)) : Prop := ∃ t : WX → TO, (∀ i Wx, Takes (F.X i) Wx → PO (F.X i) e (t Wx)) ∧ ∀ Wx, SemG F.K Wx (fun _ _ _ a b => a = b) (t Wx) f
def fNoO : Slots → Py (Option Int) := fun _ => ret none
def fO (fa : Slots → Py W) : Slots → Py (Option Int) := fun δ => bnd (fa δ) fun x => fun M => match x with
  | .d (.int i) => some (.ok (some i) M)
  | _ => none
def cut {α : Type} (l : List α) (lo hi : Option Int) : List α := (l.drop (HT.sIx l.length 0 lo)).take (HT.sIx l.length l.length hi - HT.sIx l.length 0 lo)
def gSl (M : Mem) (x : W) (lo hi : Option Int) : Option W := match x with
  | .d (.tup l) => some (.d (.tup (cut l lo hi)))
  | x => match sqOf M x with
    | some l => some (.d (.lst (cut l lo hi)))
    | none => none
def fSl (fa : Slots → Py W) (fl fh : Slots → Py (Option Int)) : Slots → Py W := fun δ => bnd (fa δ) fun x => bnd (fl δ) fun lo => bnd (fh δ) fun hi => fun M => match gSl M x lo hi with
  | some w => some (.ok w M)
  | none => none
section
variable {F : Fam} {a b c e : Expr} {lo hi : Option Expr} {fa fb fc : Slots → Py W} {fl fh : Slots → Py (Option Int)} {pos p2 : Pos}
theorem qo_none : QO F none fNoO := ⟨fun _ => tNoPart, fun _ _ _ => po_none, fun _ φ ps H σ δ M RM RS o h Q P => by
  have e2 : Out.ok none M = o := Option.some.inj h
  subst e2
  exact P φ H none Xt.refl RM rfl⟩
theorem qo_some (h : QE F e fa) : QO F (some e) (fO fa) := by
  obtain ⟨t, p, s⟩ := h
  refine ⟨fun Wx => tPart (t Wx), fun i Wx tk => po_some (p i Wx tk), fun Wx φ ps H σ δ M RM RS o h Q P => ?_⟩
  refine sem_bind (s Wx) RM RS h P fun x M1 φ1 H1 v x1 RM1 RS1 rx h1 P1 => ?_
  split at h1
  · rename_i i
    have e2 := Option.some.inj h1
    subst e2
    exact ⟨i, rw_int rx, P1 φ1 H1 _ Xt.refl RM1 rfl⟩
  · cases h1
theorem q_slice (ha : QE F e fa) (hl : QO F lo fl) (hh : QO F hi fh) : QE F (.Subscript e (.Slice lo hi none p2) pos) (fSl fa fl fh) := by
  obtain ⟨ta, pa, sa⟩ := ha
  obtain ⟨tl, pl', sl'⟩ := hl
  obtain ⟨th, ph, sh⟩ := hh
  refine ⟨fun Wx => tSl (fun x lo hi H Q => rSlL F.K x lo hi H Q ∨ rSlA F.K x lo hi H Q) (ta Wx) (tl Wx) (th Wx), fun i Wx tk => pe_slice (.or (by have := sl_list (X := F.X i); rw [F.hK i] at this; exact this) (by have := sl_tupA (X := F.X i); rw [F.hK i] at this; exact this)) (pa i Wx tk) (pl' i Wx tk) (ph i Wx tk), fun Wx φ ps H σ δ M RM RS o h Q P => ?_⟩
  refine sem_bind (sa Wx) RM RS h P fun x M1 φ1 H1 v x1 RM1 RS1 rx h1 P1 => ?_
  refine sem_bind (sl' Wx) RM1 RS1 h1 P1 fun l M2 φ2 H2 l' x2 RM2 RS2 el h2 P2 => ?_
  subst el
  refine sem_bind (sh Wx) RM2 RS2 h2 P2 fun k M3 φ3 H3 k' x3 RM3 RS3 ek h3 P3 => ?_
  subst ek
  have rx3 := (rx.xt x2).xt x3
  split at h3
  · rename_i w ew
    have e2 := Option.some.inj h3
    subst e2
    unfold gSl at ew
    split at ew
    · rename_i m
      have e3 := Option.some.inj ew
      subst e3
      obtain ⟨q, vs, h4, h5, h6⟩ := rel_tup (x := .non) rx3
      refine .inr ⟨q, vs, h4, h5, fun hw => ?_, fun hw r hr => ?_⟩
      · refine P3 φ3 H3 _ Xt.refl RM3 ?_
        have : cut m l k = m := by
          unfold cut
          rw [h6.length, hw.1, hw.2, List.drop_zero, Nat.sub_zero, ← h6.length, List.take_length]
        rw [this, ← h4]
        exact rx3
      · refine P3 φ3 _ _ (Xt.new hr) (RM3.new hr) (new_tup RM3 hr ?_)
        unfold cut cutV
        rw [← h6.length]
        exact (h6.drop _).take _
    · split at ew
      · rename_i m em
        have e3 := Option.some.inj ew
        subst e3
        obtain ⟨q, vs, h4, h5, h6⟩ := rel_sq RM3 rx3 em
        refine .inl ⟨q, vs, h4, h5, fun r hr => P3 φ3 _ _ (Xt.new hr) (RM3.new hr) (new_lst RM3 hr ?_)⟩
        unfold cut cutV
        rw [← h6.length]
        exact (h6.drop _).take _
      · cases ew
  · cases h3
end
end DL
/-! DLg: built-in functions as plain functions. -/
namespace DL
open PySem PySem.Spec PyProof.Rows L2

/-! ### one argument, two arguments -/
def g1 (g : Mem → W → Option W) (M : Mem) (ws : List W) : Option W := match ws with
  | [w] => g M w
  | _ => none
def r1 (r : V → Hp → VK → Prop) : List V → Hp → VK → Prop := fun vs H Q => ∃ v, vs = [v] ∧ r v H Q
theorem sem_g1 {K : PySem.W.Frag} {r : V → Hp → VK → Prop} {R : List V → Hp → VK → Prop} {g : Mem → W → Option W} (h : Sem1 K r g) (hr : ∀ v H Q, r v H Q → R [v] H Q) : SemC K R (g1 g) := by
  intro φ ps H M ws vs w Q RM rx e P
  unfold g1 at e
  split at e
  · obtain ⟨v, r', e1, h1, h2⟩ := rx
    have e2 : r' = [] := h2
    subst e2
    subst e1
    exact hr v H Q (h φ ps H M _ v w Q RM h1 e P)
  · cases e
def g2 (g : Mem → W → W → Option W) (M : Mem) (ws : List W) : Option W := match ws with
  | [w, u] => g M w u
  | _ => none
theorem sem_g2 {K : PySem.W.Frag} {r : R2} {R : List V → Hp → VK → Prop} {g : Mem → W → W → Option W} (h : Sem2 K r g) (hr : ∀ v u H Q, r v u H Q → R [v, u] H Q) : SemC K R (g2 g) := by
  intro φ ps H M ws vs w Q RM rx e P
  unfold g2 at e
  split at e
  · obtain ⟨v, r', e1, h1, h2⟩ := rx
    obtain ⟨u, r'', e2, h3, h4⟩ := h2
    have e3 : r'' = [] := h4
    subst e3
    subst e2
    subst e1
    exact hr v u H Q (h φ ps H M _ _ v u w Q RM h1 h3 e P)
  · cases e

/-! ### len -/
def gLen (M : Mem) (w : W) : Option W := match w with
  | .d (.str s) => if s.length ≤ 1000000 then some (.d (.int s.length)) else none
  | w => match ltOf M w with
    | some l => some (.d (.int l.length))
    | none => none
theorem sem_len {K : PySem.W.Frag} : Sem1 K (fun v H Q => ∃ n, LenV K v H n ∧ Q (.int n) H) gLen := by
  intro φ ps H M x v w Q RM rx h P
  have other : (match ltOf M x with | some l => some (W.d (.int l.length)) | none => none) = some w → ∃ n, LenV K v H n ∧ Q (.int n) H := fun h => by
    split at h
    · rename_i l el
      have e := Option.some.inj h
      subst e
      obtain ⟨a, vs, h1, h2, h3⟩ := rel_lt RM rx el
      subst h1
      refine ⟨l.length, ?_, P H _ Xt.refl RM to_int⟩
      rcases h2 with h2 | h2
      · exact .inl ⟨vs, h2, h3.length⟩
      · exact .inr ⟨vs, h2, h3.length⟩
    · cases h
  unfold gLen at h
  split at h
  · rename_i s
    split at h
    · rename_i hl
      have e := Option.some.inj h
      subst e
      rw [rw_str rx]
      exact ⟨s.length, ⟨million hl, rfl⟩, P H _ Xt.refl RM to_int⟩
    · cases h
  · exact other h

/-! ### sum, min, max, all, any of a list -/
def ofInts (f : List Int → Option D) (M : Mem) (w : W) : Option W := match sqOf M w with
  | some l => match asInts l with
    | some ns => (f ns).map .d
    | none => none
  | none => none
def ofBls (f : List Bool → D) (M : Mem) (w : W) : Option W := match sqOf M w with
  | some l => match bls l with
    | some ns => some (.d (f ns))
    | none => none
  | none => none
def mx (a : Int) : List Int → Int
  | [] => a
  | b :: r => max b (mx a r)
def mn (a : Int) : List Int → Int
  | [] => a
  | b :: r => min b (mn a r)
theorem mx_mem (a : Int) : ∀ l, mx a l ∈ a :: l
  | [] => by simp [mx]
  | b :: r => by
    have := mx_mem a r
    rw [mx, Int.max_def]
    simp only [List.mem_cons] at this ⊢
    split
    · rcases this with h | h
      · exact .inl h
      · exact .inr (.inr h)
    · exact .inr (.inl rfl)
theorem mx_le (a : Int) : ∀ l, ∀ y ∈ a :: l, y ≤ mx a l
  | [], y, h => by simp at h; rw [h, mx]; exact Int.le_refl _
  | b :: r, y, h => by
    have := mx_le a r
    rw [mx]
    simp only [List.mem_cons] at this h
    rcases h with h | h | h
    · have := this y (.inl h); omega
    · omega
    · have := this y (.inr h); omega
theorem mn_mem (a : Int) : ∀ l, mn a l ∈ a :: l
  | [] => by simp [mn]
  | b :: r => by
    have := mn_mem a r
    rw [mn, Int.min_def]
    simp only [List.mem_cons] at this ⊢
    split
    · exact .inr (.inl rfl)
    · rcases this with h | h
      · exact .inl h
      · exact .inr (.inr h)
theorem mn_le (a : Int) : ∀ l, ∀ y ∈ a :: l, mn a l ≤ y
  | [], y, h => by simp at h; rw [h, mn]; exact Int.le_refl _
  | b :: r, y, h => by
    have := mn_le a r
    rw [mn]
    simp only [List.mem_cons] at this h
    rcases h with h | h | h
    · have := this y (.inl h); omega
    · omega
    · have := this y (.inr h); omega
def gSum := ofInts fun ns => some (.int ns.sum)
def gMax := ofInts fun ns => match ns with
  | [] => none
  | a :: r => some (.int (mx a r))
def gMin := ofInts fun ns => match ns with
  | [] => none
  | a :: r => some (.int (mn a r))
def gAll := ofBls fun bs => .bl (bs.all id)
def gAny := ofBls fun bs => .bl (bs.any id)
theorem of_ints {K : PySem.W.Frag} {φ ps : List Addr} {H : Hp} {M : Mem} {x w : W} {v : V} {f : List Int → Option D} (RM : RelM K φ ps H M) (rx : RpW K φ ps H x v) (h : ofInts f M x = some w) : ∃ a ns d, v = .ref a ∧ SqL K H a (ns.map V.int) ∧ f ns = some d ∧ w = .d d := by
  unfold ofInts at h
  split at h
  · rename_i l el
    split at h
    · rename_i ns en
      obtain ⟨a, vs, h1, h2, h3⟩ := rel_sq RM rx el
      have e := rel_ints h3 en
      subst e
      cases q : f ns with
      | none => rw [q] at h; cases h
      | some d =>
        rw [q] at h
        exact ⟨a, ns, d, h1, h2, q, (Option.some.inj h).symm⟩
    · cases h
  · cases h
theorem of_bls {K : PySem.W.Frag} {φ ps : List Addr} {H : Hp} {M : Mem} {x w : W} {v : V} {f : List Bool → D} (RM : RelM K φ ps H M) (rx : RpW K φ ps H x v) (h : ofBls f M x = some w) : ∃ a ns, v = .ref a ∧ SqL K H a (ns.map V.bl) ∧ w = .d (f ns) := by
  unfold ofBls at h
  split at h
  · rename_i l el
    split at h
    · rename_i ns en
      obtain ⟨a, vs, h1, h2, h3⟩ := rel_sq RM rx el
      have e := rel_bls h3 en
      subst e
      exact ⟨a, ns, h1, h2, (Option.some.inj h).symm⟩
    · cases h
  · cases h
theorem sem_sum {K : PySem.W.Frag} : Sem1 K (fun v H Q => rSum K [v] H Q) gSum := by
  intro φ ps H M x v w Q RM rx h P
  obtain ⟨a, ns, d, h1, h2, h3, h4⟩ := of_ints RM rx h
  have e := Option.some.inj h3
  subst e h4 h1
  exact ⟨a, ns, rfl, h2, P H _ Xt.refl RM to_int⟩
theorem sem_max {K : PySem.W.Frag} : Sem1 K (fun v H Q => rMax K [v] H Q) gMax := by
  intro φ ps H M x v w Q RM rx h P
  obtain ⟨a, ns, d, h1, h2, h3, h4⟩ := of_ints RM rx h
  cases ns with
  | nil => cases h3
  | cons n r =>
    have e := Option.some.inj h3
    subst e h4 h1
    refine ⟨a, n :: r, rfl, h2, by simp, fun m hm hy => ?_⟩
    have e2 : m = mx n r := Int.le_antisymm (mx_le n r m hm) (hy _ (mx_mem n r))
    rw [e2]
    exact P H _ Xt.refl RM to_int
theorem sem_min {K : PySem.W.Frag} : Sem1 K (fun v H Q => rMin K [v] H Q) gMin := by
  intro φ ps H M x v w Q RM rx h P
  obtain ⟨a, ns, d, h1, h2, h3, h4⟩ := of_ints RM rx h
  cases ns with
  | nil => cases h3
  | cons n r =>
    have e := Option.some.inj h3
    subst e h4 h1
    refine ⟨a, n :: r, rfl, h2, by simp, fun m hm hy => ?_⟩
    have e2 : m = mn n r := Int.le_antisymm (hy _ (mn_mem n r)) (mn_le n r m hm)
    rw [e2]
    exact P H _ Xt.refl RM to_int
theorem sem_all {K : PySem.W.Frag} : Sem1 K (fun v H Q => rAll K [v] H Q) gAll := by
  intro φ ps H M x v w Q RM rx h P
  obtain ⟨a, ns, h1, h2, h4⟩ := of_bls RM rx h
  subst h4 h1
  exact ⟨a, ns, rfl, h2, P H _ Xt.refl RM to_bl⟩
theorem sem_any {K : PySem.W.Frag} : Sem1 K (fun v H Q => rAny K [v] H Q) gAny := by
  intro φ ps H M x v w Q RM rx h P
  obtain ⟨a, ns, h1, h2, h4⟩ := of_bls RM rx h
  subst h4 h1
  exact ⟨a, ns, rfl, h2, P H _ Xt.refl RM to_bl⟩

/-! ### abs, min, max of whole numbers; int, gcd, divmod -/
def gAbs (_ : Mem) (w : W) : Option W := match w with
  | .d (.int i) => some (.d (.int (if i < 0 then -i else i)))
  | _ => none
theorem sem_abs {K : PySem.W.Frag} : Sem1 K (fun v H Q => ∃ i, [v] = [V.int i] ∧ Q (.int (if i < 0 then -i else i)) H) gAbs := by
  intro φ ps H M x v w Q RM rx h P
  unfold gAbs at h
  split at h
  · have e := Option.some.inj h
    subst e
    rw [rw_int rx]
    exact ⟨_, rfl, P H _ Xt.refl RM to_int⟩
  · cases h
def gInt (_ : Mem) (w : W) : Option W := match w with
  | .d (.int i) => some (.d (.int i))
  | .d (.bl b) => some (.d (.int (if b then 1 else 0)))
  | _ => none
theorem sem_int1 {K : PySem.W.Frag} : Sem1 K (fun v H Q => (∃ i, [v] = [V.int i] ∧ Q (.int i) H) ∨ ∃ k, [v] = [V.bl k] ∧ Q (.int (if k then 1 else 0)) H) gInt := by
  intro φ ps H M x v w Q RM rx h P
  unfold gInt at h
  split at h
  · have e := Option.some.inj h
    subst e
    rw [rw_int rx]
    exact .inl ⟨_, rfl, P H _ Xt.refl RM to_int⟩
  · have e := Option.some.inj h
    subst e
    rw [rw_bl rx]
    exact .inr ⟨_, rfl, P H _ Xt.refl RM to_int⟩
  · cases h
abbrev gMax2 := gII cYes fun i j => .int (if j > i then j else i)
abbrev gMin2 := gII cYes fun i j => .int (if j < i then j else i)
abbrev gGcd := gII cYes fun i j => .int ((Nat.gcd i.natAbs j.natAbs : Nat) : Int)
def cDm (i j : Int) : Prop := 0 < j ∧ i.natAbs < 2 ^ 3900
instance : ∀ i j, Decidable (cDm i j) := fun i j => by unfold cDm; infer_instance
def gDivmod (_ : Mem) (x y : W) : Option W := match x, y with
  | .d (.int i), .d (.int j) => if cDm i j then some (.d (.tup [.int (i / j), .int (i % j)])) else none
  | _, _ => none
theorem cdm_ok {i j : Int} (h : cDm i j) : CDivP i j := by
  obtain ⟨h1, h2⟩ := h
  have := PyProof.Rows.intBits_le h2
  exact divp_ok h1 (by omega)
theorem sem_divmod {K : PySem.W.Frag} : Sem2 K (fun x y H Q => ∃ i j, [x, y] = [V.int i, .int j] ∧ CDivP i j ∧ ∀ p, H p = none → Q (.ref p) (upd H p (.tup [.int (i / j), .int (i % j)]))) gDivmod := by
  intro φ ps H M x y v u w Q RM rx ry h P
  unfold gDivmod at h
  split at h
  · split at h
    · rename_i i j hh
      have e := Option.some.inj h
      subst e
      rw [rw_int rx, rw_int ry]
      exact ⟨i, j, rfl, cdm_ok hh, fun p hp => P _ _ (Xt.new hp) (RM.new hp) (new_tup RM hp (RpL.cons (by rw [Rp]) (RpL.cons (by rw [Rp]) RpL.nil)))⟩
    · cases h
  · cases h

/-! ### tuple(..), list(..) -/
def gTuple (M : Mem) (w : W) : Option W := match ltOf M w with
  | some l => some (.d (.tup l))
  | none => none
def gList (M : Mem) (w : W) : Option W := match ltOf M w with
  | some l => some (.d (.lst l))
  | none => none
theorem lt_lt {K : PySem.W.Frag} {φ ps : List Addr} {H : Hp} {M : Mem} {w : W} {v : V} {l : List D} (RM : RelM K φ ps H M) (r : RpW K φ ps H w v) (e : ltOf M w = some l) : (∃ a vs, v = .ref a ∧ SqL K H a vs ∧ RpL K (φ ++ ps) H l vs) ∨ (∃ a vs, v = .ref a ∧ SqT K H a vs ∧ RpW K φ ps H (.d (.tup l)) v ∧ RpL K (φ ++ ps) H l vs) := by
  have other : sqOf M w = some l → (∃ a vs, v = .ref a ∧ SqL K H a vs ∧ RpL K (φ ++ ps) H l vs) ∨ (∃ a vs, v = .ref a ∧ SqT K H a vs ∧ RpW K φ ps H (.d (.tup l)) v ∧ RpL K (φ ++ ps) H l vs) := fun e => .inl (rel_sq RM r e)
  cases w with
  | r n => exact other e
  | d x =>
    cases x with
    | tup m =>
      have e1 : m = l := Option.some.inj e
      subst e1
      obtain ⟨a, vs, h1, h2, h3⟩ := rel_tup (x := .non) r
      exact .inr ⟨a, vs, h1, h2, r, h3⟩
    | _ => exact other e
theorem sem_tuple {K : PySem.W.Frag} : Sem1 K (fun v H Q => ∃ p ys, [v] = [V.ref p] ∧ ((SqL K H p ys ∧ ∀ l, H l = none → Q (.ref l) (upd H l (.tup ys))) ∨ (SqT K H p ys ∧ Q (.ref p) H))) gTuple := by
  intro φ ps H M x v w Q RM rx h P
  unfold gTuple at h
  split at h
  · rename_i l el
    have e := Option.some.inj h
    subst e
    rcases lt_lt RM rx el with ⟨a, vs, h1, h2, h3⟩ | ⟨a, vs, h1, h2, h3, h4⟩
    · subst h1
      exact ⟨a, vs, rfl, .inl ⟨h2, fun p hp => P _ _ (Xt.new hp) (RM.new hp) (new_tup RM hp h3)⟩⟩
    · subst h1
      exact ⟨a, vs, rfl, .inr ⟨h2, P H _ Xt.refl RM h3⟩⟩
  · cases h
theorem sem_list {K : PySem.W.Frag} : Sem1 K (fun v H Q => ∃ p ys, [v] = [V.ref p] ∧ (SqL K H p ys ∨ SqT K H p ys) ∧ ∀ l, H l = none → Q (.ref l) (upd H l (.lst ys))) gList := by
  intro φ ps H M x v w Q RM rx h P
  unfold gList at h
  split at h
  · rename_i l el
    have e := Option.some.inj h
    subst e
    obtain ⟨a, vs, h1, h2, h3⟩ := rel_lt RM rx el
    subst h1
    exact ⟨a, vs, rfl, h2, fun p hp => P _ _ (Xt.new hp) (RM.new hp) (new_lst RM hp h3)⟩
  · cases h

/-! ### in, not in, of flat values -/
def eqF (x y : D) : Option Bool := match x, y with
  | .int i, .int j => some (decide (i = j))
  | .str i, .str j => some (decide (i = j))
  | _, _ => none
def inF (x : D) : List D → Option Bool
  | [] => some false
  | y :: r => match eqF y x, inF x r with
    | some a, some b => some (a || b)
    | _, _ => none
def isFl : D → Bool
  | .int _ => true
  | .str _ => true
  | _ => false
def gIn (M : Mem) (x y : W) : Option W := match x, ltOf M y with
  | .d d, some l => if isFl d = true then (inF d l).map fun b => .d (.bl b) else none
  | _, _ => none
def gNin (M : Mem) (x y : W) : Option W := match x, ltOf M y with
  | .d d, some l => if isFl d = true then (inF d l).map fun b => .d (.bl (!b)) else none
  | _, _ => none
theorem eqF_V {K : PySem.W.Frag} {av : List Addr} {H : Hp} {x y : D} {v u : V} {b : Bool} (rx : Rp K av H x v) (ry : Rp K av H y u) (e : eqF y x = some b) : flatV v = true ∧ flatV u = true ∧ eqV u v = b := by
  unfold eqF at e
  split at e
  · have e2 := Option.some.inj e
    subst e2
    rw [rp_int rx, rp_int ry]
    refine ⟨rfl, rfl, ?_⟩
    simp only [eqV]
    rw [Bool.eq_iff_iff]
    simp
  · have e2 := Option.some.inj e
    subst e2
    rw [rp_str rx, rp_str ry]
    refine ⟨rfl, rfl, ?_⟩
    simp only [eqV]
    rw [Bool.eq_iff_iff]
    simp
  · cases e
theorem inF_V {K : PySem.W.Frag} {av : List Addr} {H : Hp} {x : D} {v : V} (rx : Rp K av H x v) : ∀ {l : List D} {vs : List V} {b : Bool}, RpL K av H l vs → inF x l = some b → vs.all flatV = true ∧ inV v vs = b
  | [], vs, b, r, e => by
    rw [RpL] at r
    subst r
    have e2 := Option.some.inj e
    subst e2
    exact ⟨rfl, rfl⟩
  | y :: l, vs, b, r, e => by
    rw [RpL] at r
    obtain ⟨u, r', e1, h1, h2⟩ := r
    subst e1
    rw [inF] at e
    split at e
    · rename_i b1 b2 e1 e2
      have e3 := Option.some.inj e
      subst e3
      obtain ⟨f1, f2, f3⟩ := eqF_V rx h1 e1
      obtain ⟨g1, g2⟩ := inF_V rx h2 e2
      refine ⟨by rw [List.all_cons, f2, g1]; rfl, ?_⟩
      unfold inV at g2 ⊢
      rw [List.any_cons, f3, g2]
    · cases e
theorem flat_of {K : PySem.W.Frag} {av : List Addr} {H : Hp} {d : D} {v : V} (rx : Rp K av H d v) (h : isFl d = true) : flatV v = true := by
  cases d with
  | int i => rw [rp_int rx]; rfl
  | str i => rw [rp_str rx]; rfl
  | _ => cases h
theorem sem_in {K : PySem.W.Frag} : Sem2 K (rIn K false) gIn := by
  intro φ ps H M x y v u w Q RM rx ry h P
  unfold gIn at h
  split at h
  · rename_i d l el
    split at h
    · rename_i hd
      obtain ⟨a, vs, h1, h2, h3⟩ := rel_lt RM ry el
      cases e : inF d l with
      | none => rw [e] at h; cases h
      | some b =>
        rw [e] at h
        have e2 := Option.some.inj h
        subst e2
        obtain ⟨k1, k2⟩ := inF_V (show Rp K (φ ++ ps) H d v from rx) h3 e
        exact ⟨a, vs, h1, h2, flat_of rx hd, k1, by rw [k2]; exact P H _ Xt.refl RM to_bl⟩
    · cases h
  · cases h
theorem sem_nin {K : PySem.W.Frag} : Sem2 K (rIn K true) gNin := by
  intro φ ps H M x y v u w Q RM rx ry h P
  unfold gNin at h
  split at h
  · rename_i d l el
    split at h
    · rename_i hd
      obtain ⟨a, vs, h1, h2, h3⟩ := rel_lt RM ry el
      cases e : inF d l with
      | none => rw [e] at h; cases h
      | some b =>
        rw [e] at h
        have e2 := Option.some.inj h
        subst e2
        obtain ⟨k1, k2⟩ := inF_V (show Rp K (φ ++ ps) H d v from rx) h3 e
        exact ⟨a, vs, h1, h2, flat_of rx hd, k1, by rw [k2]; exact P H _ Xt.refl RM to_bl⟩
    · cases h
  · cases h

/-! ### repr -/
def rRep (K : PySem.W.Frag) : List V → Hp → VK → Prop := fun vs H Q => ∃ x d, vs = [x] ∧ Dp K H x d ∧ d.showable = true ∧ d.hasDict = false ∧ d.depth ≤ 60 ∧ d.shown.length ≤ sizeLine ∧ Q (.str d.shown) H
theorem cr_repr {X : Cx} (hg : X.A.guards = some []) (hu : X.A.units + 64 < cLine) : CallR X (.builtin "repr") (rRep X.K) := by
  intro pins s σ H xs us Q I r h
  obtain ⟨x, d, rfl, hd, h1, h2, h3, h4, q⟩ := h
  obtain ⟨u, rfl, rx⟩ := vals1 r
  cases d with
  | none =>
    cases hd
    cases rx
    exact PySem.P.repr_of_none ⟨.str _, H, I.tok _, ⟨_, rfl⟩, q⟩
  | bool b =>
    cases hd
    cases rx
    refine PySem.P.repr_of_bool ⟨.str _, H, I.tok _, ⟨_, rfl⟩, ?_⟩
    exact q
  | int i =>
    cases hd
    obtain ⟨t, rfl⟩ := rx
    refine PySem.P.repr_of_int ?_ ⟨.str _, H, I.tok _, ⟨_, rfl⟩, q⟩
    simpa [PyData.showable] using h1
  | str b =>
    cases hd
    obtain ⟨t, rfl⟩ := rx
    exact PySem.P.repr_of_str ⟨.str _, H, I.tok _, ⟨_, rfl⟩, q⟩ h4
  | dict kvs => cases h2
  | list ds =>
    obtain ⟨as, rd⟩ := Dp.reads I _ _ _ hd rx
    cases hd
    cases rx
    exact repr_of_reads' rd h1 (PyData.noDict_hsm h2) hg (by omega) (fun _ _ e => e) (fun h' u tk hk => ⟨.str _, H, I.kept hk, ⟨_, rfl⟩, q⟩) h4
  | tuple ds =>
    obtain ⟨as, rd⟩ := Dp.reads I _ _ _ hd rx
    cases hd
    cases rx
    exact repr_of_reads' rd h1 (PyData.noDict_hsm h2) hg (by omega) (fun _ _ e => e) (fun h' u tk hk => ⟨.str _, H, I.kept hk, ⟨_, rfl⟩, q⟩) h4
def okR (x : D) : Bool := pl x && ((toP x).showable && (!(toP x).hasDict && (decide ((toP x).depth ≤ 60) && decide ((toP x).shown.length ≤ 1000000))))
def gRepr (M : Mem) (w : W) : Option W := match datOf M w with
  | some x => if okR x = true then some (.d (.str (toP x).shown)) else none
  | none => none
theorem sem_repr {K : PySem.W.Frag} : Sem1 K (fun v H Q => rRep K [v] H Q) gRepr := by
  intro φ ps H M x v w Q RM rx h P
  unfold gRepr at h
  split at h
  · rename_i d ed
    split at h
    · rename_i hok
      have e := Option.some.inj h
      subst e
      unfold okR at hok
      simp only [Bool.and_eq_true, Bool.not_eq_true', decide_eq_true_eq] at hok
      obtain ⟨h1, h2, h3, h4, h5⟩ := hok
      exact ⟨v, toP d, rfl, rel_dat RM rx ed h1, h2, h3, h4, million h5, P H _ Xt.refl RM to_str⟩
    · cases h
  · cases h

/-! ### the length of what repr gives -/
def wid : PyData → Nat
  | .none => 4
  | .bool _ => 5
  | .int i => if i.natAbs < 10 ^ 20 then 21 else 1921
  | .str x => (reprText x).length
  | .list l => wids l + 2
  | .tuple l => wids l + 3
  | .dict _ => 0
where wids : List PyData → Nat
  | [] => 0
  | d :: ds => wid d + 2 + wids ds
theorem textFrom_le : ∀ (ts : List Str) (k : Nat) (acc : Str), (textFrom k acc ts).length ≤ acc.length + piled ts
  | [], k, acc => by
    show acc.length ≤ _
    omega
  | t :: r, k, acc => by
    have h := textFrom_le r (k + 1) (acc ++ (if k > 0 then ", " else "" : String) ++ t)
    have e : (acc ++ (if k > 0 then ", " else "" : String) ++ t).length = acc.length + (if k > 0 then 2 else 0) + t.length := by
      rw [strLen_append, strLen_append]
      split <;> rfl
    rw [e] at h
    rw [piled_cons]
    show (textFrom (k + 1) _ r).length ≤ _
    have : (if k > 0 then 2 else 0 : Nat) ≤ 2 := by split <;> omega
    omega
theorem listText_le (ts : List Str) : (listText ts).length ≤ piled ts + 2 := by
  unfold listText
  rw [strLen_append]
  have h := textFrom_le ts 0 "["
  have e1 : ((("[" : String) : Str)).length = 1 := rfl
  have e2 : ((("]" : String) : Str)).length = 1 := rfl
  rw [e1] at h
  rw [e2]
  omega
theorem tupleText_le (ts : List Str) : (tupleText ts).length ≤ piled ts + 3 := by
  unfold tupleText
  rw [strLen_append, strLen_append]
  have e1 : ((("(" : String) : Str)).length = 1 := rfl
  have e3 : (((if ts.length == 1 then ",)" else ")" : String) : Str)).length ≤ 2 := by split <;> decide
  rw [e1]
  by_cases h : ts = []
  · subst h
    have : (Str.join (", " : Str) ([] : List Str)).length = 0 := rfl
    have e5 : (Str.join (", " : String) ([] : List Str)).length = 0 := rfl
    rw [e5]
    simp only [piled_nil]
    omega
  · have := join_length_add ts h
    omega
mutual
theorem shown_wid : ∀ d : PyData, d.showable = true → d.hasDict = false → d.shown.length ≤ wid d
  | .none, _, _ => by decide
  | .bool b, _, _ => by cases b <;> decide
  | .int i, h, _ => by
    have h' : i.natAbs.log2 < 1920 := by simpa [PyData.showable] using h
    show (Str.ofString (toString i)).length ≤ wid (.int i)
    rw [PySem.ofString_length]
    unfold wid
    split
    · rename_i hh
      exact int_text_length_le10 (by decide) hh
    · exact int_text_length_le (by decide) h'
  | .str x, _, _ => Nat.le_refl _
  | .dict _, _, h => by cases h
  | .list l, h, g => by
    have h1 := shown_wids l h g
    have h2 := listText_le (PyData.shownAll l)
    show (listText (PyData.shownAll l)).length ≤ wid.wids l + 2
    omega
  | .tuple l, h, g => by
    have h1 := shown_wids l h g
    have h2 := tupleText_le (PyData.shownAll l)
    show (tupleText (PyData.shownAll l)).length ≤ wid.wids l + 3
    omega
theorem shown_wids : ∀ l : List PyData, PyData.showableAll l = true → PyData.hasDictAll l = false → piled (PyData.shownAll l) ≤ wid.wids l
  | [], _, _ => Nat.le_refl _
  | d :: ds, h, g => by
    have h' : d.showable = true ∧ PyData.showableAll ds = true := by simpa [PyData.showableAll] using h
    have g' : d.hasDict = false ∧ PyData.hasDictAll ds = false := by simpa [PyData.hasDictAll] using g
    have h1 := shown_wid d h'.1 g'.1
    have h2 := shown_wids ds h'.2 g'.2
    show piled (PyData.shown d :: PyData.shownAll ds) ≤ wid d + 2 + wid.wids ds
    rw [piled_cons]
    omega
end
/-- what okR asks, in numbers -/
theorem okR_of {x : D} (h1 : pl x = true) (h2 : (toP x).showable = true) (h3 : (toP x).hasDict = false) (h4 : (toP x).depth ≤ 60) (h5 : wid (toP x) ≤ 1000000) : okR x = true := by
  unfold okR
  have := shown_wid _ h2 h3
  simp only [Bool.and_eq_true, Bool.not_eq_true', decide_eq_true_eq]
  exact ⟨h1, h2, h3, h4, by omega⟩

/-! ### rules for the calls -/
section
variable {F : Fam} {a b c e : Expr} {es : List Expr} {fa fb : Slots → Py W} {fs : Slots → Py (List W)} {p pos : Pos}
theorem b_len (ha : QA F (e :: es) fs) (hg : F.sc.names.lookup ("len" : Str) = some .globalImplicit) (hm : F.mg ("len" : Str) = none) (he : ∀ env, starEach (e :: es) env = (false, eval e env) :: starEach es env := by intro _; rfl) (hpl : ∀ env, (backTo pos (starEach es env)).any (·.1) = false := by intro _; rfl) : QE F (.Call (.Name "len" p) (e :: es) [] pos) (fCl (g1 gLen) fs) :=
  q_callB (id := "len") (r := fun xs H Q => ∃ x n, xs = [x] ∧ LenV F.K x H n ∧ Q (.int n) H) (fun i => by have := call_len (X := F.X i); rw [F.hK i] at this; exact this) (sem_g1 sem_len fun v H Q ⟨n, h1, h2⟩ => ⟨v, n, rfl, h1, h2⟩) ha hg hm rfl (he := he) (hpl := hpl)
theorem b_sum (ha : QA F (e :: es) fs) (hg : F.sc.names.lookup ("sum" : Str) = some .globalImplicit) (hm : F.mg ("sum" : Str) = none) (he : ∀ env, starEach (e :: es) env = (false, eval e env) :: starEach es env := by intro _; rfl) (hpl : ∀ env, (backTo pos (starEach es env)).any (·.1) = false := by intro _; rfl) : QE F (.Call (.Name "sum" p) (e :: es) [] pos) (fCl (g1 gSum) fs) :=
  q_callB (id := "sum") (r := rSum F.K) (fun i => by have := cr_sum (X := F.X i) (F.calm i); rw [F.hK i] at this; exact this) (sem_g1 sem_sum fun v H Q h => h) ha hg hm rfl (he := he) (hpl := hpl)
theorem b_max (ha : QA F (e :: es) fs) (hg : F.sc.names.lookup ("max" : Str) = some .globalImplicit) (hm : F.mg ("max" : Str) = none) (he : ∀ env, starEach (e :: es) env = (false, eval e env) :: starEach es env := by intro _; rfl) (hpl : ∀ env, (backTo pos (starEach es env)).any (·.1) = false := by intro _; rfl) : QE F (.Call (.Name "max" p) (e :: es) [] pos) (fCl (g1 gMax) fs) :=
  q_callB (id := "max") (r := rMax F.K) (fun i => by have := cr_max (X := F.X i) (F.calm i); rw [F.hK i] at this; exact this) (sem_g1 sem_max fun v H Q h => h) ha hg hm rfl (he := he) (hpl := hpl)
theorem b_min (ha : QA F (e :: es) fs) (hg : F.sc.names.lookup ("min" : Str) = some .globalImplicit) (hm : F.mg ("min" : Str) = none) (he : ∀ env, starEach (e :: es) env = (false, eval e env) :: starEach es env := by intro _; rfl) (hpl : ∀ env, (backTo pos (starEach es env)).any (·.1) = false := by intro _; rfl) : QE F (.Call (.Name "min" p) (e :: es) [] pos) (fCl (g1 gMin) fs) :=
  q_callB (id := "min") (r := rMin F.K) (fun i => by have := cr_min (X := F.X i) (F.calm i); rw [F.hK i] at this; exact this) (sem_g1 sem_min fun v H Q h => h) ha hg hm rfl (he := he) (hpl := hpl)
theorem b_all (ha : QA F (e :: es) fs) (hg : F.sc.names.lookup ("all" : Str) = some .globalImplicit) (hm : F.mg ("all" : Str) = none) (he : ∀ env, starEach (e :: es) env = (false, eval e env) :: starEach es env := by intro _; rfl) (hpl : ∀ env, (backTo pos (starEach es env)).any (·.1) = false := by intro _; rfl) : QE F (.Call (.Name "all" p) (e :: es) [] pos) (fCl (g1 gAll) fs) :=
  q_callB (id := "all") (r := rAll F.K) (fun i => by have := cr_all (X := F.X i) (F.calm i); rw [F.hK i] at this; exact this) (sem_g1 sem_all fun v H Q h => h) ha hg hm rfl (he := he) (hpl := hpl)
theorem b_any (ha : QA F (e :: es) fs) (hg : F.sc.names.lookup ("any" : Str) = some .globalImplicit) (hm : F.mg ("any" : Str) = none) (he : ∀ env, starEach (e :: es) env = (false, eval e env) :: starEach es env := by intro _; rfl) (hpl : ∀ env, (backTo pos (starEach es env)).any (·.1) = false := by intro _; rfl) : QE F (.Call (.Name "any" p) (e :: es) [] pos) (fCl (g1 gAny) fs) :=
  q_callB (id := "any") (r := rAny F.K) (fun i => by have := cr_any (X := F.X i) (F.calm i); rw [F.hK i] at this; exact this) (sem_g1 sem_any fun v H Q h => h) ha hg hm rfl (he := he) (hpl := hpl)
theorem b_abs (ha : QA F (e :: es) fs) (hg : F.sc.names.lookup ("abs" : Str) = some .globalImplicit) (hm : F.mg ("abs" : Str) = none) (he : ∀ env, starEach (e :: es) env = (false, eval e env) :: starEach es env := by intro _; rfl) (hpl : ∀ env, (backTo pos (starEach es env)).any (·.1) = false := by intro _; rfl) : QE F (.Call (.Name "abs" p) (e :: es) [] pos) (fCl (g1 gAbs) fs) :=
  q_callB (id := "abs") (fun i => call_abs) (sem_g1 sem_abs fun v H Q h => h) ha hg hm rfl (he := he) (hpl := hpl)
theorem b_repr (ha : QA F (e :: es) fs) (hg : F.sc.names.lookup ("repr" : Str) = some .globalImplicit) (hm : F.mg ("repr" : Str) = none) (he : ∀ env, starEach (e :: es) env = (false, eval e env) :: starEach es env := by intro _; rfl) (hpl : ∀ env, (backTo pos (starEach es env)).any (·.1) = false := by intro _; rfl) : QE F (.Call (.Name "repr" p) (e :: es) [] pos) (fCl (g1 gRepr) fs) :=
  q_callB (id := "repr") (r := rRep F.K) (fun i => by have := cr_repr (X := F.X i) (F.gd i) units64; rw [F.hK i] at this; exact this) (sem_g1 sem_repr fun v H Q h => h) ha hg hm rfl (he := he) (hpl := hpl)
theorem b_max2 (ha : QA F (e :: es) fs) (hg : F.sc.names.lookup ("max" : Str) = some .globalImplicit) (hm : F.mg ("max" : Str) = none) (he : ∀ env, starEach (e :: es) env = (false, eval e env) :: starEach es env := by intro _; rfl) (hpl : ∀ env, (backTo pos (starEach es env)).any (·.1) = false := by intro _; rfl) : QE F (.Call (.Name "max" p) (e :: es) [] pos) (fCl (g2 gMax2) fs) :=
  q_callB (id := "max") (fun i => call_max2 (F.calm i)) (sem_g2 (sem_II (C := fun _ _ => True) (gv := fun i j => .int (if j > i then j else i)) (fun _ _ _ => trivial) fun _ _ _ _ => by rw [Rp]) fun v u H Q ⟨i, j, e1, e2, _, q⟩ => ⟨i, j, by rw [e1, e2], q⟩) ha hg hm rfl (he := he) (hpl := hpl)
theorem b_min2 (ha : QA F (e :: es) fs) (hg : F.sc.names.lookup ("min" : Str) = some .globalImplicit) (hm : F.mg ("min" : Str) = none) (he : ∀ env, starEach (e :: es) env = (false, eval e env) :: starEach es env := by intro _; rfl) (hpl : ∀ env, (backTo pos (starEach es env)).any (·.1) = false := by intro _; rfl) : QE F (.Call (.Name "min" p) (e :: es) [] pos) (fCl (g2 gMin2) fs) :=
  q_callB (id := "min") (fun i => call_min2 (F.calm i)) (sem_g2 (sem_II (C := fun _ _ => True) (gv := fun i j => .int (if j < i then j else i)) (fun _ _ _ => trivial) fun _ _ _ _ => by rw [Rp]) fun v u H Q ⟨i, j, e1, e2, _, q⟩ => ⟨i, j, by rw [e1, e2], q⟩) ha hg hm rfl (he := he) (hpl := hpl)
theorem b_divmod (ha : QA F (e :: es) fs) (hg : F.sc.names.lookup ("divmod" : Str) = some .globalImplicit) (hm : F.mg ("divmod" : Str) = none) (he : ∀ env, starEach (e :: es) env = (false, eval e env) :: starEach es env := by intro _; rfl) (hpl : ∀ env, (backTo pos (starEach es env)).any (·.1) = false := by intro _; rfl) : QE F (.Call (.Name "divmod" p) (e :: es) [] pos) (fCl (g2 gDivmod) fs) :=
  q_callB (id := "divmod") (fun i => call_divmodW) (sem_g2 sem_divmod fun v u H Q h => h) ha hg hm rfl (he := he) (hpl := hpl)
theorem b_gcd {x : Str} (ha : QA F (e :: es) fs) (hg : F.sc.names.lookup x = some .globalImplicit) (hm : F.mg x = some (.builtin "math.gcd")) (hdb : (x == ("__debug__" : Str)) = false := by decide) (he : ∀ env, starEach (e :: es) env = (false, eval e env) :: starEach es env := by intro _; rfl) (hpl : ∀ env, (backTo pos (starEach es env)).any (·.1) = false := by intro _; rfl) : QE F (.Call (.Name x p) (e :: es) [] pos) (fCl (g2 gGcd) fs) :=
  q_callF (id := "math.gcd") (r := rGcd) (fun i => cr_gcd) (sem_g2 (sem_II (C := fun _ _ => True) (gv := fun i j => .int ((Nat.gcd i.natAbs j.natAbs : Nat) : Int)) (fun _ _ _ => trivial) fun _ _ _ _ => by rw [Rp]) fun v u H Q ⟨i, j, e1, e2, _, q⟩ => ⟨i, j, by rw [e1, e2], q⟩) ha hg hm hdb (he := he) (hpl := hpl)
theorem b_tuple (ha : QA F (e :: es) fs) (hg : F.sc.names.lookup ("tuple" : Str) = some .globalImplicit) (hm : F.mg ("tuple" : Str) = none) (he : ∀ env, starEach (e :: es) env = (false, eval e env) :: starEach es env := by intro _; rfl) (hpl : ∀ env, (backTo pos (starEach es env)).any (·.1) = false := by intro _; rfl) : QE F (.Call (.Name "tuple" p) (e :: es) [] pos) (fCl (g1 gTuple) fs) :=
  q_callTy (T := "tuple") (r := fun xs H Q => ∃ p ys, xs = [.ref p] ∧ ((SqL F.K H p ys ∧ ∀ l, H l = none → Q (.ref l) (upd H l (.tup ys))) ∨ (SqT F.K H p ys ∧ Q (.ref p) H))) (fun i => by have := call_tuple_of (X := F.X i); rw [F.hK i] at this; exact this) (sem_g1 sem_tuple fun v H Q h => h) ha hg hm rfl (he := he) (hpl := hpl)
theorem b_list (ha : QA F (e :: es) fs) (hg : F.sc.names.lookup ("list" : Str) = some .globalImplicit) (hm : F.mg ("list" : Str) = none) (he : ∀ env, starEach (e :: es) env = (false, eval e env) :: starEach es env := by intro _; rfl) (hpl : ∀ env, (backTo pos (starEach es env)).any (·.1) = false := by intro _; rfl) : QE F (.Call (.Name "list" p) (e :: es) [] pos) (fCl (g1 gList) fs) :=
  q_callTy (T := "list") (r := fun xs H Q => ∃ p ys, xs = [.ref p] ∧ (SqL F.K H p ys ∨ SqT F.K H p ys) ∧ ∀ l, H l = none → Q (.ref l) (upd H l (.lst ys))) (fun i => by have := call_list_of (X := F.X i); rw [F.hK i] at this; exact this) (sem_g1 sem_list fun v H Q h => h) ha hg hm rfl (he := he) (hpl := hpl)
theorem b_int (ha : QA F (e :: es) fs) (hg : F.sc.names.lookup ("int" : Str) = some .globalImplicit) (hm : F.mg ("int" : Str) = none) (he : ∀ env, starEach (e :: es) env = (false, eval e env) :: starEach es env := by intro _; rfl) (hpl : ∀ env, (backTo pos (starEach es env)).any (·.1) = false := by intro _; rfl) : QE F (.Call (.Name "int" p) (e :: es) [] pos) (fCl (g1 gInt) fs) :=
  q_callTy (T := "int") (fun i => call_int1) (sem_g1 sem_int1 fun v H Q h => h) ha hg hm rfl (he := he) (hpl := hpl)
theorem oIn {i : F.ι} : OpR (F.X i) (compareOp .In) (rIn F.K false) := by have := op_in_seq (X := F.X i); rw [F.hK i] at this; exact this
theorem oNin {i : F.ι} : OpR (F.X i) (compareOp .NotIn) (rIn F.K true) := by have := op_notIn_seq (X := F.X i); rw [F.hK i] at this; exact this

/-! ### isinstance with a built-in type -/
def tyD : D → Option String
  | .non => some "NoneType"
  | .bl _ => some "bool"
  | .int _ => some "int"
  | .str _ => some "str"
  | .scr _ => some "list"
  | .lst _ => some "list"
  | .tup _ => some "tuple"
  | .dct _ _ => some "dict"
  | _ => none
def tyW : W → Option String
  | .d x => tyD x
  | .r _ => some "list"
theorem sqT_ty {K : PySem.W.Frag} {H : Hp} {a : Addr} {vs : List V} (h : SqT K H a vs) : TyX K H (.ref a) (.type "tuple") := by
  rcases h with (h | ⟨o, h⟩) | ⟨o, its, n, h1, h2, _⟩
  · exact .base (.tup h)
  · exact .fTuple h
  · exact .kTuple h1 h2
theorem sqL_ty {K : PySem.W.Frag} {H : Hp} {a : Addr} {vs : List V} (h : SqL K H a vs) : TyX K H (.ref a) (.type "list") := by
  rcases h with (h | ⟨o, h⟩) | ⟨o, its, n, h1, h2, _⟩
  · exact .base (.lst h)
  · exact .base (.frz h)
  · exact .kList h1 h2
theorem ty_rel {K : PySem.W.Frag} {φ ps : List Addr} {H : Hp} {M : Mem} {w : W} {v : V} {t : String} (RM : RelM K φ ps H M) (r : RpW K φ ps H w v) (e : tyW w = some t) : TyX K H v (.type t) := by
  cases w with
  | r n =>
    have e2 := Option.some.inj e
    subst e2
    obtain ⟨a, h1, h2⟩ := r
    have hl : n < M.length := by rw [← RM.len]; exact (List.getElem?_eq_some_iff.mp h1).1
    obtain ⟨vs, h3, _⟩ := RM.mem n a M[n] h1 (List.getElem?_eq_getElem hl)
    rw [h2]
    exact .base (.lst h3)
  | d x =>
    have r' : Rp K (φ ++ ps) H x v := r
    cases x with
    | non => rw [Rp] at r'; rw [r']; have e2 := Option.some.inj e; subst e2; exact .base .non
    | bl b => rw [Rp] at r'; rw [r']; have e2 := Option.some.inj e; subst e2; exact .base (.bl _)
    | int b => rw [Rp] at r'; rw [r']; have e2 := Option.some.inj e; subst e2; exact .base (.int _)
    | str b => rw [Rp] at r'; rw [r']; have e2 := Option.some.inj e; subst e2; exact .base (.str _)
    | adr a => cases e
    | ins a b c => cases e
    | scr l =>
      rw [Rp] at r'
      have e2 := Option.some.inj e
      subst e2
      obtain ⟨a, e1, h⟩ := r'
      rw [e1]
      rcases h with ⟨o, h, _⟩ | h
      · exact .base (.frz h)
      · exact sqL_ty (sqK h)
    | tup l =>
      have e2 := Option.some.inj e
      subst e2
      obtain ⟨a, vs, e1, h, _⟩ := rel_tup (x := .non) r
      rw [e1]
      exact sqT_ty h
    | lst l =>
      rw [Rp] at r'
      have e2 := Option.some.inj e
      subst e2
      obtain ⟨a, vs, e1, h, _⟩ := r'
      rw [e1]
      exact .base (.lst h)
    | dct ks l =>
      rw [Rp] at r'
      have e2 := Option.some.inj e
      subst e2
      obtain ⟨a, vs, e1, h, _⟩ := r'
      rw [e1]
      exact .base (.dK h)
/-- one of the eight types is of type T -/
def isT (t T : String) : Bool := t == T || (t == "bool" && T == "int")
def IsT (T : String) : Prop := kitB "NoneType" T = some (isT "NoneType" T) ∧ kitB "bool" T = some (isT "bool" T) ∧ kitB "int" T = some (isT "int" T) ∧ kitB "str" T = some (isT "str" T) ∧ kitB "list" T = some (isT "list" T) ∧ kitB "tuple" T = some (isT "tuple" T) ∧ kitB "dict" T = some (isT "dict" T)
theorem IsT.of {T : String} (h : IsT T) : ∀ {w : W} {t : String}, tyW w = some t → kitB t T = some (isT t T) := by
  obtain ⟨h1, h2, h3, h4, h5, h6, h7⟩ := h
  intro w t e
  cases w with
  | r n => have e2 := Option.some.inj e; subst e2; exact h5
  | d x =>
    cases x with
    | adr a => cases e
    | ins a b c => cases e
    | non => have e2 := Option.some.inj e; subst e2; exact h1
    | bl b => have e2 := Option.some.inj e; subst e2; exact h2
    | int b => have e2 := Option.some.inj e; subst e2; exact h3
    | str b => have e2 := Option.some.inj e; subst e2; exact h4
    | scr l => have e2 := Option.some.inj e; subst e2; exact h5
    | lst l => have e2 := Option.some.inj e; subst e2; exact h5
    | tup l => have e2 := Option.some.inj e; subst e2; exact h6
    | dct _ _ => have e2 := Option.some.inj e; subst e2; exact h7
theorem isT_int : IsT "int" := by refine ⟨?_, ?_, ?_, ?_, ?_, ?_, ?_⟩ <;> decide +kernel
theorem isT_bool : IsT "bool" := by refine ⟨?_, ?_, ?_, ?_, ?_, ?_, ?_⟩ <;> decide +kernel
theorem isT_str : IsT "str" := by refine ⟨?_, ?_, ?_, ?_, ?_, ?_, ?_⟩ <;> decide +kernel
theorem isT_list : IsT "list" := by refine ⟨?_, ?_, ?_, ?_, ?_, ?_, ?_⟩ <;> decide +kernel
theorem isT_tuple : IsT "tuple" := by refine ⟨?_, ?_, ?_, ?_, ?_, ?_, ?_⟩ <;> decide +kernel
def fIsi (T : String) (fa : Slots → Py W) : Slots → Py W := fun δ => bnd (fa δ) fun x => fun M => match tyW x with
  | some t => some (.ok (.d (.bl (isT t T))) M)
  | none => none
theorem b_isi {T : String} {x : Str} {p2 : Pos} (hT : IsT T) (ha : QE F a fa) (hg : F.sc.names.lookup ("isinstance" : Str) = some .globalImplicit) (hm : F.mg ("isinstance" : Str) = none) (hg2 : F.sc.names.lookup x = some .globalImplicit) (hm2 : F.mg x = none) (hv : bootBuiltins x = some (.type T)) (hn : x ≠ "__name__" := by decide) (hdb : (x == ("__debug__" : Str)) = false := by decide)
    (he : ∀ env, starEach [a, .Name x p2] env = (false, eval a env) :: [(false, eval (.Name x p2) env)] := by intro _; rfl) : QE F (.Call (.Name "isinstance" p) [a, .Name x p2] [] pos) (fIsi T fa) := by
  obtain ⟨ta, pa, sa⟩ := ha
  refine ⟨fun Wx => tCB (rIsi F.K) (tCons (ta Wx) (tCons (tC (.ty T)) tNil)), fun i Wx tk => pe_callB (id := "isinstance") (by have := call_isi (X := F.X i); rw [F.hK i] at this; exact this) (by show (F.X i).env.scope.names.lookup _ = _; rw [F.hsc i]; exact hg) (by rw [F.hm i]; exact hm) rfl
    (pa_cons (pa i Wx tk) (pa_cons (pe_bltn (by show (F.X i).env.scope.names.lookup _ = _; rw [F.hsc i]; exact hg2) (by rw [F.hm i]; exact hm2) hv rfl hn hdb) pa_nil rfl) (he _)) (by decide) (by decide) (he _) rfl, fun Wx φ ps H σ δ M RM RS o h Q P => ?_⟩
  refine sem_bind (sa Wx) RM RS h P fun x M1 φ1 H1 v x1 RM1 RS1 rx h1 P1 => ?_
  split at h1
  · rename_i t et
    have e2 := Option.some.inj h1
    subst e2
    exact ⟨v, .ty T, .type t, .type T, isT t T, rfl, .ty T, ty_rel RM1 rx et, kit_ty (hT.of et), P1 φ1 H1 _ Xt.refl RM1 to_bl⟩
  · cases h1

/-! ### xs[::-1] -/
def gRev (M : Mem) (w : W) : Option W := match sqOf M w with
  | some l => some (.d (.lst l.reverse))
  | none => none
theorem q_rev {k : Nat} {p1 p2 p3 : Pos} (ha : QE F e fa) : QE F (.Subscript e (.Slice none none (some (.UnaryOp .USub (.Constant (.int 1) k p1) p2)) p3) pos) (f1 gRev fa) := by
  obtain ⟨ta, pa, sa⟩ := ha
  refine ⟨fun Wx => tRevL F.K (ta Wx), fun i Wx tk => by have := pe_revL (k := k) (p1 := p1) (p2 := p2) (p3 := p3) (pos := pos) (pa i Wx tk); rw [F.hK i] at this; exact this, fun Wx φ ps H σ δ M RM RS o h Q P => ?_⟩
  refine sem_bind (sa Wx) RM RS h P fun x M1 φ1 H1 v x1 RM1 RS1 rx h1 P1 => ?_
  cases e : gRev M1 x with
  | none => simp only [e] at h1; cases h1
  | some w =>
    simp only [e] at h1
    have e2 := Option.some.inj h1
    subst e2
    unfold gRev at e
    split at e
    · rename_i l el
      have e3 := Option.some.inj e
      subst e3
      obtain ⟨a, vs, h2, h3, h4⟩ := rel_sq RM1 rx el
      exact ⟨a, vs, h2, h3, fun p hp => P1 _ _ _ (Xt.new hp) (RM1.new hp) (new_lst RM1 hp h4.rev)⟩
    · cases e
end
end DL
/-! DLh: a law's entry; what a caller knows of a def. -/
namespace DL
open PySem PySem.Spec PyProof.Rows L2

section
variable {P : Program} {w : World} {K : PySem.W.Frag} {mg : Str → Option Value} {base : Heap}
/-- a def without defaults -/
theorem callee_mk {x : Str} {j n : Nat} {ks : List Str} {π : List Nat} {mf : List W → Py W} {f : Addr} {fd : FuncData} {ps : List Str} (G : FnG P w K mg base j f fd ps (spD K ps.length mf)) (hm : mg x = some (.ref f)) (hk : PySem.W.keepIn K (.ref f) = true)
    (hb : ∀ us ws : List Value, us.length = n → ws.length = ks.length → bindArgs fd ⟨us, ks.zip ws⟩ = pure (ps.zip (pick π (us ++ (ws ++ []))))) (hl : π.length = ps.length) : Callee P w K mg base x j n ks π [] mf :=
  ⟨f, fd, ps, [], [], G, hm, hk, fun s us ws _ h1 h2 => .of_eq (hb us ws h1 h2), .nil, fun _ _ => RpL.nil, hl⟩
/-- a def with a tuple of defaults, those behind the first d fill up -/
theorem callee_dfl {x : Str} {j n d : Nat} {ks : List Str} {π : List Nat} {dd : List D} {mf : List W → Py W} {f T : Addr} {fd : FuncData} {ps : List Str} {tc : Value} {td : Option Addr} {its : List Value} {tn : Nat} {tsl : Array (Option Value)} {dvs : List V}
    (G : FnG P w K mg base j f fd ps (spD K ps.length mf)) (hm : mg x = some (.ref f)) (hk : PySem.W.keepIn K (.ref f) = true) (lT : K.lookup T = some ⟨tc, td, .seq its.toArray tn, tsl⟩) (hv : Vals dvs its) (hd : ∀ av H, RpL K av H dd (dvs.drop d))
    (hb : ∀ us ws : List Value, us.length = n → ws.length = ks.length → ∃ k, bindArgs fd ⟨us, ks.zip ws⟩ = seqItems? (.ref T) >>= k ∧ k (some its.toArray) = pure (ps.zip (pick π (us ++ (ws ++ its.drop d))))) (hl : π.length = ps.length) : Callee P w K mg base x j n ks π dd mf :=
  ⟨f, fd, ps, its.drop d, dvs.drop d, G, hm, hk, fun s us ws kin h1 h2 => by
    obtain ⟨k, e1, e2⟩ := hb us ws h1 h2
    refine BindsTo.of_looks fun M => ?_
    rw [e1]
    exact looks_items kin lT rfl (.of_pure e2), hv.drop d, hd, hl⟩
theorem Callee.up {x : Str} {i j n : Nat} {ks : List Str} {π : List Nat} {dd : List D} {mf : List W → Py W} (c : Callee P w K mg base x i n ks π dd mf) (h : i ≤ j) : Callee P w K mg base x j n ks π dd mf := by
  obtain ⟨f, fd, ps, ds, dvs, G, r⟩ := c.ex
  exact ⟨f, fd, ps, ds, dvs, G.mono h, r⟩
end

/-! ### the entry -/
theorem rp_scr {K : PySem.W.Frag} {H : Hp} {a : Addr} {l : List Int} (h : (∃ o, H a = some (.frz o (.lst (l.map V.int)))) ∨ SqL K (fun _ => none) a (l.map V.int)) : RpWL K [] [] H [.d (.scr l)] [.ref a] := by
  refine ⟨.ref a, [], rfl, ?_, rfl⟩
  show Rp K ([] ++ []) H (.scr l) (.ref a)
  rw [Rp]
  exact ⟨a, rfl, h.imp (fun ⟨o, e⟩ => ⟨o, e, by simp⟩) id⟩
theorem relM_none {K : PySem.W.Frag} {H : Hp} : RelM K [] [] H [] := ⟨rfl, by simp, by simp, by simp, fun n a l e => by simp at e⟩
def EndOk (t0 : Shared) : Result → Shared → Prop := fun r t => r = .ok (.ret (.bool true)) ∧ OldK t0.heap t.heap ∧ t.os = t0.os ∧ AllBare t.gens
/-- from a tracked heap in which nothing but the script stands -/
theorem entry_core {P : Program} {w : World} {K : PySem.W.Frag} {mg mb : Str → Option Value} {k : Nat} {fa a : Addr} {fd : FuncData} {x : Str} {mf : List W → Py W} {t0 : Shared} {vs : List Value} {ns : List Int} {G : Hp}
    (KX : K.In t0.heap) (hns : t0.heap.Ns mainGlobals mg) (hb : t0.heap.Ns builtinsNs mb) (hbb : ∀ y : Str, y ≠ "__name__" → mb y = bootBuiltins y) (hlim : t0.heap.NoLimit) (hg : t0.gens = #[])
    (ha : t0.heap.get? a = some { cls := .type "list", data := .seq vs.toArray }) (hr : Room k callerA) (F : ∀ base : Heap, K.In base → base.Ns mainGlobals mg → FnG P w K mg base k fa fd [x] (spD K 1 mf)) (hbind : ∀ (s : Shared) (u : Value), BindsTo s fd ⟨[u], []⟩ [(x, u)])
    (hmf : mf [.d (.scr ns)] [] = some (.ok (.d (.bl true)) [])) (hO : Only G) (hS : (∃ o, G a = some (.frz o (.lst (ns.map V.int)))) ∨ SqL K (fun _ => none) a (ns.map V.int)) (hok : HOk P w G t0.heap) (hA : ∀ b, G b ≠ none → b = a) (hK : G a ≠ none → K.lookup a = none) :
    codeAny (model P w) callerA (.call (.ref fa) ⟨[.ref a], []⟩) (EndOk t0) t0 := by
  have base_of : ∀ {b : Addr} {o : Obj}, t0.heap.get? b = some o → G b = none → (hidT t0.heap G).get? b = some o := fun e n => hidT_get e n
  have only_a : ∀ {b : Addr} {q : HO}, G b = some q → b = a := fun e => hA _ (by rw [e]; exact fun z => nomatch z)
  have clean : ∀ {b : Addr} {o : Obj} {es : Array DictEntry} {ep : Nat}, t0.heap.get? b = some o → o.data = .dict es ep → G b = none := by
    intro b o es ep e d
    cases q : G b with
    | none => rfl
    | some u =>
      have e' := only_a q
      subst e'
      rw [ha] at e; cases e
      cases (show Data.seq vs.toArray _ = Data.dict es ep from d)
  have names : ∀ {b : Addr} {m : Str → Option Value}, t0.heap.Ns b m → (hidT t0.heap G).Ns b m := by
    rintro b m ⟨o, es, ep, e, d, r⟩
    exact ⟨o, es, ep, base_of e (clean e d), d, r⟩
  have kb : K.In (hidT t0.heap G) := by
    intro b o e
    refine base_of (KX b o e) ?_
    cases q : G b with
    | none => rfl
    | some u =>
      have e' := only_a q
      subst e'
      rw [hK (by rw [q]; exact fun z => nomatch z)] at e
      cases e
  have md : Mod K mg (hidT t0.heap G) := ⟨kb, names hns, ⟨mb, names hb, hbb⟩, by obtain ⟨mc, h1, h2⟩ := hlim; exact ⟨mc, names h1, h2⟩⟩
  have e0 : Env0 P w K mg (hidT t0.heap G) callerA [] t0 G := ⟨rfl, md, fun b o e => of_hidT e, Nat.le_of_eq (hidT_size _ _), trivial, (fun b hb => by cases hb), hok, .of_eq hg⟩
  have hsp : spD K 1 mf [.ref a] G (fun v _ => v = .bl true) fun _ _ _ => False := ⟨[], [], [.d (.scr ns)], [], _, relM_none, rp_scr hS, rfl, hmf, fun φ' H' v _ _ r => rw_bl r⟩
  refine codeAny_mono ((F _ kb (names hns)).run callerA [] t0 G ⟨[.ref a], []⟩ [.ref a] [.ref a] _ _ rfl hr e0 (hbind t0 (.ref a)) (.cons rfl .nil) hsp) fun r t h => ?_
  cases r with
  | error e =>
    obtain ⟨_, _, _, _, _, _, _, _, _, _, _, _, z⟩ := h
    exact z.elim
  | ok fl =>
    cases fl with
    | next => exact h.elim
    | brk => exact h.elim
    | cont => exact h.elim
    | ret u =>
      obtain ⟨v, H', os, bare, un, hok', r', q⟩ := h
      have q1 : v = .bl true := q
      subst q1
      have r1 : u = Value.bool true := r'
      subst r1
      refine ⟨rfl, OldK.of_keep fun b o e => ?_, os, bare⟩
      cases q : G b with
      | none => exact un.keep b o e q (fun z => by cases z) (by simp)
      | some u =>
        rcases hO b with z | ⟨ob, xs, z⟩
        · rw [q] at z
          cases z
        · have e1 := (hok b _ z).1
          rw [e] at e1; cases e1
          exact (hok' b _ (un.frzs b _ _ z)).1
theorem entry {P : Program} {w : World} {K : PySem.W.Frag} {mg mb : Str → Option Value} {k : Nat} {fa a : Addr} {fd : FuncData} {x : Str} {mf : List W → Py W} {t0 : Shared} {vs : List Value} {ns : List Int}
    (KX : K.In t0.heap) (hns : t0.heap.Ns mainGlobals mg) (hb : t0.heap.Ns builtinsNs mb) (hbb : ∀ y : Str, y ≠ "__name__" → mb y = bootBuiltins y) (hlim : t0.heap.NoLimit) (hg : t0.gens = #[])
    (ha : t0.heap.get? a = some { cls := .type "list", data := .seq vs.toArray }) (hi : IntsAre vs ns) (hl : ns.length ≤ sizeLine) (hr : Room k callerA) (F : ∀ base : Heap, K.In base → base.Ns mainGlobals mg → FnG P w K mg base k fa fd [x] (spD K 1 mf)) (hbind : ∀ (s : Shared) (u : Value), BindsTo s fd ⟨[u], []⟩ [(x, u)])
    (hmf : mf [.d (.scr ns)] [] = some (.ok (.d (.bl true)) [])) : codeAny (model P w) callerA (.call (.ref fa) ⟨[.ref a], []⟩) (EndOk t0) t0 := by
  have rv := vals_ints hi
  have lenV := hi.length
  cases hk : K.lookup a with
  | some o =>
    have e := KX a o hk
    rw [ha] at e; cases e
    refine entry_core (G := fun _ => none) KX hns hb hbb hlim hg ha hr F hbind hmf (fun _ => .inl rfl) (.inr (.inr ⟨_, vs.toArray, _, hk, rfl, rfl, rfl, ?_, ?_⟩)) (fun b u z => by cases z) (fun b z => absurd rfl z) fun z => absurd rfl z
    · rw [List.size_toArray, lenV]
      exact hl
    · simpa using rv
  | none =>
    have one : ∀ {b : Addr} {u : HO}, (if b = a then some (HO.frz { cls := .type "list", data := .seq vs.toArray } (.lst (ns.map V.int))) else none) = some u → b = a ∧ u = .frz { cls := .type "list", data := .seq vs.toArray } (.lst (ns.map V.int)) := by
      intro b u z
      split at z
      · rename_i hb
        exact ⟨hb, (Option.some.inj z).symm⟩
      · cases z
    refine entry_core (G := fun b => if b = a then some (.frz { cls := .type "list", data := .seq vs.toArray } (.lst (ns.map V.int))) else none) KX hns hb hbb hlim hg ha hr F hbind hmf (fun b => ?_) (.inl ⟨_, if_pos rfl⟩) (fun b u z => ?_) (fun b z => ?_) fun _ => hk
    · by_cases hb : b = a
      · exact .inr ⟨_, _, if_pos hb⟩
      · exact .inl (if_neg hb)
    · obtain ⟨e1, e2⟩ := one z
      subst e1 e2
      exact ⟨ha, by rw [List.length_map]; exact hl, vs, _, rv, ha⟩
    · by_cases hb : b = a
      · exact hb
      · exact absurd (if_neg hb) z
/-- the goal behind k_head -/
theorem enter {l : PySem.W.OpenLaw} {n k : Nat} {q : Program} {loose : List Str} {XP : (Str → Option Value) → Heap → Prop} {YP : World → Heap → Prop} {d : DefRec} {K : Params → PySem.W.Frag} {x : Str} {mf : List W → Py W}
    (hn : l.most = some n) (hn2 : n ≤ sizeLine) (hdf : d.params.defaults = []) (hr : Room k callerA) (hY : ∀ (w : World) (h : Heap), YP w h → (K w.params).In h)
    (hmf : ∀ ns : List Int, ns.length ≤ n → mf [.d (.scr ns)] [] = some (.ok (.d (.bl true)) []))
    (F : ∀ (w : World) (mg : Str → Option Value) (fa : Addr) (h : Heap), (K w.params).In h → h.Ns mainGlobals mg → mg d.name = some (.ref fa) → ∃ fd : FuncData, (∀ (s : Shared) (u : Value), BindsTo s fd ⟨[u], []⟩ [(x, u)]) ∧ ∀ base : Heap, (K w.params).In base → base.Ns mainGlobals mg → FnG l.prog w (K w.params) mg base k fa fd [x] (spD (K w.params) 1 mf)) :
    PySem.W.WalkO q loose XP YP l.row.toRowW d [] (fun f vs => PySem.call f vs) := by
  refine Att.attach_call hn hdf fun w s₀ t0 mg mb fa o pm cd doc a vs ns G Y ho hd hcd hmg hobj hints hlen hg => ?_
  have KX := hY w _ Y
  obtain ⟨fd, hb, hF⟩ := F w mg fa _ KX G.T.g hmg
  exact entry KX G.T.g G.T.b G.T.builtins G.T.nolimit hg hobj hints (Nat.le_trans hlen hn2) hr hF hb (hmf ns hlen)
theorem po_body {P : Program} {w : World} {K : PySem.W.Frag} {mg : Str → Option Value} {base : Heap} {N : List Str} {nd : N.Nodup} {qual : Str} {scope : Scope} {k : Nat} {f : Addr} {cdv : Value} {A : Around} {outer : List Env} {s : Shared} {H : Hp} {E : XK} {hr : Room k (A.deeper (envOfC qual scope s.heap.objs.size f cdv))} {hg : A.guards = some []} (i : (bodyFam P w K mg base N nd qual scope k f cdv A outer s H E hr hg).ι) :
    PassesOwn (model ((bodyFam P w K mg base N nd qual scope k f cdv A outer s H E hr hg).X i).prog ((bodyFam P w K mg base N nd qual scope k f cdv A outer s H E hr hg).X i).w) ((bodyFam P w K mg base N nd qual scope k f cdv A outer s H E hr hg).X i).A ((bodyFam P w K mg base N nd qual scope k f cdv A outer s H E hr hg).X i).env ((bodyFam P w K mg base N nd qual scope k f cdv A outer s H E hr hg).X i).xe := passes_of rfl
end DL
/-! DLs: plain functions are worked out by simp. -/
namespace DL
open PySem PySem.Spec PyProof.Rows L2

/-! ### one thing, then another -/
def thO {α β : Type} (o : Option (Out α)) (k : α → Mem → Option (Out β)) : Option (Out β) := match o with
  | none => none
  | some (.ex x M) => some (.ex x M)
  | some (.ok a M) => k a M
def thS {α : Type} (δ : Slots) (o : Option (Out α)) (k : α → Mem → Option (Out Fl)) : Option (Out Fl) := match o with
  | none => none
  | some (.ex x M) => some (.ok (.xc x δ) M)
  | some (.ok a M) => k a M
def thX {α β : Type} (o : Option (Out α)) (k : α → Mem → Option β) : Option β := match o with
  | some (.ok a M) => k a M
  | _ => none
def thP {α β : Type} (o : Option α) (k : α → Option β) : Option β := match o with
  | some a => k a
  | none => none
section
variable {α β : Type} {a : α} {M : Mem} {x : XV} {δ : Slots}
@[simp] theorem thO_ok (k : α → Mem → Option (Out β)) : thO (some (.ok a M)) k = k a M := rfl
@[simp] theorem thO_ex (k : α → Mem → Option (Out β)) : thO (some (.ex x M)) k = some (.ex x M) := rfl
@[simp] theorem thO_no (k : α → Mem → Option (Out β)) : thO none k = none := rfl
@[simp] theorem thS_ok (k : α → Mem → Option (Out Fl)) : thS δ (some (.ok a M)) k = k a M := rfl
@[simp] theorem thS_ex (k : α → Mem → Option (Out Fl)) : thS δ (some (.ex x M)) k = some (.ok (.xc x δ) M) := rfl
@[simp] theorem thX_ok (k : α → Mem → Option β) : thX (some (.ok a M)) k = k a M := rfl
@[simp] theorem thP_ok (k : α → Option β) : thP (some a) k = k a := rfl
@[simp] theorem thP_no (k : α → Option β) : thP none k = none := rfl
theorem tx {o : Option (Out α)} {k k' : α → Mem → Option (Out β)} (h : ∀ a M, k a M = k' a M) : thO o k = thO o k' := congrArg (thO o) (funext fun a => funext fun M => h a M)
theorem sx {o : Option (Out α)} {k k' : α → Mem → Option (Out Fl)} (h : ∀ a M, k a M = k' a M) : thS δ o k = thS δ o k' := congrArg (thS δ o) (funext fun a => funext fun M => h a M)
theorem xx {o : Option (Out α)} {k k' : α → Mem → Option β} (h : ∀ a M, k a M = k' a M) : thX o k = thX o k' := congrArg (thX o) (funext fun a => funext fun M => h a M)
end
section
variable {α β : Type} {δ : Slots} {M : Mem} {fa fb fc : Slots → Py W} {fT fU : Slots → Py Bool} {fs fk : Slots → Py (List W)} {f g : Slots → Py Fl}
theorem le_bnd (f : Py α) (g : α → Py β) : bnd f g M = thO (f M) g := by
  unfold bnd thO
  cases f M with
  | none => rfl
  | some o => cases o <;> rfl
theorem le_lft (f : Py α) (g : α → Py Fl) : lft δ f g M = thS δ (f M) g := by
  unfold lft thS
  cases f M with
  | none => rfl
  | some o => cases o <;> rfl
@[simp] theorem e_ret (a : α) : ret a M = some (.ok a M) := rfl
@[simp] theorem e_no : (no : Py α) M = none := rfl
theorem le_var (i : Nat) : fVar i δ M = thP (thP δ[i]? id) fun w => some (.ok w M) := by
  unfold fVar
  cases e : δ[i]? with
  | none => rfl
  | some o => cases o <;> rfl
@[simp] theorem e_C (d : D) : fC d δ M = some (.ok (.d d) M) := rfl
theorem pW (o : Option W) (M : Mem) : (match o with | some w => some (Out.ok w M) | none => none) = thP o fun w => some (.ok w M) := by cases o <;> rfl
theorem le_2 (g : Mem → W → W → Option W) : f2 g fa fb δ M = thO (fa δ M) fun x M1 => thO (fb δ M1) fun y M2 => thP (g M2 x y) fun w => some (.ok w M2) := by
  unfold f2
  rw [le_bnd]
  refine tx fun x M1 => ?_
  rw [le_bnd]
  exact tx fun y M2 => pW _ _
theorem le_1 (g : Mem → W → Option W) : f1 g fa δ M = thO (fa δ M) fun x M1 => thP (g M1 x) fun w => some (.ok w M1) := by
  unfold f1
  rw [le_bnd]
  exact tx fun y M2 => pW _ _
@[simp] theorem e_nil : fNil δ M = some (.ok [] M) := rfl
theorem le_cons : fCons fa fs δ M = thO (fa δ M) fun x M1 => thO (fs δ M1) fun xs M2 => some (.ok (x :: xs) M2) := by
  unfold fCons
  rw [le_bnd]
  refine tx fun x M1 => ?_
  rw [le_bnd]
  exact tx fun y M2 => rfl
@[simp] theorem e_dats0 : dats [] = some [] := rfl
theorem le_dats1 (x : D) (ws : List W) : dats (.d x :: ws) = thP (dats ws) fun l => some (x :: l) := by
  show (dats ws).map (x :: ·) = _
  cases dats ws <;> rfl
theorem pX {α β : Type} (o : Option α) (k : α → Option β) : (match o with | some w => k w | none => none) = thP o k := by cases o <;> rfl
theorem le_tup : fTup fs δ M = thO (fs δ M) fun ws M1 => thP (dats ws) fun ds => if ds.length ≤ 100000 then some (.ok (.d (.tup ds)) M1) else none := by
  unfold fTup
  rw [le_bnd]
  exact tx fun y M2 => by cases dats y <;> rfl
theorem le_lst : fLst fs δ M = thO (fs δ M) fun ws M1 => thP (dats ws) fun ds => if ds.length ≤ 100000 then some (.ok (.d (.lst ds)) M1) else none := by
  unfold fLst
  rw [le_bnd]
  exact tx fun y M2 => by cases dats y <;> rfl
theorem le_ref : fRef fs δ M = thO (fs δ M) fun ws M1 => thP (dats ws) fun ds => if ds.length ≤ 100000 then some (.ok (.r M1.length) (M1 ++ [ds])) else none := by
  unfold fRef
  rw [le_bnd]
  exact tx fun y M2 => by cases dats y <;> rfl
theorem le_cl (g : Mem → List W → Option W) : fCl g fs δ M = thO (fs δ M) fun x M1 => thP (g M1 x) fun w => some (.ok w M1) := by
  unfold fCl
  rw [le_bnd]
  exact tx fun y M2 => pW _ _
def isB : W → Option Bool
  | .d (.bl b) => some b
  | _ => none
@[simp] theorem isB_bl (b : Bool) : isB (.d (.bl b)) = some b := rfl
theorem le_B : fB fa δ M = thO (fa δ M) fun x M1 => thP (isB x) fun b => some (.ok b M1) := by
  unfold fB
  rw [le_bnd]
  refine tx fun x M1 => ?_
  cases x with
  | r n => rfl
  | d z => cases z <;> rfl
theorem le_and : fAnd fT fU δ M = thO (fT δ M) fun b M1 => if b = true then fU δ M1 else some (.ok false M1) := by
  unfold fAnd
  rw [le_bnd]
  exact tx fun b M1 => by cases b <;> rfl
theorem le_or : fOr fT fU δ M = thO (fT δ M) fun b M1 => if b = true then some (.ok true M1) else fU δ M1 := by
  unfold fOr
  rw [le_bnd]
  exact tx fun b M1 => by cases b <;> rfl
theorem le_not : fNot fT δ M = thO (fT δ M) fun b M1 => some (.ok (!b) M1) := by
  unfold fNot
  rw [le_bnd]
  exact tx fun b M1 => rfl
theorem le_val : fVal fT δ M = thO (fT δ M) fun b M1 => some (.ok (.d (.bl b)) M1) := by
  unfold fVal
  rw [le_bnd]
  exact tx fun b M1 => rfl
theorem le_if : fIf fT fa fb δ M = thO (fT δ M) fun b M1 => if b = true then fa δ M1 else fb δ M1 := by
  unfold fIf
  rw [le_bnd]
  exact tx fun b M1 => by cases b <;> rfl
theorem le_andV : fAndV fa fb δ M = thO (fB fa δ M) fun b M1 => if b = true then fb δ M1 else some (.ok (.d (.bl false)) M1) := by
  unfold fAndV
  rw [le_bnd]
  exact tx fun b M1 => by cases b <;> rfl
theorem le_orV : fOrV fa fb δ M = thO (fB fa δ M) fun b M1 => if b = true then some (.ok (.d (.bl true)) M1) else fb δ M1 := by
  unfold fOrV
  rw [le_bnd]
  exact tx fun b M1 => by cases b <;> rfl
theorem le_notV : fNotV fa δ M = thO (fB fa δ M) fun b M1 => some (.ok (.d (.bl (!b))) M1) := by
  unfold fNotV
  rw [le_bnd]
  exact tx fun b M1 => rfl
theorem le_chain (g g' : Mem → W → W → Option W) : fChain g g' fa fb fc δ M = thO (fa δ M) fun x M1 => thO (fb δ M1) fun y M2 => thP (thP (g M2 x y) isB) fun b => if b = true then thO (fc δ M2) fun z M3 => thP (g' M3 y z) fun w => some (.ok w M3) else some (.ok (.d (.bl false)) M2) := by
  unfold fChain
  rw [le_bnd]
  refine tx fun x M1 => ?_
  rw [le_bnd]
  refine tx fun y M2 => ?_
  cases g M2 x y with
  | none => rfl
  | some w => cases w with
    | r n => rfl
    | d z => cases z with
      | bl b => cases b with
        | false => rfl
        | true =>
          dsimp only
          rw [le_bnd]
          exact tx fun z M3 => pW _ _
      | _ => rfl
@[simp] theorem pick_nil (l : List α) : pick [] l = [] := rfl
theorem lpick_cons (i : Nat) (π : List Nat) (l : List α) : pick (i :: π) l = match l[i]? with | some a => a :: pick π l | none => pick π l := by
  show List.filterMap _ (i :: π) = _
  cases e : l[i]? with
  | none => rw [List.filterMap_cons_none e]; rfl
  | some a => rw [List.filterMap_cons_some e]; rfl
theorem le_call (n : Nat) (π : List Nat) (dd : List D) (mf : List W → Py W) : fCall n π dd mf fs δ M = thO (fs δ M) fun ws M1 => if ws.length = n then mf (pick π (ws ++ dd.map W.d)) M1 else none := by
  unfold fCall
  rw [le_bnd]
  exact tx fun b M1 => rfl
theorem le_callK (n m : Nat) (π : List Nat) (dd : List D) (mf : List W → Py W) : fCallK n m π dd mf fs fk δ M = thO (fs δ M) fun ws M1 => if ws.length = n then thO (fk δ M1) fun zs M2 => if zs.length = m then mf (pick π (ws ++ (zs ++ dd.map W.d))) M2 else none else none := by
  unfold fCallK
  rw [le_bnd]
  refine tx fun ws M1 => ?_
  unfold lenIs
  dsimp only
  rw [le_bnd]
@[simp] theorem e_noO : fNoO δ M = some (.ok none M) := rfl
def isI : W → Option Int
  | .d (.int b) => some b
  | _ => none
@[simp] theorem isI_int (b : Int) : isI (.d (.int b)) = some b := rfl
theorem le_O : fO fa δ M = thO (fa δ M) fun x M1 => thP (isI x) fun i => some (.ok (some i) M1) := by
  unfold fO
  rw [le_bnd]
  refine tx fun x M1 => ?_
  cases x with
  | r n => rfl
  | d z => cases z <;> rfl
theorem le_sl (fl fh : Slots → Py (Option Int)) : fSl fa fl fh δ M = thO (fa δ M) fun x M1 => thO (fl δ M1) fun lo M2 => thO (fh δ M2) fun hi M3 => thP (gSl M3 x lo hi) fun w => some (.ok w M3) := by
  unfold fSl
  rw [le_bnd]
  refine tx fun x M1 => ?_
  rw [le_bnd]
  refine tx fun x M1 => ?_
  rw [le_bnd]
  exact tx fun y M2 => pW _ _
theorem le_isi (T : String) : fIsi T fa δ M = thO (fa δ M) fun x M1 => thP (tyW x) fun t => some (.ok (.d (.bl (isT t T))) M1) := by
  unfold fIsi
  rw [le_bnd]
  exact tx fun y M2 => by cases tyW y <;> rfl
/-! statements -/
def goS (g : Slots → Py Fl) : Fl → Mem → Option (Out Fl)
  | .nx δ, M => g δ M
  | .rt w, M => some (.ok (.rt w) M)
  | .bk δ, M => some (.ok (.bk δ) M)
  | .ct δ, M => some (.ok (.ct δ) M)
  | .xc x δ, M => some (.ok (.xc x δ) M)
@[simp] theorem goS_nx : goS g (.nx δ) M = g δ M := rfl
@[simp] theorem goS_rt (w : W) : goS g (.rt w) M = some (.ok (.rt w) M) := rfl
@[simp] theorem goS_bk : goS g (.bk δ) M = some (.ok (.bk δ) M) := rfl
@[simp] theorem goS_ct : goS g (.ct δ) M = some (.ok (.ct δ) M) := rfl
@[simp] theorem goS_xc (x : XV) : goS g (.xc x δ) M = some (.ok (.xc x δ) M) := rfl
theorem le_seq : sSeq f g δ M = thO (f δ M) fun fl M1 => goS g fl M1 := by
  unfold sSeq
  rw [le_bnd]
  exact tx fun b M1 => by cases b <;> rfl
@[simp] theorem e_next : sNext δ M = some (.ok (.nx δ) M) := rfl
theorem le_sret : sRet fa δ M = thS δ (fa δ M) fun w M1 => some (.ok (.rt w) M1) := by
  unfold sRet
  rw [le_lft]
  exact sx fun b M1 => rfl
@[simp] theorem e_sretN : sRetN δ M = some (.ok (.rt (.d .non)) M) := rfl
theorem le_drop : sDrop fa δ M = thS δ (fa δ M) fun w M1 => some (.ok (.nx δ) M1) := by
  unfold sDrop
  rw [le_lft]
  exact sx fun b M1 => rfl
theorem le_sif : sIf fT f g δ M = thS δ (fT δ M) fun b M1 => if b = true then f δ M1 else g δ M1 := by
  unfold sIf
  rw [le_lft]
  exact sx fun b M1 => by cases b <;> rfl
@[simp] theorem e_brk : sBrk δ M = some (.ok (.bk δ) M) := rfl
@[simp] theorem e_cnt : sCnt δ M = some (.ok (.ct δ) M) := rfl
@[simp] theorem e_sno : sNo δ M = none := rfl
@[simp] theorem e_gN (i : Nat) (w : W) : gN i w δ M = some (.ok (δ.set i (some w)) M) := rfl
theorem le_gT (n : Nat) (fs : List D → Slots → Py Slots) (ds : List D) : gT n fs (.d (.tup ds)) δ M = if ds.length = n then fs ds δ M else none := by
  unfold gT
  dsimp only
  split <;> rfl
@[simp] theorem e_gsNil : gsNil [] δ M = some (.ok δ M) := rfl
theorem le_gsCons (f : W → Slots → Py Slots) (fs : List D → Slots → Py Slots) (x : D) (ds : List D) : gsCons f fs (x :: ds) δ M = thX (f (.d x) δ M) fun δ1 M1 => fs ds δ1 M1 := by
  unfold gsCons
  dsimp only
  cases f (.d x) δ M with
  | none => rfl
  | some o1 => cases o1 <;> rfl
def isR : W → Option Nat
  | .r n => some n
  | _ => none
@[simp] theorem isR_r (n : Nat) : isR (.r n) = some n := rfl
def isD : W → Option D
  | .d n => some n
  | _ => none
@[simp] theorem isD_d (n : D) : isD (.d n) = some n := rfl
theorem le_subL (fo fi : Slots → Py W) (w : W) : gSubL fo fi w δ M = thX (fo δ M) fun o M1 => thP (isR o) fun n => thX (fi δ M1) fun i M2 => thP (isI i) fun k => thP (isD w) fun x => thP M2[n]? fun l => thP (ixN l.length k) fun j => some (.ok δ (M2.set n (l.set j x))) := by
  unfold gSubL
  cases fo δ M with
  | none => rfl
  | some o1 => cases o1 with
    | ex x M1 => rfl
    | ok b M1 => cases b with
      | d x => rfl
      | r n =>
        show _ = thX (fi δ M1) _
        dsimp only
        cases fi δ M1 with
        | none => rfl
        | some o2 => cases o2 with
          | ex x M1 => rfl
          | ok b M2 => cases b with
            | r m => rfl
            | d z => cases z with
              | int k =>
                cases w with
                | r m =>
                  dsimp only
                  cases M2[n]? <;> rfl
                | d x =>
                  show _ = thP M2[n]? _
                  dsimp only
                  cases M2[n]? with
                  | none => rfl
                  | some l =>
                    show _ = thP (ixN l.length k) _
                    dsimp only
                    cases ixN l.length k <;> rfl
              | _ => rfl
theorem le_asg (g : W → Slots → Py Slots) : sAsg fa g δ M = thS δ (fa δ M) fun w M1 => thX (g w δ M1) fun δ1 M2 => some (.ok (.nx δ1) M2) := by
  unfold sAsg
  rw [le_lft]
  refine sx fun b M1 => ?_
  cases g b δ M1 with
  | none => rfl
  | some o2 => cases o2 <;> rfl
def is2 : List W → Option (W × W)
  | [a, b] => some (a, b)
  | _ => none
def is3 : List W → Option (W × W × W)
  | [a, b, c] => some (a, b, c)
  | _ => none
@[simp] theorem is2_2 (a b : W) : is2 [a, b] = some (a, b) := rfl
@[simp] theorem is3_3 (a b c : W) : is3 [a, b, c] = some (a, b, c) := rfl
theorem le_par (i j : Nat) : sPar i j fs δ M = thS δ (fs δ M) fun ws M1 => thP (is2 ws) fun p => some (.ok (.nx ((δ.set i (some p.1)).set j (some p.2))) M1) := by
  unfold sPar
  rw [le_lft]
  refine sx fun b M1 => ?_
  match b with
  | [] => rfl
  | [_] => rfl
  | [_, _] => rfl
  | _ :: _ :: _ :: _ => rfl
theorem le_par3 (i j k : Nat) : sPar3 i j k fs δ M = thS δ (fs δ M) fun ws M1 => thP (is3 ws) fun p => some (.ok (.nx (((δ.set i (some p.1)).set j (some p.2.1)).set k (some p.2.2))) M1) := by
  unfold sPar3
  rw [le_lft]
  refine sx fun b M1 => ?_
  match b with
  | [] => rfl
  | [_] => rfl
  | [_, _] => rfl
  | [_, _, _] => rfl
  | _ :: _ :: _ :: _ :: _ => rfl
end
/-! ### the operators at data -/
section
variable {M : Mem} {i j : Int}
@[simp] theorem o_addI : gAdd M (.d (.int i)) (.d (.int j)) = some (.d (.int (i + j))) := rfl
@[simp] theorem o_II {c : Int → Int → Prop} [∀ i j, Decidable (c i j)] {g : Int → Int → D} (h : c i j) : gII c g M (.d (.int i)) (.d (.int j)) = some (.d (g i j)) := by
  show (if c i j then _ else _) = _
  rw [if_pos h]
@[simp] theorem c_yes : cYes i j := trivial
@[simp] theorem c_mulL (h1 : -(2 ^ 64) < i) (h2 : i < 2 ^ 64) : cMul i j := .inl (.inl ⟨h1, h2⟩)
@[simp] theorem c_mulR (h1 : -(2 ^ 64) < j) (h2 : j < 2 ^ 64) : cMul i j := .inl (.inr ⟨h1, h2⟩)
@[simp] theorem c_mod (h : 0 < j) : cMod i j := h
theorem c_div (h : 0 < j) (h2 : j.natAbs < 2 ^ 5000) : cDiv i j := ⟨h, h2⟩
@[simp] theorem c_divS (h : 0 < j) (h2 : j < 2 ^ 64) : cDiv i j := ⟨h, Nat.lt_of_lt_of_le (show j.natAbs < 2 ^ 64 by omega) (Nat.pow_le_pow_right (by decide) (by decide))⟩
@[simp] theorem o_neg : gNeg M (.d (.int i)) = some (.d (.int (-i))) := rfl
@[simp] theorem o_divmod (h : cDm i j) : gDivmod M (.d (.int i)) (.d (.int j)) = some (.d (.tup [.int (i / j), .int (i % j)])) := by
  show (if cDm i j then _ else _) = _
  rw [if_pos h]
@[simp] theorem o_abs : gAbs M (.d (.int i)) = some (.d (.int (if i < 0 then -i else i))) := rfl
@[simp] theorem o_g1 (g : Mem → W → Option W) (w : W) : g1 g M [w] = g M w := rfl
@[simp] theorem o_g2 (g : Mem → W → W → Option W) (w u : W) : g2 g M [w, u] = g M w u := rfl
@[simp] theorem o_lenL (l : List D) : gLen M (.d (.lst l)) = some (.d (.int l.length)) := rfl
@[simp] theorem o_lenT (l : List D) : gLen M (.d (.tup l)) = some (.d (.int l.length)) := rfl
@[simp] theorem o_lenS (l : List Int) : gLen M (.d (.scr l)) = some (.d (.int l.length)) := by
  show some (W.d (D.int ((l.map D.int).length : Int))) = _
  rw [List.length_map]
theorem lo_lenR (n : Nat) : gLen M (.r n) = thP M[n]? fun l => some (.d (.int l.length)) := by
  show (match M[n]? with | some l => some (W.d (.int l.length)) | none => none) = _
  cases M[n]? <;> rfl
theorem lo_ixL (l : List D) : gIx M (.d (.lst l)) (.d (.int i)) = thP (atI l i) fun x => some (.d x) := by
  show (atI l i).map W.d = _
  cases atI l i <;> rfl
theorem lo_ixT (l : List D) : gIx M (.d (.tup l)) (.d (.int i)) = thP (atI l i) fun x => some (.d x) := by
  show (atI l i).map W.d = _
  cases atI l i <;> rfl
theorem lo_ixR (n : Nat) : gIx M (.r n) (.d (.int i)) = thP M[n]? fun l => thP (atI l i) fun x => some (.d x) := by
  show (match M[n]? with | some l => (atI l i).map W.d | none => none) = _
  cases M[n]? with
  | none => rfl
  | some l =>
    dsimp only [thP]
    cases atI l i <;> rfl
end

/-! ### what is left to do, by its name -/
section
variable {α β : Type} {δ : Slots} {M : Mem} {fa fb fc : Slots → Py W} {fT fU : Slots → Py Bool} {fs fk : Slots → Py (List W)} {f g : Slots → Py Fl} {i j : Int}
def kW (M : Mem) (w : W) : Option (Out W) := some (.ok w M)
@[simp] theorem kW_ (w : W) : kW M w = some (.ok w M) := rfl
def kVar (o : Option W) : Option W := o
@[simp] theorem kVar_ (o : Option W) : kVar o = o := rfl
@[simp] theorem e_var (n : Nat) : fVar n δ M = thP (thP δ[n]? kVar) (kW M) := le_var n
def k2b (g : Mem → W → W → Option W) (x y : W) (M2 : Mem) : Option (Out W) := thP (g M2 x y) (kW M2)
@[simp] theorem k2b_ (g : Mem → W → W → Option W) (x y : W) : k2b g x y M = thP (g M x y) (kW M) := rfl
def k2a (g : Mem → W → W → Option W) (fb : Slots → Py W) (δ : Slots) (x : W) (M1 : Mem) : Option (Out W) := thO (fb δ M1) (k2b g x)
@[simp] theorem k2a_ (g : Mem → W → W → Option W) (x : W) : k2a g fb δ x M = thO (fb δ M) (k2b g x) := rfl
@[simp] theorem e_2 (g : Mem → W → W → Option W) : f2 g fa fb δ M = thO (fa δ M) (k2a g fb δ) := le_2 g
def k1 (g : Mem → W → Option W) (x : W) (M1 : Mem) : Option (Out W) := thP (g M1 x) (kW M1)
@[simp] theorem k1_ (g : Mem → W → Option W) (x : W) : k1 g x M = thP (g M x) (kW M) := rfl
@[simp] theorem e_1 (g : Mem → W → Option W) : f1 g fa δ M = thO (fa δ M) (k1 g) := le_1 g
def kCb (x : W) (xs : List W) (M2 : Mem) : Option (Out (List W)) := some (.ok (x :: xs) M2)
@[simp] theorem kCb_ (x : W) (xs : List W) : kCb x xs M = some (.ok (x :: xs) M) := rfl
def kCa (fs : Slots → Py (List W)) (δ : Slots) (x : W) (M1 : Mem) : Option (Out (List W)) := thO (fs δ M1) (kCb x)
@[simp] theorem kCa_ (x : W) : kCa fs δ x M = thO (fs δ M) (kCb x) := rfl
@[simp] theorem e_cons : fCons fa fs δ M = thO (fa δ M) (kCa fs δ) := le_cons
def kL (x : D) (l : List D) : Option (List D) := some (x :: l)
@[simp] theorem kL_ (x : D) (l : List D) : kL x l = some (x :: l) := rfl
@[simp] theorem e_dats1 (x : D) (ws : List W) : dats (.d x :: ws) = thP (dats ws) (kL x) := le_dats1 x ws
def kT1 (M1 : Mem) (ds : List D) : Option (Out W) := if ds.length ≤ 100000 then some (.ok (.d (.tup ds)) M1) else none
def kL1 (M1 : Mem) (ds : List D) : Option (Out W) := if ds.length ≤ 100000 then some (.ok (.d (.lst ds)) M1) else none
def kR1 (M1 : Mem) (ds : List D) : Option (Out W) := if ds.length ≤ 100000 then some (.ok (.r M1.length) (M1 ++ [ds])) else none
@[simp] theorem kT1_ (ds : List D) (h : ds.length ≤ 100000) : kT1 M ds = some (.ok (.d (.tup ds)) M) := if_pos h
@[simp] theorem kL1_ (ds : List D) (h : ds.length ≤ 100000) : kL1 M ds = some (.ok (.d (.lst ds)) M) := if_pos h
@[simp] theorem kR1_ (ds : List D) (h : ds.length ≤ 100000) : kR1 M ds = some (.ok (.r M.length) (M ++ [ds])) := if_pos h
def kT (ws : List W) (M1 : Mem) : Option (Out W) := thP (dats ws) (kT1 M1)
def kLs (ws : List W) (M1 : Mem) : Option (Out W) := thP (dats ws) (kL1 M1)
def kR (ws : List W) (M1 : Mem) : Option (Out W) := thP (dats ws) (kR1 M1)
@[simp] theorem kT_ (ws : List W) : kT ws M = thP (dats ws) (kT1 M) := rfl
@[simp] theorem kLs_ (ws : List W) : kLs ws M = thP (dats ws) (kL1 M) := rfl
@[simp] theorem kR_ (ws : List W) : kR ws M = thP (dats ws) (kR1 M) := rfl
@[simp] theorem e_tup : fTup fs δ M = thO (fs δ M) kT := le_tup
@[simp] theorem e_lst : fLst fs δ M = thO (fs δ M) kLs := le_lst
@[simp] theorem e_ref : fRef fs δ M = thO (fs δ M) kR := le_ref
def kCl (g : Mem → List W → Option W) (ws : List W) (M1 : Mem) : Option (Out W) := thP (g M1 ws) (kW M1)
@[simp] theorem kCl_ (g : Mem → List W → Option W) (ws : List W) : kCl g ws M = thP (g M ws) (kW M) := rfl
@[simp] theorem e_cl (g : Mem → List W → Option W) : fCl g fs δ M = thO (fs δ M) (kCl g) := le_cl g
def kOk (M : Mem) (a : α) : Option (Out α) := some (.ok a M)
@[simp] theorem kOk_ (a : α) : kOk M a = some (.ok a M) := rfl
def kB (x : W) (M1 : Mem) : Option (Out Bool) := thP (isB x) (kOk M1)
@[simp] theorem kB_ (x : W) : kB x M = thP (isB x) (kOk M) := rfl
@[simp] theorem e_B : fB fa δ M = thO (fa δ M) kB := le_B
def kAnd (fU : Slots → Py Bool) (δ : Slots) (b : Bool) (M1 : Mem) : Option (Out Bool) := if b = true then fU δ M1 else some (.ok false M1)
def kOr (fU : Slots → Py Bool) (δ : Slots) (b : Bool) (M1 : Mem) : Option (Out Bool) := if b = true then some (.ok true M1) else fU δ M1
@[simp] theorem kAnd_t : kAnd fU δ true M = fU δ M := rfl
@[simp] theorem kAnd_f : kAnd fU δ false M = some (.ok false M) := rfl
@[simp] theorem kOr_t : kOr fU δ true M = some (.ok true M) := rfl
@[simp] theorem kOr_f : kOr fU δ false M = fU δ M := rfl
@[simp] theorem e_and : fAnd fT fU δ M = thO (fT δ M) (kAnd fU δ) := le_and
@[simp] theorem e_or : fOr fT fU δ M = thO (fT δ M) (kOr fU δ) := le_or
def kNot (b : Bool) (M1 : Mem) : Option (Out Bool) := some (.ok (!b) M1)
@[simp] theorem kNot_ (b : Bool) : kNot b M = some (.ok (!b) M) := rfl
@[simp] theorem e_not : fNot fT δ M = thO (fT δ M) kNot := le_not
@[simp] theorem e_bnd (f : Py α) (g : α → Py β) : bnd f g M = thO (f M) g := le_bnd f g
@[simp] theorem e_lft (f : Py α) (g : α → Py Fl) : lft δ f g M = thS δ (f M) g := le_lft f g
def kVal (b : Bool) (M1 : Mem) : Option (Out W) := some (.ok (.d (.bl b)) M1)
@[simp] theorem kVal_ (b : Bool) : kVal b M = some (.ok (.d (.bl b)) M) := rfl
@[simp] theorem e_val : fVal fT δ M = thO (fT δ M) kVal := le_val
def kIf (fa fb : Slots → Py W) (δ : Slots) (b : Bool) (M1 : Mem) : Option (Out W) := if b = true then fa δ M1 else fb δ M1
@[simp] theorem kIf_t : kIf fa fb δ true M = fa δ M := rfl
@[simp] theorem kIf_f : kIf fa fb δ false M = fb δ M := rfl
@[simp] theorem e_if : fIf fT fa fb δ M = thO (fT δ M) (kIf fa fb δ) := le_if
def kAndV (fb : Slots → Py W) (δ : Slots) (b : Bool) (M1 : Mem) : Option (Out W) := if b = true then fb δ M1 else some (.ok (.d (.bl false)) M1)
def kOrV (fb : Slots → Py W) (δ : Slots) (b : Bool) (M1 : Mem) : Option (Out W) := if b = true then some (.ok (.d (.bl true)) M1) else fb δ M1
@[simp] theorem kAndV_t : kAndV fb δ true M = fb δ M := rfl
@[simp] theorem kAndV_f : kAndV fb δ false M = some (.ok (.d (.bl false)) M) := rfl
@[simp] theorem kOrV_t : kOrV fb δ true M = some (.ok (.d (.bl true)) M) := rfl
@[simp] theorem kOrV_f : kOrV fb δ false M = fb δ M := rfl
@[simp] theorem e_andV : fAndV fa fb δ M = thO (fB fa δ M) (kAndV fb δ) := le_andV
@[simp] theorem e_orV : fOrV fa fb δ M = thO (fB fa δ M) (kOrV fb δ) := le_orV
def kNotV (b : Bool) (M1 : Mem) : Option (Out W) := some (.ok (.d (.bl (!b))) M1)
@[simp] theorem kNotV_ (b : Bool) : kNotV b M = some (.ok (.d (.bl (!b))) M) := rfl
@[simp] theorem e_notV : fNotV fa δ M = thO (fB fa δ M) kNotV := le_notV
def kCh3 (g' : Mem → W → W → Option W) (y z : W) (M3 : Mem) : Option (Out W) := thP (g' M3 y z) (kW M3)
@[simp] theorem kCh3_ (g' : Mem → W → W → Option W) (y z : W) : kCh3 g' y z M = thP (g' M y z) (kW M) := rfl
def kChB (g' : Mem → W → W → Option W) (fc : Slots → Py W) (δ : Slots) (y : W) (M2 : Mem) (b : Bool) : Option (Out W) := if b = true then thO (fc δ M2) (kCh3 g' y) else some (.ok (.d (.bl false)) M2)
@[simp] theorem kChB_t (g' : Mem → W → W → Option W) (y : W) : kChB g' fc δ y M true = thO (fc δ M) (kCh3 g' y) := rfl
@[simp] theorem kChB_f (g' : Mem → W → W → Option W) (y : W) : kChB g' fc δ y M false = some (.ok (.d (.bl false)) M) := rfl
def kCh2 (g g' : Mem → W → W → Option W) (fc : Slots → Py W) (δ : Slots) (x y : W) (M2 : Mem) : Option (Out W) := thP (thP (g M2 x y) isB) (kChB g' fc δ y M2)
@[simp] theorem kCh2_ (g g' : Mem → W → W → Option W) (x y : W) : kCh2 g g' fc δ x y M = thP (thP (g M x y) isB) (kChB g' fc δ y M) := rfl
def kCh1 (g g' : Mem → W → W → Option W) (fb fc : Slots → Py W) (δ : Slots) (x : W) (M1 : Mem) : Option (Out W) := thO (fb δ M1) (kCh2 g g' fc δ x)
@[simp] theorem kCh1_ (g g' : Mem → W → W → Option W) (x : W) : kCh1 g g' fb fc δ x M = thO (fb δ M) (kCh2 g g' fc δ x) := rfl
@[simp] theorem e_chain (g g' : Mem → W → W → Option W) : fChain g g' fa fb fc δ M = thO (fa δ M) (kCh1 g g' fb fc δ) := le_chain g g'
def kPk (π : List Nat) (l : List α) (a : α) : List α := a :: pick π l
def pickO (o : Option α) (r : List α) : List α := match o with | some a => a :: r | none => r
@[simp] theorem pickO_s (a : α) (r : List α) : pickO (some a) r = a :: r := rfl
@[simp] theorem pick_cons (i : Nat) (π : List Nat) (l : List α) : pick (i :: π) l = pickO l[i]? (pick π l) := by
  rw [lpick_cons]
  cases l[i]? <;> rfl
def kCall (n : Nat) (π : List Nat) (dd : List D) (mf : List W → Py W) (ws : List W) (M1 : Mem) : Option (Out W) := if ws.length = n then mf (pick π (ws ++ dd.map W.d)) M1 else none
@[simp] theorem kCall_ (n : Nat) (π : List Nat) (dd : List D) (mf : List W → Py W) (ws : List W) (h : ws.length = n) : kCall n π dd mf ws M = mf (pick π (ws ++ dd.map W.d)) M := if_pos h
@[simp] theorem e_call (n : Nat) (π : List Nat) (dd : List D) (mf : List W → Py W) : fCall n π dd mf fs δ M = thO (fs δ M) (kCall n π dd mf) := le_call n π dd mf
def kCK2 (m : Nat) (π : List Nat) (dd : List D) (mf : List W → Py W) (ws zs : List W) (M2 : Mem) : Option (Out W) := if zs.length = m then mf (pick π (ws ++ (zs ++ dd.map W.d))) M2 else none
@[simp] theorem kCK2_ (m : Nat) (π : List Nat) (dd : List D) (mf : List W → Py W) (ws zs : List W) (h : zs.length = m) : kCK2 m π dd mf ws zs M = mf (pick π (ws ++ (zs ++ dd.map W.d))) M := if_pos h
def kCK1 (n m : Nat) (π : List Nat) (dd : List D) (mf : List W → Py W) (fk : Slots → Py (List W)) (δ : Slots) (ws : List W) (M1 : Mem) : Option (Out W) := if ws.length = n then thO (fk δ M1) (kCK2 m π dd mf ws) else none
@[simp] theorem kCK1_ (n m : Nat) (π : List Nat) (dd : List D) (mf : List W → Py W) (ws : List W) (h : ws.length = n) : kCK1 n m π dd mf fk δ ws M = thO (fk δ M) (kCK2 m π dd mf ws) := if_pos h
@[simp] theorem e_callK (n m : Nat) (π : List Nat) (dd : List D) (mf : List W → Py W) : fCallK n m π dd mf fs fk δ M = thO (fs δ M) (kCK1 n m π dd mf fk δ) := le_callK n m π dd mf
def kO2 (M1 : Mem) (i : Int) : Option (Out (Option Int)) := some (.ok (some i) M1)
@[simp] theorem kO2_ : kO2 M i = some (.ok (some i) M) := rfl
def kO (x : W) (M1 : Mem) : Option (Out (Option Int)) := thP (isI x) (kO2 M1)
@[simp] theorem kO_ (x : W) : kO x M = thP (isI x) (kO2 M) := rfl
@[simp] theorem e_O : fO fa δ M = thO (fa δ M) kO := le_O
def kSl3 (x : W) (lo hi : Option Int) (M3 : Mem) : Option (Out W) := thP (gSl M3 x lo hi) (kW M3)
@[simp] theorem kSl3_ (x : W) (lo hi : Option Int) : kSl3 x lo hi M = thP (gSl M x lo hi) (kW M) := rfl
def kSl2 (fh : Slots → Py (Option Int)) (δ : Slots) (x : W) (lo : Option Int) (M2 : Mem) : Option (Out W) := thO (fh δ M2) (kSl3 x lo)
@[simp] theorem kSl2_ (fh : Slots → Py (Option Int)) (x : W) (lo : Option Int) : kSl2 fh δ x lo M = thO (fh δ M) (kSl3 x lo) := rfl
def kSl1 (fl fh : Slots → Py (Option Int)) (δ : Slots) (x : W) (M1 : Mem) : Option (Out W) := thO (fl δ M1) (kSl2 fh δ x)
@[simp] theorem kSl1_ (fl fh : Slots → Py (Option Int)) (x : W) : kSl1 fl fh δ x M = thO (fl δ M) (kSl2 fh δ x) := rfl
@[simp] theorem e_sl (fl fh : Slots → Py (Option Int)) : fSl fa fl fh δ M = thO (fa δ M) (kSl1 fl fh δ) := le_sl fl fh
def kIs2 (T : String) (M1 : Mem) (t : String) : Option (Out W) := some (.ok (.d (.bl (isT t T))) M1)
@[simp] theorem kIs2_ (T t : String) : kIs2 T M t = some (.ok (.d (.bl (isT t T))) M) := rfl
def kIs (T : String) (x : W) (M1 : Mem) : Option (Out W) := thP (tyW x) (kIs2 T M1)
@[simp] theorem kIs_ (T : String) (x : W) : kIs T x M = thP (tyW x) (kIs2 T M) := rfl
@[simp] theorem e_isi (T : String) : fIsi T fa δ M = thO (fa δ M) (kIs T) := le_isi T
@[simp] theorem e_seq : sSeq f g δ M = thO (f δ M) (goS g) := le_seq
def kRt (w : W) (M1 : Mem) : Option (Out Fl) := some (.ok (.rt w) M1)
@[simp] theorem kRt_ (w : W) : kRt w M = some (.ok (.rt w) M) := rfl
@[simp] theorem e_sret : sRet fa δ M = thS δ (fa δ M) kRt := le_sret
def kDr (δ : Slots) (w : W) (M1 : Mem) : Option (Out Fl) := some (.ok (.nx δ) M1)
@[simp] theorem kDr_ (w : W) : kDr δ w M = some (.ok (.nx δ) M) := rfl
@[simp] theorem e_drop : sDrop fa δ M = thS δ (fa δ M) (kDr δ) := le_drop
def kSif (f g : Slots → Py Fl) (δ : Slots) (b : Bool) (M1 : Mem) : Option (Out Fl) := if b = true then f δ M1 else g δ M1
@[simp] theorem kSif_t : kSif f g δ true M = f δ M := rfl
@[simp] theorem kSif_f : kSif f g δ false M = g δ M := rfl
@[simp] theorem e_sif : sIf fT f g δ M = thS δ (fT δ M) (kSif f g δ) := le_sif
@[simp] theorem e_gT (n : Nat) (fs : List D → Slots → Py Slots) (ds : List D) (h : ds.length = n) : gT n fs (.d (.tup ds)) δ M = fs ds δ M := by rw [le_gT, if_pos h]
@[simp] theorem e_gsCons (f : W → Slots → Py Slots) (fs : List D → Slots → Py Slots) (x : D) (ds : List D) : gsCons f fs (x :: ds) δ M = thX (f (.d x) δ M) (fs ds) := le_gsCons f fs x ds
def kSb6 (δ : Slots) (M2 : Mem) (n : Nat) (x : D) (l : List D) (j : Nat) : Option (Out Slots) := some (.ok δ (M2.set n (l.set j x)))
@[simp] theorem kSb6_ (n : Nat) (x : D) (l : List D) (j : Nat) : kSb6 δ M n x l j = some (.ok δ (M.set n (l.set j x))) := rfl
def kSb5 (δ : Slots) (M2 : Mem) (n : Nat) (k : Int) (x : D) (l : List D) : Option (Out Slots) := thP (ixN l.length k) (kSb6 δ M2 n x l)
@[simp] theorem kSb5_ (n : Nat) (k : Int) (x : D) (l : List D) : kSb5 δ M n k x l = thP (ixN l.length k) (kSb6 δ M n x l) := rfl
def kSb4 (δ : Slots) (M2 : Mem) (n : Nat) (k : Int) (x : D) : Option (Out Slots) := thP M2[n]? (kSb5 δ M2 n k x)
@[simp] theorem kSb4_ (n : Nat) (k : Int) (x : D) : kSb4 δ M n k x = thP M[n]? (kSb5 δ M n k x) := rfl
def kSb3 (δ : Slots) (M2 : Mem) (n : Nat) (w : W) (k : Int) : Option (Out Slots) := thP (isD w) (kSb4 δ M2 n k)
@[simp] theorem kSb3_ (n : Nat) (w : W) (k : Int) : kSb3 δ M n w k = thP (isD w) (kSb4 δ M n k) := rfl
def kSb2 (δ : Slots) (n : Nat) (w i : W) (M2 : Mem) : Option (Out Slots) := thP (isI i) (kSb3 δ M2 n w)
@[simp] theorem kSb2_ (n : Nat) (w i : W) : kSb2 δ n w i M = thP (isI i) (kSb3 δ M n w) := rfl
def kSb1 (fi : Slots → Py W) (δ : Slots) (w : W) (M1 : Mem) (n : Nat) : Option (Out Slots) := thX (fi δ M1) (kSb2 δ n w)
@[simp] theorem kSb1_ (fi : Slots → Py W) (w : W) (n : Nat) : kSb1 fi δ w M n = thX (fi δ M) (kSb2 δ n w) := rfl
def kSb0 (fi : Slots → Py W) (δ : Slots) (w o : W) (M1 : Mem) : Option (Out Slots) := thP (isR o) (kSb1 fi δ w M1)
@[simp] theorem kSb0_ (fi : Slots → Py W) (w o : W) : kSb0 fi δ w o M = thP (isR o) (kSb1 fi δ w M) := rfl
@[simp] theorem e_subL (fo fi : Slots → Py W) (w : W) : gSubL fo fi w δ M = thX (fo δ M) (kSb0 fi δ w) := le_subL fo fi w
def kAs2 (δ1 : Slots) (M2 : Mem) : Option (Out Fl) := some (.ok (.nx δ1) M2)
@[simp] theorem kAs2_ : kAs2 δ M = some (.ok (.nx δ) M) := rfl
def kAs (g : W → Slots → Py Slots) (δ : Slots) (w : W) (M1 : Mem) : Option (Out Fl) := thX (g w δ M1) kAs2
@[simp] theorem kAs_ (g : W → Slots → Py Slots) (w : W) : kAs g δ w M = thX (g w δ M) kAs2 := rfl
@[simp] theorem e_asg (g : W → Slots → Py Slots) : sAsg fa g δ M = thS δ (fa δ M) (kAs g δ) := le_asg g
def kPr2 (i j : Nat) (δ : Slots) (M1 : Mem) (p : W × W) : Option (Out Fl) := some (.ok (.nx ((δ.set i (some p.1)).set j (some p.2))) M1)
@[simp] theorem kPr2_ (i j : Nat) (p : W × W) : kPr2 i j δ M p = some (.ok (.nx ((δ.set i (some p.1)).set j (some p.2))) M) := rfl
def kPr (i j : Nat) (δ : Slots) (ws : List W) (M1 : Mem) : Option (Out Fl) := thP (is2 ws) (kPr2 i j δ M1)
@[simp] theorem kPr_ (i j : Nat) (ws : List W) : kPr i j δ ws M = thP (is2 ws) (kPr2 i j δ M) := rfl
@[simp] theorem e_par (i j : Nat) : sPar i j fs δ M = thS δ (fs δ M) (kPr i j δ) := le_par i j
def kPt2 (i j k : Nat) (δ : Slots) (M1 : Mem) (p : W × W × W) : Option (Out Fl) := some (.ok (.nx (((δ.set i (some p.1)).set j (some p.2.1)).set k (some p.2.2))) M1)
@[simp] theorem kPt2_ (i j k : Nat) (p : W × W × W) : kPt2 i j k δ M p = some (.ok (.nx (((δ.set i (some p.1)).set j (some p.2.1)).set k (some p.2.2))) M) := rfl
def kPt (i j k : Nat) (δ : Slots) (ws : List W) (M1 : Mem) : Option (Out Fl) := thP (is3 ws) (kPt2 i j k δ M1)
@[simp] theorem kPt_ (i j k : Nat) (ws : List W) : kPt i j k δ ws M = thP (is3 ws) (kPt2 i j k δ M) := rfl
@[simp] theorem e_par3 (i j k : Nat) : sPar3 i j k fs δ M = thS δ (fs δ M) (kPt i j k δ) := le_par3 i j k
def kD (x : D) : Option W := some (.d x)
@[simp] theorem kD_ (x : D) : kD x = some (.d x) := rfl
def kLen (l : List D) : Option W := some (.d (.int l.length))
@[simp] theorem kLen_ (l : List D) : kLen l = some (.d (.int l.length)) := rfl
@[simp] theorem o_lenR (n : Nat) : gLen M (.r n) = thP M[n]? kLen := lo_lenR n
@[simp] theorem o_ixL (l : List D) : gIx M (.d (.lst l)) (.d (.int i)) = thP (atI l i) kD := lo_ixL l
@[simp] theorem o_ixT (l : List D) : gIx M (.d (.tup l)) (.d (.int i)) = thP (atI l i) kD := lo_ixT l
def kIx (i : Int) (l : List D) : Option W := thP (atI l i) kD
@[simp] theorem kIx_ (l : List D) : kIx i l = thP (atI l i) kD := rfl
@[simp] theorem o_ixR (n : Nat) : gIx M (.r n) (.d (.int i)) = thP M[n]? (kIx i) := lo_ixR n
end
/-! ### places in written lists -/
section
variable {α : Type} {a b c d e : α} {l : List α}
@[simp] theorem at_0 : atI (a :: l) 0 = some a := by simp [atI, ixN]
@[simp] theorem at_1 : atI (a :: b :: l) 1 = some b := by
  unfold atI ixN
  simp only [List.length_cons]
  rw [if_pos (by omega), if_pos (by omega)]
  rfl
@[simp] theorem at_2 : atI (a :: b :: c :: l) 2 = some c := by
  unfold atI ixN
  simp only [List.length_cons]
  rw [if_pos (by omega), if_pos (by omega)]
  rfl
@[simp] theorem ix_0 {n : Nat} : ixN (n + 1) 0 = some 0 := by
  unfold ixN
  rw [if_pos (by omega), if_pos (by omega)]
  rfl
theorem at_nat {k : Nat} (h : k < l.length) : atI l (k : Int) = some l[k] := by
  unfold atI
  rw [show ixN l.length (k : Int) = some k by unfold ixN; rw [if_pos (by omega), if_pos (by omega)]; simp]
  exact List.getElem?_eq_getElem h
end
end DL
/-! DLp: what the laws' own helpers give. -/
namespace DL
open PySem PySem.Spec PyProof.Rows L2
noncomputable def d_is_whole : Slots → Py Fl := sRet (fAndV (fIsi "int" (fVar 0)) (fNotV (fIsi "bool" (fVar 0))))
noncomputable def m_is_whole : List W → Py W := clo finV 1 d_is_whole
noncomputable def d_is_number : Slots → Py Fl := sRet (fAndV (fCall 1 [0] [] m_is_whole (fCons (fVar 0) (fNil))) (fAndV (f2 gLe (fVar 1) (fVar 0)) (fOrV (f2 gIsN (fVar 2) (fC .non)) (f2 gLe (fVar 0) (fVar 2)))))
noncomputable def m_is_number : List W → Py W := clo finV 3 d_is_number
noncomputable def d_is_between : Slots → Py Fl := sRet (fAndV (fCall 1 [0] [] m_is_whole (fCons (fVar 0) (fNil))) (fChain gLe gLe (fVar 1) (fVar 0) (fVar 2)))
noncomputable def m_is_between : List W → Py W := clo finV 3 d_is_between
noncomputable def d_is_tuple_of : Slots → Py Fl := sRet (fAndV (fIsi "tuple" (fVar 0)) (f2 gEq (fCl (g1 gLen) (fCons (fVar 0) (fNil))) (fVar 1)))
noncomputable def m_is_tuple_of : List W → Py W := clo finV 2 d_is_tuple_of
noncomputable def d_is_fraction : Slots → Py Fl := sSeq (sIf (fOr (fNot (fB (fCall 2 [0, 1] [] m_is_tuple_of (fCons (fVar 0) (fCons (fC (.int 2)) (fNil)))))) (fOr (fNot (fB (fCall 1 [0, 1, 2] [.int 0, .non] m_is_number (fCons (f2 gIx (fVar 0) (fC (.int 0))) (fNil))))) (fNot (fB (fCall 3 [0, 1, 2] [] m_is_between (fCons (f2 gIx (fVar 0) (fC (.int 1))) (fCons (fC (.int 1)) (fCons (fC (.int 999999)) (fNil))))))))) (sRet (fC (.bl false))) (sNext))
 (sRet (f2 gEq (fCl (g2 gGcd) (fCons (f2 gIx (fVar 0) (fC (.int 0))) (fCons (f2 gIx (fVar 0) (fC (.int 1))) (fNil)))) (fC (.int 1))))
noncomputable def m_is_fraction : List W → Py W := clo finV 1 d_is_fraction
noncomputable def d_is_pace : Slots → Py Fl := sRet (fAndV (fCall 1 [0] [] m_is_fraction (fCons (fVar 0) (fNil))) (f2 gLe (f2 gIx (fVar 0) (fC (.int 0))) (f2 gIx (fVar 0) (fC (.int 1)))))
noncomputable def m_is_pace : List W → Py W := clo finV 1 d_is_pace
noncomputable def d_is_phase : Slots → Py Fl := sRet (fAndV (fCall 1 [0] [] m_is_fraction (fCons (fVar 0) (fNil))) (f2 gLt (f2 gIx (fVar 0) (fC (.int 0))) (f2 gIx (fVar 0) (fC (.int 1)))))
noncomputable def m_is_phase : List W → Py W := clo finV 1 d_is_phase
noncomputable def d__law_pool : Slots → Py Fl := sSeq (sPar 2 3 (fCons (fCl (g1 gSum) (fCons (fSl (fVar 0) (fO (fVar 1)) (fO (f2 gAdd (fVar 1) (fC (.int 1))))) (fNil))) (fCons (f2 gAdd (fC (.int 50021)) (f2 gMul (fC (.int 977)) (fVar 1))) (fNil))))
 (sSeq (sAsg (f2 gMul (f2 gMul (f2 gMul (f2 gMul (f2 gMul (f2 gPow (fC (.int 10)) (fC (.int 64))) (f2 gPow (fC (.int 10)) (fC (.int 64)))) (f2 gPow (fC (.int 10)) (fC (.int 64)))) (f2 gPow (fC (.int 10)) (fC (.int 64)))) (f2 gPow (fC (.int 10)) (fC (.int 64)))) (f2 gPow (fC (.int 10)) (fC (.int 64)))) (gN 4))
 (sSeq (sFor (iSeq (fSl (fVar 0) (fNoO) (fO (fC (.int 12))))) (gN 5) (sAsg (f2 gMod (f2 gAdd (f2 gAdd (f2 gMul (fVar 3) (fC (.int 48271))) (f2 gMul (f2 gMod (fVar 5) (fC (.int 2147483399))) (fC (.int 19)))) (fC (.int 7))) (fC (.int 2147483399))) (gN 3)))
 (sRet (fRef (fCons (fIf (fOr (fB (f2 gLt (fVar 2) (fC (.int 0)))) (fB (f2 gGe (fVar 2) (f2 gPow (fC (.int 10)) (fC (.int 18)))))) (f2 gMod (fCl (g1 gAbs) (fCons (fVar 2) (fNil))) (fVar 4)) (fC (.int 0))) (fCons (fVar 3) (fCons (fC (.int 0)) (fNil))))))))
noncomputable def m__law_pool : List W → Py W := clo finR 6 d__law_pool
noncomputable def d__law_take : Slots → Py Fl := sSeq (sIf (fB (f2 gGt (f2 gIx (fVar 0) (fC (.int 0))) (fC (.int 0)))) (sSeq (sAsg (fCl (g2 gDivmod) (fCons (f2 gIx (fVar 0) (fC (.int 0))) (fCons (fVar 1) (fNil)))) (gT 2 (gsCons (gSubL (fVar 0) (fC (.int 0))) (gsCons (gN 2) (gsNil)))))
 (sRet (fVar 2))) (sNext))
 (sSeq (sAsg (f2 gAdd (f2 gIx (fVar 0) (fC (.int 2))) (fC (.int 1))) (gSubL (fVar 0) (fC (.int 2))))
 (sSeq (sAsg (f2 gMod (f2 gAdd (f2 gIx (fVar 0) (fC (.int 1))) (f2 gMul (fC (.int 28657)) (f2 gIx (fVar 0) (fC (.int 2))))) (fC (.int 2147483399))) (gN 3))
 (sSeq (sAsg (f2 gMod (f2 gAdd (f2 gMul (fVar 3) (f2 gAdd (f2 gMod (fVar 3) (fC (.int 5003))) (fC (.int 48271)))) (f2 gMul (fC (.int 17)) (f2 gIx (fVar 0) (fC (.int 2))))) (fC (.int 2147483399))) (gSubL (fVar 0) (fC (.int 1))))
 (sRet (f2 gMod (f2 gDiv (f2 gIx (fVar 0) (fC (.int 1))) (fC (.int 613))) (fVar 1))))))
noncomputable def m__law_take : List W → Py W := clo finV 4 d__law_take
noncomputable def d__law_of : Slots → Py Fl := sRet (f2 gIx (fVar 1) (fCall 2 [0, 1] [] m__law_take (fCons (fVar 0) (fCons (fCl (g1 gLen) (fCons (fVar 1) (fNil))) (fNil)))))
noncomputable def m__law_of : List W → Py W := clo finV 2 d__law_of
noncomputable def d__law_lowest : Slots → Py Fl := sSeq (sPar 2 3 (fCons (fVar 0) (fCons (fVar 1) (fNil))))
 (sSeq (sWhile (fun δ : Slots => match δ[3]? with | some (some (W.d (D.int i))) => i.toNat + 2 | _ => 0) (fB (f2 gGt (fVar 3) (fC (.int 0)))) (sPar 2 3 (fCons (fVar 3) (fCons (f2 gMod (fVar 2) (fVar 3)) (fNil)))))
 (sRet (fTup (fCons (f2 gDiv (fVar 0) (fVar 2)) (fCons (f2 gDiv (fVar 1) (fVar 2)) (fNil))))))
noncomputable def m__law_lowest : List W → Py W := clo finV 4 d__law_lowest
noncomputable def d__law_pace : Slots → Py Fl := sSeq (sAsg (fCall 2 [0, 1] [] m__law_of (fCons (fVar 0) (fCons (fLst (fCons (fC (.int 1)) (fCons (fC (.int 2)) (fCons (fC (.int 3)) (fCons (fC (.int 5)) (fCons (fC (.int 8)) (fCons (fC (.int 12)) (fCons (fC (.int 30)) (fCons (fC (.int 99)) (fCons (fC (.int 1000)) (fCons (fC (.int 99999)) (fNil)))))))))))) (fNil)))) (gN 1))
 (sRet (fCall 2 [0, 1] [] m__law_lowest (fCons (fCall 2 [0, 1] [] m__law_take (fCons (fVar 0) (fCons (f2 gAdd (fVar 1) (fC (.int 1))) (fNil)))) (fCons (fVar 1) (fNil)))))
noncomputable def m__law_pace : List W → Py W := clo finV 2 d__law_pace
noncomputable def d__law_phase : Slots → Py Fl := sSeq (sAsg (fCall 2 [0, 1] [] m__law_of (fCons (fVar 0) (fCons (fLst (fCons (fC (.int 1)) (fCons (fC (.int 1)) (fCons (fC (.int 2)) (fCons (fC (.int 3)) (fCons (fC (.int 7)) (fCons (fC (.int 12)) (fCons (fC (.int 30)) (fCons (fC (.int 1000)) (fCons (fC (.int 99999)) (fNil))))))))))) (fNil)))) (gN 1))
 (sRet (fCall 2 [0, 1] [] m__law_lowest (fCons (fCall 2 [0, 1] [] m__law_take (fCons (fVar 0) (fCons (fVar 1) (fNil)))) (fCons (fVar 1) (fNil)))))
noncomputable def m__law_phase : List W → Py W := clo finV 2 d__law_phase
noncomputable def d__law_sum : Slots → Py Fl := sRet (f2 gDiv (f2 gAdd (f2 gMul (f2 gMul (fVar 2) (f2 gIx (fVar 0) (fC (.int 0)))) (f2 gIx (fVar 1) (fC (.int 1)))) (f2 gMul (f2 gIx (fVar 1) (fC (.int 0))) (f2 gIx (fVar 0) (fC (.int 1))))) (f2 gMul (f2 gIx (fVar 0) (fC (.int 1))) (f2 gIx (fVar 1) (fC (.int 1)))))
noncomputable def m__law_sum : List W → Py W := clo finV 3 d__law_sum
noncomputable def d__law_parted : Slots → Py Fl := sRet (f2 gSub (fCall 3 [0, 1, 2] [] m__law_sum (fCons (f2 gIx (fVar 0) (fC (.int 0))) (fCons (f2 gIx (fVar 0) (fC (.int 1))) (fCons (fVar 2) (fNil))))) (fCall 3 [0, 1, 2] [] m__law_sum (fCons (f2 gIx (fVar 1) (fC (.int 0))) (fCons (f2 gIx (fVar 1) (fC (.int 1))) (fCons (fVar 2) (fNil))))))
noncomputable def m__law_parted : List W → Py W := clo finV 3 d__law_parted
noncomputable def d__law_two : Slots → Py Fl := sSeq (sPar 1 2 (fCons (fTup (fCons (fCall 1 [0] [] m__law_pace (fCons (fVar 0) (fNil))) (fCons (fCall 1 [0] [] m__law_phase (fCons (fVar 0) (fNil))) (fNil)))) (fCons (fTup (fCons (fCall 1 [0] [] m__law_pace (fCons (fVar 0) (fNil))) (fCons (fCall 1 [0] [] m__law_phase (fCons (fVar 0) (fNil))) (fNil)))) (fNil))))
 (sSeq (sIf (fB (f2 gEq (fCall 2 [0, 1] [] m__law_take (fCons (fVar 0) (fCons (fC (.int 3)) (fNil)))) (fC (.int 0)))) (sAsg (fTup (fCons (f2 gIx (fVar 1) (fC (.int 0))) (fCons (f2 gIx (fVar 2) (fC (.int 1))) (fNil)))) (gN 2)) (sNext))
 (sRet (fTup (fCons (fVar 1) (fCons (fVar 2) (fNil))))))
noncomputable def m__law_two : List W → Py W := clo finV 3 d__law_two
theorem clo_rt {fin : Nat → W → Mem → Option (Out W)} {n : Nat} {f : Slots → Py Fl} {ws : List W} {w : W} {M M' : Mem} (h : f (slots0 n ws) M = some (.ok (.rt w) M')) : clo fin n f ws M = fin M.length w M' := by
  unfold clo
  rw [h]
/-- a def that returns data and leaves no new list -/
theorem clo_V {n : Nat} {f : Slots → Py Fl} {ws : List W} {x : D} {M M' : Mem} (h : f (slots0 n ws) M = some (.ok (.rt (.d x)) M')) (hl : M'.length = M.length) : clo finV n f ws M = some (.ok (.d x) M') := by
  rw [clo_rt h]
  show some (Out.ok (W.d x) (M'.take M.length)) = _
  rw [← hl, List.take_length]
theorem clo_N {n : Nat} {f : Slots → Py Fl} {ws : List W} {δ : Slots} {M M' : Mem} (h : f (slots0 n ws) M = some (.ok (.nx δ) M')) (hl : M'.length = M.length) : clo finV n f ws M = some (.ok (.d .non) M') := by
  unfold clo
  rw [h]
  show some (Out.ok (W.d .non) (M'.take M.length)) = _
  rw [← hl, List.take_length]
/-- the pool -/
def PI (n : Nat) (M : Mem) : Prop := ∃ a b c : Int, M[n]? = some [.int a, .int b, .int c] ∧ a.natAbs < 2 ^ 3900
theorem PI.lt {n : Nat} {M : Mem} (h : PI n M) : n < M.length := by
  obtain ⟨a, b, c, h, _⟩ := h
  exact (List.getElem?_eq_some_iff.mp h).1
theorem take_ok {n : Nat} {M : Mem} {many : Int} (h : PI n M) (hm : 0 < many) : ∃ (d : Int) (M' : Mem), PI n M' ∧ M'.length = M.length ∧ 0 ≤ d ∧ d < many ∧ m__law_take [.r n, .d (.int many)] M = some (.ok (.d (.int d)) M') := by
  have hn := h.lt
  obtain ⟨a, b, c, h1, h2⟩ := h
  by_cases ha : 0 < a
  · have hc : cDm a many := ⟨hm, h2⟩
    refine ⟨a % many, M.set n [.int (a / many), .int b, .int c], ⟨a / many, b, c, by simp [hn], ?_⟩, by simp, Int.emod_nonneg _ (by omega), Int.emod_lt_of_pos _ hm, ?_⟩
    · have : a / many ≤ a := Int.ediv_le_self _ (by omega)
      have : 0 ≤ a / many := Int.ediv_nonneg (by omega) (by omega)
      have : (a / many).natAbs ≤ a.natAbs := by omega
      exact Nat.lt_of_le_of_lt this h2
    · refine clo_V ?_ (by simp)
      show d__law_take [some (.r n), some (.d (.int many)), none, none] M = _
      simp [d__law_take, h1, ha, hc]
  · obtain ⟨st, est⟩ : ∃ st, st = (b + 28657 * (c + 1)) % 2147483399 := ⟨_, rfl⟩
    obtain ⟨b1, eb1⟩ : ∃ b1, b1 = (st * (st % 5003 + 48271) + 17 * (c + 1)) % 2147483399 := ⟨_, rfl⟩
    have hst : cMul st (st % 5003 + 48271) := c_mulR (by omega) (by omega)
    refine ⟨b1 / 613 % many, M.set n [.int a, .int b1, .int (c + 1)], ⟨a, b1, c + 1, by simp [hn], h2⟩, by simp, Int.emod_nonneg _ (by omega), Int.emod_lt_of_pos _ hm, ?_⟩
    refine clo_V ?_ (by simp)
    show d__law_take [some (.r n), some (.d (.int many)), none, none] M = _
    have e0 : ∀ l : List D, (M.set n l)[n]? = some l := fun l => by simp [hn]
    simp [d__law_take, h1, ha, e0, hm, ← est, hst, ← eb1, ixN]

/-! ### rules for what the laws' helpers use -/
section
variable {M : Mem} {i j : Int} {δ : Slots}
@[simp] theorem t_ii : isT "int" "int" = true := by decide
@[simp] theorem t_ib : isT "int" "bool" = false := by decide
@[simp] theorem t_tt : isT "tuple" "tuple" = true := by decide
@[simp] theorem ty_int : tyW (.d (.int i)) = some "int" := rfl
@[simp] theorem ty_tup (l : List D) : tyW (.d (.tup l)) = some "tuple" := rfl
@[simp] theorem o_eqI : gEq M (.d (.int i)) (.d (.int j)) = some (.d (.bl (decide (i = j)))) := by
  have h : eqD (.int i) (.int j) = decide (i = j) := by
    show (i == j) = _
    rw [Bool.eq_iff_iff]
    simp
  show (if (okD (.int i) && okD (.int j)) = true then some (W.d (D.bl (eqD (.int i) (.int j)))) else none) = _
  rw [h]
  rfl
@[simp] theorem o_neS (s t : Str) : gNe M (.d (.str s)) (.d (.str t)) = some (.d (.bl (!decide (s = t)))) := rfl
@[simp] theorem o_eqS (s t : Str) : gEq M (.d (.str s)) (.d (.str t)) = some (.d (.bl (decide (s = t)))) := rfl
theorem o_repr {x : D} (h : okR x = true) : gRepr M (.d x) = some (.d (.str (toP x).shown)) := by
  show (if okR x = true then _ else _) = _
  rw [if_pos h]
@[simp] theorem o_isN (x : D) : gIsN M (.d x) (.d .non) = some (.d (.bl (match x with | .non => true | _ => false))) := rfl
@[simp] theorem c_pow (h1 : 0 ≤ j) (h2 : j ≤ 1000000) (h3 : i.natAbs < 2 ^ 64) : cPow i j := ⟨h1, h2, h3⟩
theorem c_mulW {a : Nat} (ha : a ≤ 2500) (h1 : i.natAbs < 2 ^ a) (h2 : j.natAbs < 2 ^ a) : cMul i j := .inr ⟨Nat.lt_of_lt_of_le h1 (Nat.pow_le_pow_right (by decide) (by omega)), Nat.lt_of_lt_of_le h2 (Nat.pow_le_pow_right (by decide) (by omega))⟩
theorem cut_map {α β : Type} (f : α → β) (l : List α) (lo hi : Option Int) : cut (l.map f) lo hi = (cut l lo hi).map f := by
  unfold cut
  rw [List.length_map, List.map_take, List.map_drop]
@[simp] theorem o_slS (l : List Int) (lo hi : Option Int) : gSl M (.d (.scr l)) lo hi = some (.d (.lst ((cut l lo hi).map D.int))) := by
  show some (W.d (D.lst (cut (l.map D.int) lo hi))) = _
  rw [cut_map]
theorem sq_map (l : List Int) : sqOf M (.d (.lst (l.map D.int))) = some (l.map D.int) := rfl
@[simp] theorem o_sumL (l : List Int) : gSum M (.d (.lst (l.map D.int))) = some (.d (.int l.sum)) := by
  unfold gSum ofInts
  rw [sq_map]
  dsimp only
  rw [ints_map]
  rfl
theorem o_minL (a : Int) (l : List Int) : gMin M (.d (.lst ((a :: l).map D.int))) = some (.d (.int (mn a l))) := by
  unfold gMin ofInts
  rw [sq_map]
  dsimp only
  rw [ints_map]
  rfl
theorem o_maxL (a : Int) (l : List Int) : gMax M (.d (.lst ((a :: l).map D.int))) = some (.d (.int (mx a l))) := by
  unfold gMax ofInts
  rw [sq_map]
  dsimp only
  rw [ints_map]
  rfl
@[simp] theorem o_allL (l : List Bool) : gAll M (.d (.lst (l.map D.bl))) = some (.d (.bl (l.all id))) := by
  unfold gAll ofBls
  show (match bls (l.map D.bl) with | some ns => some (W.d (D.bl (ns.all id))) | none => none) = _
  rw [bls_map]
@[simp] theorem ix_m1 {α : Type} (a : α) (l : List α) : atI (a :: l) (-1) = (a :: l)[l.length]? := by
  unfold atI ixN
  simp only [List.length_cons]
  rw [if_neg (by omega), if_pos (by omega)]
  show (a :: l)[(-1 + ((l.length + 1 : Nat) : Int)).toNat]? = _
  congr 1
  omega
/-! walks -/
def kI1 (ws : List W) (M : Mem) : Option (Out Its0) := match ws with
  | [.d (.int n)] => if n < 2 ^ 40 ∧ -(2 ^ 40) ≤ n then some (.ok ⟨(List.range n.toNat).map fun (i : Nat) => W.d (.int (i : Int)), none⟩ M) else none
  | _ => none
@[simp] theorem e_iR1 {fs : Slots → Py (List W)} : iR1 fs δ M = thO (fs δ M) kI1 := by
  unfold iR1
  rw [le_bnd]
  exact tx fun ws M1 => rfl
@[simp] theorem kI1_ (h1 : i < 2 ^ 40) (h2 : -(2 ^ 40) ≤ i) : kI1 [.d (.int i)] M = some (.ok ⟨(List.range i.toNat).map fun (i : Nat) => W.d (.int (i : Int)), none⟩ M) := if_pos ⟨h1, h2⟩
def kI2 (ws : List W) (M : Mem) : Option (Out Its0) := match ws with
  | [.d (.int a), .d (.int b)] => if (-(2 ^ 40) ≤ a ∧ a < 2 ^ 40) ∧ -(2 ^ 40) ≤ b ∧ b < 2 ^ 40 then some (.ok ⟨(List.range (b - a).toNat).map fun (i : Nat) => W.d (.int (a + (i : Int))), none⟩ M) else none
  | _ => none
@[simp] theorem e_iR2 {fs : Slots → Py (List W)} : iR2 fs δ M = thO (fs δ M) kI2 := by
  unfold iR2
  rw [le_bnd]
  exact tx fun ws M1 => rfl
theorem kI2_ (h1 : -(2 ^ 40) ≤ i) (h2 : i < 2 ^ 40) (h3 : -(2 ^ 40) ≤ j) (h4 : j < 2 ^ 40) : kI2 [.d (.int i), .d (.int j)] M = some (.ok ⟨(List.range (j - i).toNat).map fun (k : Nat) => W.d (.int (i + (k : Int))), none⟩ M) := if_pos ⟨⟨h1, h2⟩, h3, h4⟩
def kIS (w : W) (M : Mem) : Option (Out Its0) := match w with
  | .d (.lst l) => some (.ok ⟨l.map W.d, none⟩ M)
  | .r n => match M[n]? with
    | some l => some (.ok ⟨l.map W.d, some (n, l)⟩ M)
    | none => none
  | .d (.scr l) => some (.ok ⟨l.map fun i => W.d (.int i), none⟩ M)
  | _ => none
@[simp] theorem e_iSeq {fa : Slots → Py W} : iSeq fa δ M = thO (fa δ M) kIS := by
  unfold iSeq
  rw [le_bnd]
  exact tx fun ws M1 => rfl
@[simp] theorem kIS_ (l : List D) : kIS (.d (.lst l)) M = some (.ok ⟨l.map W.d, none⟩ M) := rfl
def kIT (w : W) (M : Mem) : Option (Out Its0) := match w with
  | .d (.tup l) => some (.ok ⟨l.map W.d, none⟩ M)
  | _ => none
@[simp] theorem e_iTup {fa : Slots → Py W} : iTupD fa δ M = thO (fa δ M) kIT := by
  unfold iTupD
  rw [le_bnd]
  exact tx fun ws M1 => rfl
@[simp] theorem kIT_ (l : List D) : kIT (.d (.tup l)) M = some (.ok ⟨l.map W.d, none⟩ M) := rfl
noncomputable def kFor (tg : W → Slots → Py Slots) (b : Slots → Py Fl) (δ : Slots) (it : Its0) (M : Mem) : Option (Out Fl) := forL it.gd tg b it.items δ M
theorem kFor_ (tg : W → Slots → Py Slots) (b : Slots → Py Fl) (it : Its0) : kFor tg b δ it M = forL it.gd tg b it.items δ M := rfl
@[simp] theorem kFor_n (tg : W → Slots → Py Slots) (b : Slots → Py Fl) (l : List W) : kFor tg b δ ⟨l, none⟩ M = forL none tg b l δ M := rfl
@[simp] theorem e_sfor {fi : Slots → Py Its0} {tg : W → Slots → Py Slots} {b : Slots → Py Fl} : sFor fi tg b δ M = thS δ (fi δ M) (kFor tg b δ) := by
  unfold sFor
  rw [le_lft]
  exact sx fun it M1 => rfl
theorem for_nil {tg : W → Slots → Py Slots} {b : Slots → Py Fl} : forL none tg b [] δ M = some (.ok (.nx δ) M) := by
  unfold forL
  exact if_pos trivial
/-- a turn that goes on -/
theorem for_next {tg : W → Slots → Py Slots} {b : Slots → Py Fl} {x : W} {xs : List W} {δ1 δ2 : Slots} {M1 M2 : Mem} (h1 : tg x δ M = some (.ok δ1 M1)) (h2 : b δ1 M1 = some (.ok (.nx δ2) M2)) : forL none tg b (x :: xs) δ M = forL none tg b xs δ2 M2 := by
  rw [forL]
  dsimp only
  rw [if_pos (show gdOk none M from trivial), h1]
  dsimp only
  rw [le_bnd, h2]
  rfl
theorem for_rt {tg : W → Slots → Py Slots} {b : Slots → Py Fl} {x w : W} {xs : List W} {δ1 : Slots} {M1 M2 : Mem} (h1 : tg x δ M = some (.ok δ1 M1)) (h2 : b δ1 M1 = some (.ok (.rt w) M2)) : forL none tg b (x :: xs) δ M = some (.ok (.rt w) M2) := by
  rw [forL]
  dsimp only
  rw [if_pos (show gdOk none M from trivial), h1]
  dsimp only
  rw [le_bnd, h2]
  rfl
noncomputable def kCo2 (o : Option (Out (List D))) : Option (Out W) := match o with
  | some (.ok l M') => some (.ok (.d (.lst l)) M')
  | _ => none
@[simp] theorem kCo2_ (l : List D) : kCo2 (some (.ok l M)) = some (.ok (.d (.lst l)) M) := rfl
noncomputable def kCo (g : W → Slots → Py Slots) (t : Slots → Py Bool) (e : Slots → Py W) (own : List Nat) (δ : Slots) (it : Its0) (M : Mem) : Option (Out W) := if it.items.length ≤ 1000000 then kCo2 (compL it.gd g t e (wipeD δ own) it.items M) else none
@[simp] theorem e_comp {fi : Slots → Py Its0} {g : W → Slots → Py Slots} {t : Slots → Py Bool} {e : Slots → Py W} {own : List Nat} : fComp fi g t e own δ M = thO (fi δ M) (kCo g t e own δ) := by
  unfold fComp
  rw [le_bnd]
  exact tx fun it M1 => rfl
@[simp] theorem kCo_n {g : W → Slots → Py Slots} {t : Slots → Py Bool} {e : Slots → Py W} {own : List Nat} {l : List W} (h : l.length ≤ 1000000) : kCo g t e own δ ⟨l, none⟩ M = kCo2 (compL none g t e (wipeD δ own) l M) := if_pos h
theorem comp_nil {g : W → Slots → Py Slots} {t : Slots → Py Bool} {e : Slots → Py W} : compL none g t e δ [] M = some (.ok [] M) := by
  unfold compL
  exact if_pos trivial
theorem comp_next {g : W → Slots → Py Slots} {e : Slots → Py W} {x : W} {xs : List W} {δ1 : Slots} {M1 M2 M3 : Mem} {y : D} {l : List D} (h1 : g x δ M = some (.ok δ1 M1)) (h2 : e δ1 M1 = some (.ok (.d y) M2)) (h3 : compL none g fYes e δ xs M2 = some (.ok l M3)) : compL none g fYes e δ (x :: xs) M = some (.ok (y :: l) M3) := by
  rw [compL]
  dsimp only
  rw [if_pos (show gdOk none M from trivial), h1]
  show (match e δ1 M1 with | some (.ok (.d y) M3) => _ | _ => none) = _
  rw [h2]
  dsimp only
  rw [h3]
theorem comp_map {e : Slots → Py W} {n : Nat} {α : Type} (f : α → D) (h : α → D) : ∀ (xs : List α), (∀ x ∈ xs, e (δ.set n (some (.d (f x)))) M = some (.ok (.d (h x)) M)) → compL none (gN n) fYes e δ (xs.map fun x => W.d (f x)) M = some (.ok (xs.map h) M)
  | [], _ => comp_nil
  | x :: xs, hx => comp_next rfl (hx x List.mem_cons_self) (comp_map f h xs fun y hy => hx y (List.mem_cons_of_mem _ hy))
theorem comp_inv {e : Slots → Py W} {g : W → Slots → Py Slots} {I : Mem → Prop} {y : D} (hg : ∀ x M, ∃ δ1, g x δ M = some (.ok δ1 M) ∧ (I M → ∃ M', I M' ∧ e δ1 M = some (.ok (.d y) M'))) : ∀ (xs : List W) (M : Mem), I M → ∃ M', I M' ∧ compL none g fYes e δ xs M = some (.ok (List.replicate xs.length y) M')
  | [], M, h => ⟨M, h, comp_nil⟩
  | x :: xs, M, h => by
    obtain ⟨δ1, e1, e2⟩ := hg x M
    obtain ⟨M1, h1, e3⟩ := e2 h
    obtain ⟨M2, h2, e4⟩ := comp_inv hg xs M1 h1
    exact ⟨M2, h2, comp_next e1 e3 e4⟩
end
/-! ### the helpers -/
section
variable {M : Mem} {n : Nat}
theorem of_ok {l : List D} (h : PI n M) (hl : l ≠ []) : ∃ (x : D) (M' : Mem), x ∈ l ∧ PI n M' ∧ M'.length = M.length ∧ m__law_of [.r n, .d (.lst l)] M = some (.ok (.d x) M') := by
  have hp : 0 < l.length := List.length_pos_iff.mpr hl
  obtain ⟨d, M', h1, h2, h3, h4, h5⟩ := take_ok (many := l.length) h (by omega)
  obtain ⟨k, rfl⟩ : ∃ k : Nat, d = k := ⟨d.toNat, by omega⟩
  have hk : k < l.length := by omega
  refine ⟨l[k], M', List.getElem_mem hk, h1, h2, clo_V ?_ h2⟩
  show d__law_of [some (.r n), some (.d (.lst l))] M = _
  simp [d__law_of, h5, at_nat hk]
theorem gcd_step {a b : Int} (ha : 0 ≤ a) (hb : 0 < b) : Nat.gcd b.natAbs (a % b).natAbs = Nat.gcd a.natAbs b.natAbs := by
  have e : (a % b).natAbs = a.natAbs % b.natAbs := by
    obtain ⟨x, rfl⟩ := Int.eq_ofNat_of_zero_le ha
    obtain ⟨y, rfl⟩ := Int.eq_ofNat_of_zero_le (Int.le_of_lt hb)
    rfl
  rw [e, Nat.gcd_comm b.natAbs, ← Nat.gcd_rec, Nat.gcd_comm]
theorem low_loop {a b : W} : ∀ (k : Nat) (x y : Int), 0 ≤ x → 0 ≤ y → y.toNat < k → whL (fB (f2 gGt (fVar 3) (fC (.int 0)))) (sPar 2 3 (fCons (fVar 3) (fCons (f2 gMod (fVar 2) (fVar 3)) fNil))) k [some a, some b, some (.d (.int x)), some (.d (.int y))] M = some (.ok (.nx [some a, some b, some (.d (.int ((Nat.gcd x.natAbs y.natAbs : Nat) : Int))), some (.d (.int 0))]) M)
  | 0, x, y, _, _, h => absurd h (Nat.not_lt_zero _)
  | k + 1, x, y, hx, hy, h => by
    rw [whL]
    by_cases h0 : 0 < y
    · have hm : 0 ≤ x % y := Int.emod_nonneg _ (by omega)
      have hm2 := Int.emod_lt_of_pos x h0
      have ih := low_loop (a := a) (b := b) k y (x % y) hy hm (by omega)
      rw [gcd_step hx h0] at ih
      rw [← ih, le_lft]
      simp [h0]
    · have e : y = 0 := by omega
      subst e
      simp
      omega
theorem lowest_ok {top low : Int} (h0 : 0 ≤ top) (h1 : 0 < low) (h2 : low < 2 ^ 64) : m__law_lowest [.d (.int top), .d (.int low)] M = some (.ok (.d (.tup [.int (top / ((Nat.gcd top.natAbs low.natAbs : Nat) : Int)), .int (low / ((Nat.gcd top.natAbs low.natAbs : Nat) : Int))])) M) := by
  refine clo_V ?_ rfl
  show d__law_lowest [some (.d (.int top)), some (.d (.int low)), none, none] M = _
  have hl := low_loop (M := M) (a := .d (.int top)) (b := .d (.int low)) (low.toNat + 2) top low h0 (by omega) (by omega)
  have g1 : 0 < Nat.gcd top.natAbs low.natAbs := Nat.gcd_pos_of_pos_right _ (by omega)
  have g2 : Nat.gcd top.natAbs low.natAbs ≤ low.natAbs := Nat.gcd_le_right _ (by omega)
  have gc : ∀ i : Int, cDiv i ((Nat.gcd top.natAbs low.natAbs : Nat) : Int) := fun i => c_divS (by omega) (by omega)
  unfold d__law_lowest
  simp [sWhile, hl, gc]
end
end DL
/-! DLq: paces, phases, calendars; the checks let them through; a law's frame. -/
namespace DL
open PySem PySem.Spec PyProof.Rows L2
noncomputable def d_sum_by : Slots → Py Fl := sRet (f2 gDiv (f2 gAdd (f2 gMul (f2 gMul (fVar 2) (f2 gIx (fVar 0) (fC (.int 0)))) (f2 gIx (fVar 1) (fC (.int 1)))) (f2 gMul (f2 gIx (fVar 1) (fC (.int 0))) (f2 gIx (fVar 0) (fC (.int 1))))) (f2 gMul (f2 gIx (fVar 0) (fC (.int 1))) (f2 gIx (fVar 1) (fC (.int 1)))))
noncomputable def m_sum_by : List W → Py W := clo finV 3 d_sum_by
noncomputable def d_is_calendar : Slots → Py Fl := sRet (fAndV (fCall 2 [0, 1] [] m_is_tuple_of (fCons (fVar 0) (fCons (fC (.int 2)) (fNil)))) (fAndV (fCall 1 [0] [] m_is_pace (fCons (f2 gIx (fVar 0) (fC (.int 0))) (fNil))) (fCall 1 [0] [] m_is_phase (fCons (f2 gIx (fVar 0) (fC (.int 1))) (fNil)))))
noncomputable def m_is_calendar : List W → Py W := clo finV 1 d_is_calendar
noncomputable def d_check_calendar : Slots → Py Fl := sIf (fNot (fB (fCall 1 [0] [] m_is_calendar (fCons (fVar 0) (fNil))))) (sNo) (sNext)
noncomputable def m_check_calendar : List W → Py W := clo finV 1 d_check_calendar
noncomputable def d_is_month_number : Slots → Py Fl := sRet (fCall 3 [0, 1, 2] [] m_is_between (fCons (fVar 0) (fCons (fC (.int 0)) (fCons (fC (.int 999)) (fNil)))))
noncomputable def m_is_month_number : List W → Py W := clo finV 1 d_is_month_number
noncomputable def d_parting_by : Slots → Py Fl := sRet (f2 gSub (fCall 3 [0, 1, 2] [] m_sum_by (fCons (f2 gIx (fVar 0) (fC (.int 0))) (fCons (f2 gIx (fVar 0) (fC (.int 1))) (fCons (fVar 2) (fNil))))) (fCall 3 [0, 1, 2] [] m_sum_by (fCons (f2 gIx (fVar 1) (fC (.int 0))) (fCons (f2 gIx (fVar 1) (fC (.int 1))) (fCons (fVar 2) (fNil))))))
noncomputable def m_parting_by : List W → Py W := clo finV 3 d_parting_by
noncomputable def d_span_by : Slots → Py Fl := sSeq (sAsg (fComp (iR1 (fCons (f2 gAdd (fVar 2) (fC (.int 1))) (fNil))) (gN 4) (fYes) (fCall 3 [0, 1, 2] [] m_parting_by (fCons (fVar 0) (fCons (fVar 1) (fCons (fVar 4) (fNil))))) [4]) (gN 3))
 (sRet (fTup (fCons (fCl (g1 gMin) (fCons (fVar 3) (fNil))) (fCons (fCl (g1 gMax) (fCons (fVar 3) (fNil))) (fNil)))))
noncomputable def m_span_by : List W → Py W := clo finV 5 d_span_by
noncomputable def d_check_calendars : Slots → Py Fl := sSeq (sDrop (fCall 1 [0] [] m_check_calendar (fCons (fVar 0) (fNil))))
 (sDrop (fCall 1 [0] [] m_check_calendar (fCons (fVar 1) (fNil))))
noncomputable def m_check_calendars : List W → Py W := clo finV 2 d_check_calendars
noncomputable def d_check_month_number : Slots → Py Fl := sIf (fNot (fB (fCall 1 [0] [] m_is_month_number (fCons (fVar 0) (fNil))))) (sNo) (sNext)
noncomputable def m_check_month_number : List W → Py W := clo finV 1 d_check_month_number
noncomputable def d_parting : Slots → Py Fl := sSeq (sDrop (fCall 2 [0, 1] [] m_check_calendars (fCons (fVar 0) (fCons (fVar 1) (fNil)))))
 (sSeq (sDrop (fCall 1 [0] [] m_check_month_number (fCons (fVar 2) (fNil))))
 (sRet (fCall 3 [0, 1, 2] [] m_parting_by (fCons (fVar 0) (fCons (fVar 1) (fCons (fVar 2) (fNil)))))))
noncomputable def m_parting : List W → Py W := clo finV 3 d_parting
noncomputable def d_span : Slots → Py Fl := sSeq (sDrop (fCall 2 [0, 1] [] m_check_calendars (fCons (fVar 0) (fCons (fVar 1) (fNil)))))
 (sSeq (sDrop (fCall 1 [0] [] m_check_month_number (fCons (fVar 2) (fNil))))
 (sRet (fCall 3 [0, 1, 2] [] m_span_by (fCons (fVar 0) (fCons (fVar 1) (fCons (fVar 2) (fNil)))))))
noncomputable def m_span : List W → Py W := clo finV 3 d_span
/-! ### fractions -/
abbrev fr (p q : Int) : D := .tup [.int p, .int q]
structure Pace (p q : Int) : Prop where
  nn : 0 ≤ p
  le : p ≤ q
  pos : 1 ≤ q
  hi : q ≤ 999999
  co : Nat.gcd p.natAbs q.natAbs = 1
section
variable {M : Mem} {n : Nat}
theorem lowest_frac {top low : Int} (h0 : 0 ≤ top) (hl : top ≤ low) (h1 : 0 < low) (h2 : low ≤ 999999) : ∃ p q, Pace p q ∧ (top < low → p < q) ∧ q ≤ low ∧ m__law_lowest [.d (.int top), .d (.int low)] M = some (.ok (.d (fr p q)) M) := by
  obtain ⟨a, rfl⟩ := Int.eq_ofNat_of_zero_le h0
  obtain ⟨b, rfl⟩ := Int.eq_ofNat_of_zero_le (Int.le_of_lt h1)
  have hb : 0 < b := by omega
  obtain ⟨g, eg⟩ : ∃ g, g = Nat.gcd a b := ⟨_, rfl⟩
  have g1 : 0 < g := by rw [eg]; exact Nat.gcd_pos_of_pos_right _ hb
  have ga : g ∣ a := by rw [eg]; exact Nat.gcd_dvd_left a b
  have gb : g ∣ b := by rw [eg]; exact Nat.gcd_dvd_right a b
  obtain ⟨x, hx⟩ := ga
  obtain ⟨y, hy⟩ := gb
  have ex : a / g = x := by rw [hx]; exact Nat.mul_div_cancel_left _ g1
  have ey : b / g = y := by rw [hy]; exact Nat.mul_div_cancel_left _ g1
  have hyp : 0 < y := by
    rcases Nat.eq_zero_or_pos y with z | z
    · rw [z] at hy; omega
    · exact z
  have hyl : y ≤ b := by rw [hy]; exact Nat.le_mul_of_pos_left _ g1
  have hxy : x ≤ y := Nat.le_of_mul_le_mul_left (by rw [← hx, ← hy]; omega) g1
  refine ⟨(x : Int), (y : Int), ⟨by omega, by omega, by omega, by omega, ?_⟩, fun h => ?_, by omega, ?_⟩
  · show Nat.gcd x y = 1
    have := Nat.gcd_div (m := a) (n := b) (k := g) ⟨x, hx⟩ ⟨y, hy⟩
    rw [ex, ey, ← eg, Nat.div_self g1] at this
    exact this
  · have : g * x < g * y := by rw [← hx, ← hy]; omega
    have := Nat.lt_of_mul_lt_mul_left this
    omega
  · rw [lowest_ok h0 h1 (by omega)]
    show some (Out.ok (W.d (.tup [.int ((a : Int) / ((Nat.gcd a b : Nat) : Int)), .int ((b : Int) / ((Nat.gcd a b : Nat) : Int))])) M) = _
    rw [← eg]
    show some (Out.ok (W.d (.tup [.int (((a / g : Nat)) : Int), .int (((b / g : Nat)) : Int)])) M) = _
    rw [ex, ey]
theorem pace_ok2 (h : PI n M) : ∃ p q M', (Pace p q ∧ q ≤ 99999) ∧ PI n M' ∧ M'.length = M.length ∧ m__law_pace [.r n] M = some (.ok (.d (fr p q)) M') := by
  obtain ⟨x, M1, h1, h2, h3, h4⟩ := of_ok (l := [.int 1, .int 2, .int 3, .int 5, .int 8, .int 12, .int 30, .int 99, .int 1000, .int 99999]) h (by simp)
  obtain ⟨low, e, hl, hh⟩ : ∃ low : Int, x = .int low ∧ 1 ≤ low ∧ low ≤ 99999 := by
    simp only [List.mem_cons, List.not_mem_nil, or_false] at h1
    rcases h1 with h1 | h1 | h1 | h1 | h1 | h1 | h1 | h1 | h1 | h1 <;> exact ⟨_, h1, by omega, by omega⟩
  subst e
  obtain ⟨d, M2, k1, k2, k3, k4, k5⟩ := take_ok (many := low + 1) h2 (by omega)
  obtain ⟨p, q, hp, _, hq, ep⟩ := lowest_frac (M := M2) (top := d) (low := low) k3 (by omega) (by omega) (by omega)
  refine ⟨p, q, M2, ⟨hp, by omega⟩, k1, by rw [k2, h3], clo_V ?_ (by rw [k2, h3])⟩
  show d__law_pace [some (.r n), none] M = _
  simp [d__law_pace, h4, k5, ep]
theorem pace_ok (h : PI n M) : ∃ p q M', Pace p q ∧ PI n M' ∧ M'.length = M.length ∧ m__law_pace [.r n] M = some (.ok (.d (fr p q)) M') := by
  obtain ⟨p, q, M', h1, h2⟩ := pace_ok2 h
  exact ⟨p, q, M', h1.1, h2⟩
theorem phase_ok (h : PI n M) : ∃ p q M', Pace p q ∧ p < q ∧ PI n M' ∧ M'.length = M.length ∧ m__law_phase [.r n] M = some (.ok (.d (fr p q)) M') := by
  obtain ⟨x, M1, h1, h2, h3, h4⟩ := of_ok (l := [.int 1, .int 1, .int 2, .int 3, .int 7, .int 12, .int 30, .int 1000, .int 99999]) h (by simp)
  obtain ⟨low, e, hl, hh⟩ : ∃ low : Int, x = .int low ∧ 1 ≤ low ∧ low ≤ 99999 := by
    simp only [List.mem_cons, List.not_mem_nil, or_false] at h1
    rcases h1 with h1 | h1 | h1 | h1 | h1 | h1 | h1 | h1 | h1 <;> exact ⟨_, h1, by omega, by omega⟩
  subst e
  obtain ⟨d, M2, k1, k2, k3, k4, k5⟩ := take_ok (many := low) h2 (by omega)
  obtain ⟨p, q, hp, hlt, _, ep⟩ := lowest_frac (M := M2) (top := d) (low := low) k3 (by omega) (by omega) (by omega)
  refine ⟨p, q, M2, hp, hlt (by omega), k1, by rw [k2, h3], clo_V ?_ (by rw [k2, h3])⟩
  show d__law_phase [some (.r n), none] M = _
  simp [d__law_phase, h4, k5, ep]
end
/-! ### calendars -/
structure Cal where
  p : Int
  q : Int
  r : Int
  s : Int
def Cal.d (c : Cal) : D := .tup [fr c.p c.q, fr c.r c.s]
structure Cal.Ok (c : Cal) : Prop where
  a : Pace c.p c.q
  b : Pace c.r c.s
  lt : c.r < c.s
def sumZ (p q r s m : Int) : Int := (m * p * s + r * q) / (q * s)
def Cal.sum (c : Cal) (m : Int) : Int := sumZ c.p c.q c.r c.s m
theorem mul_small {a b : Int} (ha : 1 ≤ a) (hb : 1 ≤ b) (ha2 : a ≤ 999999) (hb2 : b ≤ 999999) : 1 ≤ a * b ∧ a * b ≤ 999999 * 999999 :=
  ⟨by have := Int.mul_le_mul ha hb (by omega) (by omega); omega, Int.mul_le_mul ha2 hb2 (by omega) (by omega)⟩
section
variable {M : Mem} {n : Nat}
theorem sum_ok {p q r s m : Int} (h1 : Pace p q) (h2 : Pace r s) : m__law_sum [.d (fr p q), .d (fr r s), .d (.int m)] M = some (.ok (.d (.int (sumZ p q r s m))) M) := by
  have a1 := h1.nn; have a2 := h1.le; have a3 := h1.pos; have a4 := h1.hi
  have b1 := h2.nn; have b2 := h2.le; have b3 := h2.pos; have b4 := h2.hi
  have c1 : cMul m p := c_mulR (by omega) (by omega)
  have c2 : cMul (m * p) s := c_mulR (by omega) (by omega)
  have c3 : cMul r q := c_mulR (by omega) (by omega)
  have c4 : cMul q s := c_mulR (by omega) (by omega)
  have hq := mul_small a3 b3 a4 b4
  have c5 : cDiv (m * p * s + r * q) (q * s) := c_divS (by omega) (by omega)
  refine clo_V ?_ rfl
  show d__law_sum [some (.d (fr p q)), some (.d (fr r s)), some (.d (.int m))] M = _
  simp [d__law_sum, fr, c1, c2, c3, c4, c5, sumZ]
theorem parted_ok {c e : Cal} (hc : c.Ok) (he : e.Ok) {m : Int} : m__law_parted [.d c.d, .d e.d, .d (.int m)] M = some (.ok (.d (.int (c.sum m - e.sum m))) M) := by
  refine clo_V ?_ rfl
  show d__law_parted [some (.d c.d), some (.d e.d), some (.d (.int m))] M = _
  simp [d__law_parted, Cal.d, sum_ok hc.a hc.b, sum_ok he.a he.b, Cal.sum]
theorem sum_by_eq : m_sum_by = m__law_sum := rfl
theorem parting_by_eq : m_parting_by = m__law_parted := rfl
theorem two_ok2 (h : PI n M) : ∃ c e : Cal, ∃ M', (c.q ≤ 99999 ∧ e.q ≤ 99999) ∧ c.Ok ∧ e.Ok ∧ PI n M' ∧ M'.length = M.length ∧ m__law_two [.r n] M = some (.ok (.d (.tup [c.d, e.d])) M') := by
  obtain ⟨p, q, M1, ⟨a1, z1⟩, a2, a3, a4⟩ := pace_ok2 h
  obtain ⟨r, s, M2, b1, b2, b3, b4, b5⟩ := phase_ok a2
  obtain ⟨p', q', M3, ⟨c1, z2⟩, c2, c3, c4⟩ := pace_ok2 b3
  obtain ⟨r', s', M4, d1, d2, d3, d4, d5⟩ := phase_ok c2
  obtain ⟨t, M5, e1, e2, e3, e4, e5⟩ := take_ok (many := 3) d3 (by omega)
  have hl : M5.length = M.length := by rw [e2, d4, c3, b4, a3]
  by_cases ht : t = 0
  · refine ⟨⟨p, q, r, s⟩, ⟨p, q, r', s'⟩, M5, ⟨z1, z1⟩, ⟨a1, b1, b2⟩, ⟨a1, d1, d2⟩, e1, hl, clo_V ?_ hl⟩
    show d__law_two [some (.r n), none, none] M = _
    simp [d__law_two, a4, b5, c4, d5, e5, ht, Cal.d]
  · refine ⟨⟨p, q, r, s⟩, ⟨p', q', r', s'⟩, M5, ⟨z1, z2⟩, ⟨a1, b1, b2⟩, ⟨c1, d1, d2⟩, e1, hl, clo_V ?_ hl⟩
    show d__law_two [some (.r n), none, none] M = _
    simp [d__law_two, a4, b5, c4, d5, e5, ht, Cal.d]
theorem two_ok (h : PI n M) : ∃ c e : Cal, ∃ M', c.Ok ∧ e.Ok ∧ PI n M' ∧ M'.length = M.length ∧ m__law_two [.r n] M = some (.ok (.d (.tup [c.d, e.d])) M') := by
  obtain ⟨c, e, M', _, h1⟩ := two_ok2 h
  exact ⟨c, e, M', h1⟩
/-! ### the checks -/
theorem whole_ok (i : Int) : m_is_whole [.d (.int i)] M = some (.ok (.d (.bl true)) M) := by
  refine clo_V ?_ rfl
  show d_is_whole [some (.d (.int i))] M = _
  simp [d_is_whole]
theorem number_ok {i : Int} (h : 0 ≤ i) : m_is_number [.d (.int i), .d (.int 0), .d .non] M = some (.ok (.d (.bl true)) M) := by
  refine clo_V ?_ rfl
  show d_is_number [some (.d (.int i)), some (.d (.int 0)), some (.d .non)] M = _
  simp [d_is_number, whole_ok, h]
theorem between_ok {i a b : Int} (h : a ≤ i) (h2 : i ≤ b) : m_is_between [.d (.int i), .d (.int a), .d (.int b)] M = some (.ok (.d (.bl true)) M) := by
  refine clo_V ?_ rfl
  show d_is_between [some (.d (.int i)), some (.d (.int a)), some (.d (.int b))] M = _
  simp [d_is_between, whole_ok, h, h2]
theorem tuple_of_ok {l : List D} : m_is_tuple_of [.d (.tup l), .d (.int l.length)] M = some (.ok (.d (.bl true)) M) := by
  refine clo_V ?_ rfl
  show d_is_tuple_of [some (.d (.tup l)), some (.d (.int l.length))] M = _
  simp [d_is_tuple_of]
theorem tuple_of_2 {a b : D} : m_is_tuple_of [.d (.tup [a, b]), .d (.int 2)] M = some (.ok (.d (.bl true)) M) := tuple_of_ok (l := [a, b])
theorem fraction_ok {p q : Int} (h : Pace p q) : m_is_fraction [.d (fr p q)] M = some (.ok (.d (.bl true)) M) := by
  refine clo_V ?_ rfl
  show d_is_fraction [some (.d (fr p q))] M = _
  have := h.hi
  simp [d_is_fraction, fr, tuple_of_2, number_ok h.nn, between_ok h.pos (show q ≤ 999999 by omega), h.co]
theorem is_pace_ok {p q : Int} (h : Pace p q) : m_is_pace [.d (fr p q)] M = some (.ok (.d (.bl true)) M) := by
  refine clo_V ?_ rfl
  show d_is_pace [some (.d (fr p q))] M = _
  simp [d_is_pace, fraction_ok h]
  exact h.le
theorem is_phase_ok {p q : Int} (h : Pace p q) (h2 : p < q) : m_is_phase [.d (fr p q)] M = some (.ok (.d (.bl true)) M) := by
  refine clo_V ?_ rfl
  show d_is_phase [some (.d (fr p q))] M = _
  simp [d_is_phase, fraction_ok h]
  exact h2
theorem is_calendar_ok {c : Cal} (h : c.Ok) : m_is_calendar [.d c.d] M = some (.ok (.d (.bl true)) M) := by
  refine clo_V ?_ rfl
  show d_is_calendar [some (.d c.d)] M = _
  simp [d_is_calendar, Cal.d, tuple_of_2, is_pace_ok h.a, is_phase_ok h.b h.lt]
theorem check_calendar_ok {c : Cal} (h : c.Ok) : m_check_calendar [.d c.d] M = some (.ok (.d .non) M) := by
  refine clo_N (δ := [some (.d c.d)]) ?_ rfl
  show d_check_calendar [some (.d c.d)] M = _
  simp [d_check_calendar, is_calendar_ok h]
theorem check_calendars_ok {c e : Cal} (h : c.Ok) (h2 : e.Ok) : m_check_calendars [.d c.d, .d e.d] M = some (.ok (.d .non) M) := by
  refine clo_N (δ := [some (.d c.d), some (.d e.d)]) ?_ rfl
  show d_check_calendars [some (.d c.d), some (.d e.d)] M = _
  simp [d_check_calendars, check_calendar_ok h, check_calendar_ok h2]
theorem month_number_ok {m : Int} (h : 0 ≤ m) (h2 : m ≤ 999) : m_check_month_number [.d (.int m)] M = some (.ok (.d .non) M) := by
  refine clo_N (δ := [some (.d (.int m))]) ?_ rfl
  show d_check_month_number [some (.d (.int m))] M = _
  have e : m_is_month_number [.d (.int m)] M = some (.ok (.d (.bl true)) M) := by
    refine clo_V ?_ rfl
    show d_is_month_number [some (.d (.int m))] M = _
    simp [d_is_month_number, between_ok h h2]
  simp [d_check_month_number, e]
theorem parting_ok {c e : Cal} (hc : c.Ok) (he : e.Ok) {m : Int} (h : 0 ≤ m) (h2 : m ≤ 999) : m_parting [.d c.d, .d e.d, .d (.int m)] M = some (.ok (.d (.int (c.sum m - e.sum m))) M) := by
  refine clo_V ?_ rfl
  show d_parting [some (.d c.d), some (.d e.d), some (.d (.int m))] M = _
  simp [d_parting, check_calendars_ok hc he, month_number_ok h h2, parting_by_eq, parted_ok hc he]
end
/-! ### the frame: for k .. pool .. all([right(pool) for turn in range(cnt)]) -/
abbrev poolB : Slots → Py Fl := sAsg (f2 gMod (f2 gAdd (f2 gAdd (f2 gMul (fVar 3) (fC (.int 48271))) (f2 gMul (f2 gMod (fVar 5) (fC (.int 2147483399))) (fC (.int 19)))) (fC (.int 7))) (fC (.int 2147483399))) (gN 3)
theorem pool_loop {M : Mem} {s k c w : Option W} : ∀ (l : List Int) (m : Int) (e : Option W), ∃ (m' : Int) (e' : Option W), forL none (gN 5) poolB (l.map (W.d ∘ D.int)) [s, k, c, some (.d (.int m)), w, e] M = some (.ok (.nx [s, k, c, some (.d (.int m')), w, e']) M)
  | [], m, e => ⟨m, e, for_nil⟩
  | x :: l, m, e => by
    obtain ⟨m', e', ih⟩ := pool_loop (M := M) (s := s) (k := k) (c := c) (w := w) l ((m * 48271 + x % 2147483399 * 19 + 7) % 2147483399) (some (.d (.int x)))
    refine ⟨m', e', ?_⟩
    rw [← ih]
    refine for_next (δ1 := [s, k, c, some (.d (.int m)), w, some (.d (.int x))]) rfl ?_
    simp [poolB]
def tenP (x : Nat) : Int := 10 ^ x
theorem tenP_lt {z : Nat} (h : z ≤ 400) : (tenP z).natAbs < 2 ^ 2000 := by
  unfold tenP
  rw [Int.natAbs_pow]
  exact Nat.lt_of_le_of_lt (Nat.pow_le_pow_right (by decide) h) (by decide +kernel)
theorem tenP_pos (z : Nat) : 0 < tenP z := Int.pow_pos (by decide)
theorem tenP_mul {M : Mem} {δ : Slots} {f g : Slots → Py W} {x y z : Nat} (h1 : f δ M = some (.ok (.d (.int (tenP x))) M)) (h2 : g δ M = some (.ok (.d (.int (tenP y))) M)) (hx : x ≤ 400) (hy : y ≤ 400) (hz : x + y = z) : f2 gMul f g δ M = some (.ok (.d (.int (tenP z))) M) := by
  have hc : cMul (tenP x) (tenP y) := c_mulW (by decide) (tenP_lt hx) (tenP_lt hy)
  have e : tenP x * tenP y = tenP z := by
    rw [← hz]
    exact (Int.pow_add 10 x y).symm
  rw [e_2, h1, thO_ok, k2a_, h2, thO_ok, k2b_, show gMul M (.d (.int (tenP x))) (.d (.int (tenP y))) = some (.d (.int (tenP x * tenP y))) from o_II hc, e, thP_ok, kW_]
def ten64 : Slots → Py W := f2 gPow (fC (.int 10)) (fC (.int 64))
theorem ten64_ok {M : Mem} {δ : Slots} : ten64 δ M = some (.ok (.d (.int (tenP 64))) M) := by
  unfold ten64
  rw [e_2, e_C, thO_ok, k2a_, e_C, thO_ok, k2b_, show gPow M (.d (.int 10)) (.d (.int 64)) = some (.d (.int (tenP 64))) from o_II (c_pow (by decide) (by decide) (by decide)), thP_ok, kW_]
def wideF : Slots → Py W := f2 gMul (f2 gMul (f2 gMul (f2 gMul (f2 gMul ten64 ten64) ten64) ten64) ten64) ten64
theorem wide_ok {M : Mem} {δ : Slots} : wideF δ M = some (.ok (.d (.int (tenP 384))) M) :=
  tenP_mul (tenP_mul (tenP_mul (tenP_mul (tenP_mul ten64_ok ten64_ok (by decide) (by decide) rfl) ten64_ok (by decide) (by decide) rfl) ten64_ok (by decide) (by decide) rfl) ten64_ok (by decide) (by decide) rfl) ten64_ok (by decide) (by decide) rfl
noncomputable def poolD : Slots → Py Fl := sSeq (sPar 2 3 (fCons (fCl (g1 gSum) (fCons (fSl (fVar 0) (fO (fVar 1)) (fO (f2 gAdd (fVar 1) (fC (.int 1))))) (fNil))) (fCons (f2 gAdd (fC (.int 50021)) (f2 gMul (fC (.int 977)) (fVar 1))) (fNil))))
 (sSeq (sAsg wideF (gN 4))
 (sSeq (sFor (iSeq (fSl (fVar 0) (fNoO) (fO (fC (.int 12))))) (gN 5) poolB)
 (sRet (fRef (fCons (fIf (fOr (fB (f2 gLt (fVar 2) (fC (.int 0)))) (fB (f2 gGe (fVar 2) (f2 gPow (fC (.int 10)) (fC (.int 18)))))) (f2 gMod (fCl (g1 gAbs) (fCons (fVar 2) (fNil))) (fVar 4)) (fC (.int 0))) (fCons (fVar 3) (fCons (fC (.int 0)) (fNil))))))))
theorem poolD_eq : d__law_pool = poolD := rfl
theorem pool_ok {M : Mem} {ns : List Int} {k : Int} : ∃ l, (∃ a b c : Int, l = [D.int a, .int b, .int c] ∧ a.natAbs < 2 ^ 3900) ∧ m__law_pool [.d (.scr ns), .d (.int k)] M = some (.ok (.r M.length) (M ++ [l])) := by
  obtain ⟨cell, ec⟩ : ∃ c : Int, c = (cut ns (some k) (some (k + 1))).sum := ⟨_, rfl⟩
  obtain ⟨wide, ew⟩ : ∃ w : Int, w = tenP 384 := ⟨_, rfl⟩
  have hw0 : 0 < wide := by rw [ew]; exact tenP_pos _
  have hwl : wide.natAbs < 2 ^ 3900 := by
    rw [ew]
    exact Nat.lt_of_lt_of_le (tenP_lt (by decide)) (Nat.pow_le_pow_right (by decide) (by decide))
  have wd : ∀ δ : Slots, wideF δ M = some (.ok (.d (.int wide)) M) := fun δ => by rw [ew]; exact wide_ok
  obtain ⟨m', e', hl⟩ := pool_loop (M := M) (s := some (.d (.scr ns))) (k := some (.d (.int k))) (c := some (.d (.int cell))) (w := some (.d (.int wide))) (cut ns none (some 12)) (50021 + 977 * k) none
  have fin : ∀ a : Int, poolD [some (.d (.scr ns)), some (.d (.int k)), none, none, none, none] M = some (.ok (.rt (.r M.length)) (M ++ [[.int a, .int m', .int 0]])) → a.natAbs < 2 ^ 3900 → ∃ l, (∃ a b c : Int, l = [D.int a, .int b, .int c] ∧ a.natAbs < 2 ^ 3900) ∧ m__law_pool [.d (.scr ns), .d (.int k)] M = some (.ok (.r M.length) (M ++ [l])) := by
    intro a h ha
    refine ⟨[.int a, .int m', .int 0], ⟨_, _, _, rfl, ha⟩, ?_⟩
    unfold m__law_pool
    rw [poolD_eq, clo_rt h]
    unfold finR
    simp
  have small : ∀ x : Int, (x % wide).natAbs < 2 ^ 3900 := fun x => by
    have h1 := Int.emod_nonneg x (show wide ≠ 0 by omega)
    have h2 := Int.emod_lt_of_pos x hw0
    exact Nat.lt_of_le_of_lt (show _ ≤ wide.natAbs by omega) hwl
  by_cases h1 : cell < 0
  · refine fin (-cell % wide) ?_ (small _)
    unfold poolD
    simp [wd, hl, ← ec, h1, hw0, -Function.comp_apply]
  · by_cases h2 : 1000000000000000000 ≤ cell
    · refine fin (cell % wide) ?_ (small _)
      unfold poolD
      simp [wd, hl, ← ec, h1, h2, hw0]
    · refine fin 0 ?_ (by decide)
      unfold poolD
      simp [wd, hl, ← ec, h1, h2, hw0]
abbrev turnE (right : List W → Py W) : Slots → Py W := fCall 1 [0] [] right (fCons (fVar 2) (fNil))
noncomputable def turnB (cnt : Int) (right : List W → Py W) : Slots → Py Fl := sSeq (sAsg (fCall 2 [0, 1] [] m__law_pool (fCons (fVar 0) (fCons (fVar 1) (fNil)))) (gN 2))
 (sIf (fNot (fB (fCl (g1 gAll) (fCons (fComp (iR1 (fCons (fC (.int cnt)) (fNil))) (gN 3) (fYes) (turnE right) [3]) (fNil))))) (sRet (fC (.bl false))) (sNext))
noncomputable def lawD (cnt : Int) (right : List W → Py W) : Slots → Py Fl := sSeq (sFor (iR1 (fCons (fCl (g2 gMax2) (fCons (fC (.int 2)) (fCons (fCl (g2 gMin2) (fCons (fCl (g1 gLen) (fCons (fVar 0) (fNil))) (fCons (fC (.int 3)) (fNil)))) (fNil)))) (fNil))) (gN 1) (turnB cnt right))
 (sRet (fC (.bl true)))
def Keeps (right : List W → Py W) : Prop := ∀ n M, PI n M → ∃ M', PI n M' ∧ M'.length = M.length ∧ right [.r n] M = some (.ok (.d (.bl true)) M')
theorem turn_ok {cnt : Int} {right : List W → Py W} (h0 : 0 ≤ cnt) (h1 : cnt ≤ 1000) (hr : Keeps right) {ns : List Int} {k : Int} {b c : Option W} {M : Mem} : ∃ M' b', turnB cnt right [some (.d (.scr ns)), some (.d (.int k)), b, c] M = some (.ok (.nx [some (.d (.scr ns)), some (.d (.int k)), b', c]) M') := by
  obtain ⟨l, ⟨x, y, z, el, hx⟩, ep⟩ := pool_ok (M := M) (ns := ns) (k := k)
  have hp : PI M.length (M ++ [l]) := ⟨x, y, z, by rw [List.getElem?_append_right (Nat.le_refl _), Nat.sub_self, el]; rfl, hx⟩
  obtain ⟨M', hM', ec⟩ := comp_inv (δ := [some (.d (.scr ns)), some (.d (.int k)), some (.r M.length), none]) (I := PI M.length) (y := D.bl true) (e := turnE right) (g := gN 3) (fun x M1 => by
    refine ⟨[some (.d (.scr ns)), some (.d (.int k)), some (.r M.length), some x], rfl, fun h => ?_⟩
    obtain ⟨M2, h2, _, h3⟩ := hr _ _ h
    exact ⟨M2, h2, by simp [turnE, h3]⟩) ((List.range cnt.toNat).map fun (i : Nat) => W.d (.int (i : Int))) (M ++ [l]) hp
  refine ⟨M', some (.r M.length), ?_⟩
  have ea : List.replicate cnt.toNat (D.bl true) = (List.replicate cnt.toNat true).map D.bl := by simp
  have ec2 : compL none (gN 3) fYes (turnE right) [some (.d (.scr ns)), some (.d (.int k)), some (.r M.length), none] ((List.range cnt.toNat).map fun (i : Nat) => W.d (.int (i : Int))) (M ++ [l]) = some (.ok ((List.replicate cnt.toNat true).map D.bl) M') := by
    rw [ec, ← ea]
    simp
  have hc : fComp (iR1 (fCons (fC (.int cnt)) (fNil))) (gN 3) (fYes) (turnE right) [3] [some (.d (.scr ns)), some (.d (.int k)), some (.r M.length), c] (M ++ [l]) = some (.ok (.d (.lst ((List.replicate cnt.toNat true).map D.bl))) M') := by
    rw [e_comp, e_iR1, e_cons, e_C, thO_ok, kCa_, e_nil, thO_ok, kCb_, thO_ok, kI1_ (by omega) (by omega), thO_ok, kCo_n (by simp; omega)]
    show kCo2 (compL none (gN 3) fYes (turnE right) [some (.d (.scr ns)), some (.d (.int k)), some (.r M.length), none] _ _) = _
    rw [ec2]
    rfl
  have hall : (List.replicate cnt.toNat true).all id = true := by simp
  unfold turnB
  simp [ep, -e_comp, hc, -List.map_replicate]
theorem turns_ok {cnt : Int} {right : List W → Py W} (h0 : 0 ≤ cnt) (h1 : cnt ≤ 1000) (hr : Keeps right) {ns : List Int} : ∀ (l : List Nat) (a b c : Option W) (M : Mem), ∃ M' a' b' c', forL none (gN 1) (turnB cnt right) (l.map fun (i : Nat) => W.d (.int (i : Int))) [some (.d (.scr ns)), a, b, c] M = some (.ok (.nx [some (.d (.scr ns)), a', b', c']) M')
  | [], a, b, c, M => ⟨M, a, b, c, for_nil⟩
  | i :: l, a, b, c, M => by
    obtain ⟨M1, b1, e1⟩ := turn_ok (ns := ns) (k := (i : Int)) (b := b) (c := c) (M := M) h0 h1 hr
    obtain ⟨M2, a2, b2, c2, e2⟩ := turns_ok h0 h1 hr l (some (.d (.int (i : Int)))) b1 c M1
    exact ⟨M2, a2, b2, c2, (for_next (δ1 := [some (.d (.scr ns)), some (.d (.int (i : Int))), b, c]) rfl e1).trans e2⟩
theorem law_frame {cnt : Int} {right : List W → Py W} (h0 : 0 ≤ cnt) (h1 : cnt ≤ 1000) (hr : Keeps right) (ns : List Int) (hl : ns.length ≤ 63) : clo finV 4 (lawD cnt right) [.d (.scr ns)] [] = some (.ok (.d (.bl true)) []) := by
  obtain ⟨mm, em⟩ : ∃ mm : Int, mm = if (if (3 : Int) < (ns.length : Int) then 3 else (ns.length : Int)) > 2 then (if (3 : Int) < (ns.length : Int) then 3 else (ns.length : Int)) else 2 := ⟨_, rfl⟩
  have hm : 0 ≤ mm ∧ mm ≤ 3 := by
    rw [em]
    split <;> split <;> omega
  obtain ⟨M', a', b', c', e⟩ := turns_ok (ns := ns) h0 h1 hr (List.range mm.toNat) none none none []
  rw [clo_rt (w := .d (.bl true)) (M' := M')]
  · rfl
  · show lawD cnt right [some (.d (.scr ns)), none, none, none] [] = _
    unfold lawD
    rw [e_seq, e_sfor, e_iR1]
    have ei : fCons (fCl (g2 gMax2) (fCons (fC (.int 2)) (fCons (fCl (g2 gMin2) (fCons (fCl (g1 gLen) (fCons (fVar 0) (fNil))) (fCons (fC (.int 3)) (fNil)))) (fNil)))) (fNil) [some (.d (.scr ns)), none, none, none] [] = some (.ok [.d (.int mm)] []) := by
      simp [em]
    rw [ei, thO_ok, kI1_ (by omega) (by omega), thS_ok, kFor_n, e]
    simp
end DL
/-! DLr: data that repr shows; sums are small. -/
namespace DL
open PySem PySem.Spec PyProof.Rows L2

def okW : D → Prop
  | .non => True
  | .bl _ => True
  | .int i => i.natAbs < 10 ^ 20
  | .tup l => okWs l
  | .lst l => okWs l
  | _ => False
where okWs : List D → Prop
  | [] => True
  | d :: ds => okW d ∧ okWs ds
def wq : D → Nat
  | .non => 4
  | .bl _ => 5
  | .int _ => 21
  | .tup l => wqs l + 3
  | .lst l => wqs l + 2
  | _ => 0
where wqs : List D → Nat
  | [] => 0
  | d :: ds => wq d + 2 + wqs ds
def dq : D → Nat
  | .tup l => dqs l + 1
  | .lst l => dqs l + 1
  | _ => 0
where dqs : List D → Nat
  | [] => 0
  | d :: ds => max (dq d) (dqs ds)
theorem log2_small {n : Nat} (h : n < 10 ^ 20) : n.log2 < 1920 := by
  by_cases h0 : n = 0
  · subst h0
    decide
  · have := (Nat.log2_lt (k := 70) h0).mpr (Nat.lt_of_lt_of_le h (by decide))
    omega
mutual
theorem okW_all : ∀ x : D, okW x → pl x = true ∧ (toP x).showable = true ∧ (toP x).hasDict = false ∧ wid (toP x) = wq x ∧ (toP x).depth = dq x
  | .non, _ => ⟨rfl, rfl, rfl, rfl, rfl⟩
  | .bl _, _ => ⟨rfl, rfl, rfl, rfl, rfl⟩
  | .int i, h => ⟨rfl, decide_eq_true (log2_small h), rfl, if_pos h, rfl⟩
  | .str _, h => h.elim
  | .adr _, h => h.elim
  | .scr _, h => h.elim
  | .dct _ _, h => h.elim
  | .ins _ _ _, h => h.elim
  | .tup l, h => by
    obtain ⟨h1, h2, h3, h4, h5⟩ := okWs_all l h
    refine ⟨h1, h2, h3, ?_, ?_⟩
    · show wid.wids (toP.toPs l) + 3 = wq.wqs l + 3
      rw [h4]
    · show PyData.depthAll (toP.toPs l) + 1 = dq.dqs l + 1
      rw [h5]
  | .lst l, h => by
    obtain ⟨h1, h2, h3, h4, h5⟩ := okWs_all l h
    refine ⟨h1, h2, h3, ?_, ?_⟩
    · show wid.wids (toP.toPs l) + 2 = wq.wqs l + 2
      rw [h4]
    · show PyData.depthAll (toP.toPs l) + 1 = dq.dqs l + 1
      rw [h5]
theorem okWs_all : ∀ l : List D, okW.okWs l → pl.pls l = true ∧ PyData.showableAll (toP.toPs l) = true ∧ PyData.hasDictAll (toP.toPs l) = false ∧ wid.wids (toP.toPs l) = wq.wqs l ∧ PyData.depthAll (toP.toPs l) = dq.dqs l
  | [], _ => ⟨rfl, rfl, rfl, rfl, rfl⟩
  | d :: ds, h => by
    obtain ⟨h1, h2, h3, h4, h5⟩ := okW_all d h.1
    obtain ⟨g1, g2, g3, g4, g5⟩ := okWs_all ds h.2
    refine ⟨?_, ?_, ?_, ?_, ?_⟩
    · show (pl d && pl.pls ds) = true
      rw [h1, g1]
      rfl
    · show ((toP d).showable && PyData.showableAll (toP.toPs ds)) = true
      rw [h2, g2]
      rfl
    · show ((toP d).hasDict || PyData.hasDictAll (toP.toPs ds)) = false
      rw [h3, g3]
      rfl
    · show wid (toP d) + 2 + wid.wids (toP.toPs ds) = wq d + 2 + wq.wqs ds
      rw [h4, g4]
    · show max (toP d).depth (PyData.depthAll (toP.toPs ds)) = max (dq d) (dq.dqs ds)
      rw [h5, g5]
end
theorem okR_small {x : D} (h : okW x) (hd : dq x ≤ 60) (hw : wq x ≤ 1000000) : okR x = true := by
  obtain ⟨h1, h2, h3, h4, h5⟩ := okW_all x h
  exact okR_of h1 h2 h3 (by omega) (by omega)
theorem repr_small {M : Mem} {x : D} (h : okW x) (hd : dq x ≤ 60) (hw : wq x ≤ 1000000) : gRepr M (.d x) = some (.d (.str (toP x).shown)) := o_repr (okR_small h hd hw)
theorem okWs_ints : ∀ l : List Int, (∀ x ∈ l, x.natAbs < 10 ^ 20) → okW.okWs (l.map D.int)
  | [], _ => trivial
  | x :: l, h => ⟨h x List.mem_cons_self, okWs_ints l fun y hy => h y (List.mem_cons_of_mem _ hy)⟩
theorem wqs_ints : ∀ l : List Int, wq.wqs (l.map D.int) = 23 * l.length
  | [] => rfl
  | x :: l => by
    show 21 + 2 + wq.wqs (l.map D.int) = 23 * (l.length + 1)
    rw [wqs_ints l]
    omega
theorem dqs_ints : ∀ l : List Int, dq.dqs (l.map D.int) = 0
  | [] => rfl
  | x :: l => by
    show max 0 (dq.dqs (l.map D.int)) = 0
    rw [dqs_ints l]
    rfl
/-! ### sums -/
theorem sum_range {c : Cal} (h : c.Ok) {m : Int} (hm : 0 ≤ m) : 0 ≤ c.sum m ∧ c.sum m ≤ m + 1 := by
  have a1 := h.a.nn; have a2 := h.a.le; have a3 := h.a.pos
  have b1 := h.b.nn; have b2 := h.lt; have b3 := h.b.pos
  have hqs : 0 < c.q * c.s := Int.mul_pos (by omega) (by omega)
  have t1 : 0 ≤ m * c.p * c.s := Int.mul_nonneg (Int.mul_nonneg hm a1) (by omega)
  have t2 : 0 ≤ c.r * c.q := Int.mul_nonneg b1 (by omega)
  refine ⟨Int.ediv_nonneg (by omega) (by omega), ?_⟩
  have u1 : m * c.p * c.s ≤ m * c.q * c.s := Int.mul_le_mul_of_nonneg_right (Int.mul_le_mul_of_nonneg_left a2 hm) (by omega)
  have u2 : c.r * c.q ≤ c.s * c.q := Int.mul_le_mul_of_nonneg_right (by omega) (by omega)
  have e1 : m * c.q * c.s = m * (c.q * c.s) := Int.mul_assoc _ _ _
  have e2 : c.s * c.q = c.q * c.s := Int.mul_comm _ _
  show (m * c.p * c.s + c.r * c.q) / (c.q * c.s) ≤ m + 1
  have : (m * c.p * c.s + c.r * c.q) / (c.q * c.s) < m + 2 := Int.ediv_lt_of_lt_mul hqs (by
    have e3 : (m + 2) * (c.q * c.s) = m * (c.q * c.s) + 2 * (c.q * c.s) := Int.add_mul _ _ _
    rw [e3]
    omega)
  omega
theorem r1_ok {fs : Slots → Py (List W)} {δ : Slots} {M M' : Mem} {i : Int} {n : Nat} (h : fs δ M = some (.ok [.d (.int i)] M')) (h0 : -1000000 ≤ i) (h1 : i ≤ 1000000) (hn : i.toNat = n) : iR1 fs δ M = some (.ok ⟨(List.range n).map fun (i : Nat) => W.d (.int (i : Int)), none⟩ M') := by
  rw [e_iR1, h, thO_ok, kI1_ (by omega) (by omega), hn]
end DL
/-! DLt: rows of partings. -/
namespace DL
open PySem PySem.Spec PyProof.Rows L2
def parts (c e : Cal) (n : Nat) : List Int := (List.range n).map fun (i : Nat) => c.sum i - e.sum i
def pmin (c e : Cal) (n : Nat) : Int := match parts c e n with
  | [] => 0
  | a :: l => mn a l
def pmax (c e : Cal) (n : Nat) : Int := match parts c e n with
  | [] => 0
  | a :: l => mx a l
theorem parts_cons (c e : Cal) (n : Nat) : ∃ a l, parts c e (n + 1) = a :: l ∧ l.length = n := by
  cases h : parts c e (n + 1) with
  | nil =>
    have := congrArg List.length h
    simp [parts] at this
  | cons a l =>
    refine ⟨a, l, rfl, ?_⟩
    have := congrArg List.length h
    simp [parts] at this
    omega
theorem parts_last (c e : Cal) (n : Nat) : atI ((parts c e (n + 1)).map D.int) (-1) = some (.int (c.sum n - e.sum n)) := by
  obtain ⟨a, l, h, hl⟩ := parts_cons c e n
  rw [h, List.map_cons, ix_m1, List.length_map, hl, ← List.map_cons, ← h, List.getElem?_map]
  simp [parts]
theorem parts_small {c e : Cal} (hc : c.Ok) (he : e.Ok) {n : Nat} (hn : n ≤ 1000) : ∀ x ∈ parts c e n, x.natAbs < 10 ^ 20 := by
  intro x hx
  unfold parts at hx
  obtain ⟨i, hi, rfl⟩ := List.mem_map.mp hx
  have hi' := List.mem_range.mp hi
  have h1 := sum_range hc (m := (i : Int)) (by omega)
  have h2 := sum_range he (m := (i : Int)) (by omega)
  show (c.sum i - e.sum i).natAbs < _
  omega
theorem pm_small {c e : Cal} (hc : c.Ok) (he : e.Ok) {n : Nat} (hn : n < 1000) : (pmin c e (n + 1)).natAbs < 10 ^ 20 ∧ (pmax c e (n + 1)).natAbs < 10 ^ 20 := by
  have sm := parts_small hc he (n := n + 1) hn
  obtain ⟨a, l, h, hl⟩ := parts_cons c e n
  unfold pmin pmax
  rw [h] at sm ⊢
  exact ⟨sm _ (mn_mem a l), sm _ (mx_mem a l)⟩
section
variable {M : Mem} {n : Nat}
theorem min_parts (c e : Cal) (n : Nat) : gMin M (.d (.lst ((parts c e (n + 1)).map D.int))) = some (.d (.int (pmin c e (n + 1)))) := by
  obtain ⟨a, l, h, hl⟩ := parts_cons c e n
  unfold pmin
  rw [h]
  exact o_minL a l
theorem max_parts (c e : Cal) (n : Nat) : gMax M (.d (.lst ((parts c e (n + 1)).map D.int))) = some (.d (.int (pmax c e (n + 1)))) := by
  obtain ⟨a, l, h, hl⟩ := parts_cons c e n
  unfold pmax
  rw [h]
  exact o_maxL a l
/-- [_(.., month) for month in range(x + 1)] -/
theorem rows_ok {c e : Cal} (hc : c.Ok) (he : e.Ok) {k : Nat} (hk : k ≤ 999) {δ : Slots} {j : Nat} {el : Slots → Py W} {fi : Slots → Py Its0} (hi : fi δ M = some (.ok ⟨(List.range (k + 1)).map fun (i : Nat) => W.d (.int (i : Int)), none⟩ M))
    (hel : ∀ m : Int, el ((wipeD δ [j]).set j (some (.d (.int m)))) M = m__law_parted [.d c.d, .d e.d, .d (.int m)] M) : fComp fi (gN j) fYes el [j] δ M = some (.ok (.d (.lst ((parts c e (k + 1)).map D.int))) M) := by
  rw [e_comp, hi, thO_ok, kCo_n (by simp; omega)]
  rw [comp_map (fun (i : Nat) => D.int (i : Int)) (fun (i : Nat) => D.int (c.sum i - e.sum i)) (List.range (k + 1)) fun x _ => by rw [hel, parted_ok hc he]]
  rw [kCo2_]
  unfold parts
  rw [List.map_map]
  rfl

theorem eqTup2 (p q p' q' : Int) : gEq M (.d (fr p q)) (.d (fr p' q')) = some (.d (.bl (decide (p = p' ∧ q = q')))) := by
  have h : eqD (fr p q) (fr p' q') = decide (p = p' ∧ q = q') := by
    show ((p == p') && ((q == q') && true)) = _
    rw [Bool.eq_iff_iff]
    simp
  show (if (okD (fr p q) && okD (fr p' q')) = true then some (W.d (D.bl (eqD (fr p q) (fr p' q')))) else none) = _
  rw [h]
  rfl
theorem neTup2 (p q p' q' : Int) : gNe M (.d (fr p q)) (.d (fr p' q')) = some (.d (.bl (!decide (p = p' ∧ q = q')))) := by
  have h : eqD (fr p q) (fr p' q') = decide (p = p' ∧ q = q') := by
    show ((p == p') && ((q == q') && true)) = _
    rw [Bool.eq_iff_iff]
    simp
  show (if (okD (fr p q) && okD (fr p' q')) = true then some (W.d (D.bl (!eqD (fr p q) (fr p' q')))) else none) = _
  rw [h]
  rfl
end
/-! ### minima, maxima -/
theorem pmin_le (c e : Cal) (n : Nat) : ∀ i : Nat, i < n → pmin c e n ≤ c.sum i - e.sum i := by
  intro i hi
  have hm : c.sum i - e.sum i ∈ parts c e n := List.mem_map.mpr ⟨i, List.mem_range.mpr hi, rfl⟩
  unfold pmin
  split
  · rename_i h
    rw [h] at hm
    cases hm
  · rename_i a l h
    rw [h] at hm
    exact mn_le a l _ hm
theorem pmax_ge (c e : Cal) (n : Nat) : ∀ i : Nat, i < n → c.sum i - e.sum i ≤ pmax c e n := by
  intro i hi
  have hm : c.sum i - e.sum i ∈ parts c e n := List.mem_map.mpr ⟨i, List.mem_range.mpr hi, rfl⟩
  unfold pmax
  split
  · rename_i h
    rw [h] at hm
    cases hm
  · rename_i a l h
    rw [h] at hm
    exact mx_le a l _ hm
theorem pmin_at (c e : Cal) (n : Nat) : ∃ i : Nat, i < n + 1 ∧ pmin c e (n + 1) = c.sum i - e.sum i := by
  obtain ⟨a, l, h, _⟩ := parts_cons c e n
  have hm : pmin c e (n + 1) ∈ parts c e (n + 1) := by
    unfold pmin
    rw [h]
    exact mn_mem a l
  obtain ⟨i, hi, e⟩ := List.mem_map.mp hm
  exact ⟨i, List.mem_range.mp hi, e.symm⟩
theorem pmax_at (c e : Cal) (n : Nat) : ∃ i : Nat, i < n + 1 ∧ pmax c e (n + 1) = c.sum i - e.sum i := by
  obtain ⟨a, l, h, _⟩ := parts_cons c e n
  have hm : pmax c e (n + 1) ∈ parts c e (n + 1) := by
    unfold pmax
    rw [h]
    exact mx_mem a l
  obtain ⟨i, hi, e⟩ := List.mem_map.mp hm
  exact ⟨i, List.mem_range.mp hi, e.symm⟩
/-! ### Bezout -/
theorem bezout : ∀ (a b : Nat), ∃ u v : Int, u * a + v * b = (Nat.gcd a b : Nat) := by
  intro a b
  induction a, b using Nat.gcd.induction with
  | H0 n => exact ⟨0, 1, by simp⟩
  | H1 m n hm ih =>
    obtain ⟨u, v, h⟩ := ih
    refine ⟨v - u * (n / m : Nat), u, ?_⟩
    rw [Nat.gcd_rec, ← h]
    have hd : (n : Int) = (m : Int) * ((n / m : Nat) : Int) + ((n % m : Nat) : Int) := by
      have := Nat.div_add_mod n m
      exact_mod_cast this.symm
    have e1 : (v - u * ((n / m : Nat) : Int)) * (m : Int) = v * m - u * (m * ((n / m : Nat) : Int)) := by
      rw [Int.sub_mul, Int.mul_assoc, Int.mul_comm ((n / m : Nat) : Int) (m : Int)]
    have e2 : u * (n : Int) = u * (m * ((n / m : Nat) : Int)) + u * ((n % m : Nat) : Int) := by
      rw [← Int.mul_add, ← hd]
    rw [e1, e2]
    omega
/-- every rest is met -/
theorem rest_met {p q x : Int} (h : Pace p q) (h0 : 0 ≤ x) (h1 : x < q) : ∃ m : Nat, (m : Int) < q ∧ ((m : Int) * p) % q = x := by
  obtain ⟨u, v, e⟩ := bezout p.natAbs q.natAbs
  rw [h.co] at e
  have ep : ((p.natAbs : Nat) : Int) = p := Int.natAbs_of_nonneg h.nn
  have eq : ((q.natAbs : Nat) : Int) = q := Int.natAbs_of_nonneg (by have := h.pos; omega)
  rw [ep, eq] at e
  have hq := h.pos
  have n1 := Int.emod_nonneg (u * x) (show q ≠ 0 by omega)
  have n2 := Int.emod_lt_of_pos (u * x) (show 0 < q by omega)
  obtain ⟨m, em⟩ := Int.eq_ofNat_of_zero_le n1
  refine ⟨m, by omega, ?_⟩
  have t : u * x * p = x + q * (-(v * x)) := by
    have : u * p * x + v * q * x = x := by rw [← Int.add_mul, e]; simp
    have e1 : u * x * p = u * p * x := by rw [Int.mul_assoc, Int.mul_comm x p, ← Int.mul_assoc]
    have e2 : q * (-(v * x)) = -(v * q * x) := by rw [Int.mul_neg, ← Int.mul_assoc, Int.mul_comm q v]
    rw [e1, e2]
    omega
  have s : ((m : Int) * p) % q = (u * x * p) % q := by
    rw [← em, Int.mul_emod, Int.emod_emod, ← Int.mul_emod]
  rw [s, t, Int.add_mul_emod_self_left]
  exact Int.emod_eq_of_lt h0 h1
end DL
/-! DLv: range(a, b, -1), list(range(n)). -/
namespace DL
open PySem PySem.Spec PyProof.Rows L2
def rB (n : Int) : Prop := -(2 ^ 40) ≤ n ∧ n < 2 ^ 40
instance : ∀ n, Decidable (rB n) := fun n => by unfold rB; infer_instance
def kI3 (ws : List W) (M : Mem) : Option (Out Its0) := match ws with
  | [.d (.int a), .d (.int b), .d (.int c)] => if c = -1 ∧ rB a ∧ rB b then some (.ok ⟨(List.range (a - b).toNat).map fun (i : Nat) => W.d (.int (a + (i : Int) * (-1))), none⟩ M) else none
  | _ => none
def iR3 (fs : Slots → Py (List W)) : Slots → Py Its0 := fun δ M => thO (fs δ M) kI3
@[simp] theorem e_iR3 {fs : Slots → Py (List W)} {δ : Slots} {M : Mem} : iR3 fs δ M = thO (fs δ M) kI3 := rfl
theorem walks_rng3 {K : PySem.W.Frag} {ps φ1 : List Addr} {H1 : Hp} {lo c : Int} {n : Nat} : Walks K ps φ1 H1 (Itc lo c n) ⟨(List.range n).map fun (i : Nat) => W.d (.int (lo + (i : Int) * c)), none⟩ := by
  intro φ2 H2 M2 qs x m RM _ i
  refine ⟨fun w hw => ?_, fun hi => ?_⟩
  · dsimp only at hw
    rw [List.getElem?_map] at hw
    by_cases hn : i < n
    · rw [List.getElem?_range hn] at hw
      have e := Option.some.inj hw
      subst e
      refine ⟨hn, fun v H3 hy => ?_⟩
      obtain ⟨e1, e2⟩ := hy
      subst e1 e2
      exact ⟨Xt.refl, RM, to_int⟩
    · rw [List.getElem?_eq_none (by rw [List.length_range]; omega)] at hw
      cases hw
  · show n ≤ i
    simpa using hi
theorem vint3 {K : PySem.W.Frag} {φ ps : List Addr} {H : Hp} {a b c : Int} {vs : List V} (r : RpWL K φ ps H [.d (.int a), .d (.int b), .d (.int c)] vs) : vs = [.int a, .int b, .int c] := by
  obtain ⟨v, r', e, h1, h2⟩ := r
  rw [e, rw_int h1, vint2 h2]
section
variable {F : Fam} {a b c e tg : Expr} {fs : Slots → Py (List W)} {fa : Slots → Py W} {p p2 pos q : Pos}
theorem qi_range3 (ha : QA F [a, b, c] fs) (hm : F.mg ("range" : Str) = none) (hg : F.sc.names.lookup ("range" : Str) = some .globalImplicit := by rfl) (hs : ∀ env, starEach [a, b, c] env = (false, eval a env) :: starEach [b, c] env := by intro _; rfl) (hpl : ∀ env, (backTo pos (starEach [b, c] env)).any (·.1) = false := by intro _; rfl) : QI F tg (.Call (.Name "range" p) [a, b, c] [] pos) (iR3 fs) := by
  obtain ⟨t, pa, sa⟩ := ha
  refine ⟨fun Wx => iRng3 (t Wx), fun i Wx tk => pi_range3 (by show (F.X i).env.scope.names.lookup _ = _; rw [F.hsc i]; exact hg) (by rw [F.hm i]; exact hm) (pa i Wx tk) (hs _) (hpl _), fun Wx φ ps H σ δ M RM RS o h R P => ?_⟩
  have h' : bnd (fs δ) kI3 M = some o := by rw [le_bnd]; exact h
  refine sem_bind (sa Wx) RM RS h' P fun ws M1 φ1 H1 vs x1 RM1 RS1 rx h1 P1 => ?_
  unfold kI3 at h1
  split at h1
  · rename_i n m k
    split at h1
    · rename_i hn
      obtain ⟨hc, hn1, hn2⟩ := hn
      have e2 := Option.some.inj h1
      subst e2
      subst hc
      unfold rB at hn1 hn2
      exact ⟨n, m, -1, (n - m).toNat, vint3 rx, RgC.neg (by omega) (by omega) (by omega) (by omega), P1 φ1 H1 _ Xt.refl RM1 walks_rng3⟩
    · cases h1
  · cases h1
/-- list(range(n)) -/
def gLr (_ : Mem) (w : W) : Option W := match w with
  | .d (.int n) => if 0 ≤ n ∧ n ≤ 1000000 then some (.d (.lst ((List.range n.toNat).map fun (i : Nat) => D.int (i : Int)))) else none
  | _ => none
theorem rp_rg {K : PySem.W.Frag} {av : List Addr} {H : Hp} : ∀ l : List Nat, RpL K av H (l.map fun (i : Nat) => D.int (i : Int)) (l.map fun (i : Nat) => V.int (i : Int))
  | [] => RpL.nil
  | n :: l => RpL.cons (by rw [Rp]) (rp_rg l)
theorem rg0 (n : Int) : rgV 0 n = (List.range n.toNat).map fun (i : Nat) => V.int (i : Int) := by
  unfold rgV
  rw [show (n - 0).toNat = n.toNat by omega]
  exact List.map_congr_left fun i _ => by rw [Int.zero_add]
theorem q_listRg (ha : QE F a fa) (hg : F.sc.names.lookup ("list" : Str) = some .globalImplicit) (hm : F.mg ("list" : Str) = none) (hg2 : F.sc.names.lookup ("range" : Str) = some .globalImplicit) (hm2 : F.mg ("range" : Str) = none) (na : ∀ env, starEach [a] env = (false, eval a env) :: starEach [] env := by intro _; rfl)
    (nb : ∀ env, starEach [Expr.Call (.Name "range" p2) [a] [] q] env = (false, eval (.Call (.Name "range" p2) [a] [] q) env) :: starEach [] env := by intro _; rfl) :
    QE F (.Call (.Name "list" p) [.Call (.Name "range" p2) [a] [] q] [] pos) (f1 gLr fa) := by
  obtain ⟨ta, pa, sa⟩ := ha
  refine ⟨fun Wx => tLstRg (tRg1 (ta Wx)), fun i Wx tk => pe_listRg (F.calm i) (by show (F.X i).env.scope.names.lookup _ = _; rw [F.hsc i]; exact hg) (by rw [F.hm i]; exact hm) (prg_1 (by show (F.X i).env.scope.names.lookup _ = _; rw [F.hsc i]; exact hg2) (by rw [F.hm i]; exact hm2) (pa i Wx tk) (na _)) (nb _), fun Wx φ ps H σ δ M RM RS o h Q P => ?_⟩
  refine sem_bind (sa Wx) RM RS h P fun x M1 φ1 H1 v x1 RM1 RS1 rx h1 P1 => ?_
  cases e : gLr M1 x with
  | none => simp only [e] at h1; cases h1
  | some w =>
    simp only [e] at h1
    have e2 := Option.some.inj h1
    subst e2
    unfold gLr at e
    split at e
    · rename_i n
      split at e
      · rename_i hn
        have e3 := Option.some.inj e
        subst e3
        refine ⟨n, rw_int rx, RgOk.of_le (by omega) (by omega) (by omega) (by omega), fun r hr => ?_⟩
        rw [rg0]
        exact P1 _ _ _ (Xt.new hr) (RM1.new hr) (new_lst RM1 hr (rp_rg _))
      · cases e
    · cases e
end
end DL
namespace DL
open PySem PySem.Spec PyProof.Rows L2
noncomputable def d_is_far : Slots → Py Fl := sRet (fCall 3 [0, 1, 2] [] m_is_between (fCons (fVar 0) (fCons (fC (.int 1)) (fCons (fC (.int 99)) (fNil)))))
noncomputable def m_is_far : List W → Py W := clo finV 1 d_is_far
noncomputable def d_drift : Slots → Py Fl := sSeq (sAsg (f2 gSub (f2 gMul (f2 gIx (f2 gIx (fVar 0) (fC (.int 0))) (fC (.int 0))) (f2 gIx (f2 gIx (fVar 1) (fC (.int 0))) (fC (.int 1)))) (f2 gMul (f2 gIx (f2 gIx (fVar 1) (fC (.int 0))) (fC (.int 0))) (f2 gIx (f2 gIx (fVar 0) (fC (.int 0))) (fC (.int 1))))) (gN 2))
 (sRet (fTup (fCons (fCl (g1 gAbs) (fCons (fVar 2) (fNil))) (fCons (f2 gMul (f2 gIx (f2 gIx (fVar 0) (fC (.int 0))) (fC (.int 1))) (f2 gIx (f2 gIx (fVar 1) (fC (.int 0))) (fC (.int 1)))) (fNil)))))
noncomputable def m_drift : List W → Py W := clo finV 3 d_drift
noncomputable def d_doubt_by : Slots → Py Fl := sSeq (sAsg (fCall 2 [0, 1] [] m_drift (fCons (fVar 0) (fCons (fVar 1) (fNil)))) (gT 2 (gsCons (gN 3) (gsCons (gN 4) (gsNil)))))
 (sSeq (sIf (fB (f2 gEq (fVar 3) (fC (.int 0)))) (sRet (fC .non)) (sNext))
 (sSeq (sAsg (fCl (g2 gMin2) (fCons (f2 gAdd (fC (.int 99999)) (f2 gMul (fC (.int 2)) (fCl (g2 gMax2) (fCons (f2 gIx (f2 gIx (fVar 0) (fC (.int 0))) (fC (.int 1))) (fCons (f2 gIx (f2 gIx (fVar 1) (fC (.int 0))) (fC (.int 1))) (fNil)))))) (fCons (f2 gAdd (f2 gDiv (f2 gMul (f2 gAdd (fVar 2) (fC (.int 2))) (fVar 4)) (fVar 3)) (fC (.int 1))) (fNil)))) (gN 5))
 (sSeq (sFor (iR3 (fCons (fVar 5) (fCons (f2 gSub (fC (.int 99999)) (fC (.int 1))) (fCons (f1 gNeg (fC (.int 1))) (fNil))))) (gN 6) (sIf (fB (f2 gLt (fCl (g1 gAbs) (fCons (fCall 3 [0, 1, 2] [] m_parting_by (fCons (fVar 0) (fCons (fVar 1) (fCons (fVar 6) (fNil))))) (fNil))) (fVar 2))) (sRet (fC .non)) (sNext)))
 (sSeq (sAsg (fCl (g2 gMin2) (fCons (fVar 5) (fCons (fC (.int 99999)) (fNil)))) (gN 6))
 (sSeq (sWhile (fun δ : Slots => match δ[6]? with | some (some (W.d (D.int i))) => i.toNat + 1 | _ => 0) (fB (f2 gGe (fCl (g1 gAbs) (fCons (fCall 3 [0, 1, 2] [] m_parting_by (fCons (fVar 0) (fCons (fVar 1) (fCons (fVar 6) (fNil))))) (fNil))) (fVar 2))) (sAsg (f2 gSub (fVar 6) (fC (.int 1))) (gN 6)))
 (sRet (f2 gAdd (fVar 6) (fC (.int 1)))))))))
noncomputable def m_doubt_by : List W → Py W := clo finV 7 d_doubt_by
noncomputable def d_check_far : Slots → Py Fl := sSeq (sDrop (fCall 2 [0, 1] [] m_check_calendars (fCons (fVar 0) (fCons (fVar 1) (fNil)))))
 (sIf (fNot (fB (fCall 1 [0] [] m_is_far (fCons (fVar 2) (fNil))))) (sNo) (sNext))
noncomputable def m_check_far : List W → Py W := clo finV 3 d_check_far
noncomputable def d_day_of_doubt : Slots → Py Fl := sSeq (sDrop (fCall 3 [0, 1, 2] [] m_check_far (fCons (fVar 0) (fCons (fVar 1) (fCons (fVar 2) (fNil))))))
 (sRet (fCall 3 [0, 1, 2] [] m_doubt_by (fCons (fVar 0) (fCons (fVar 1) (fCons (fVar 2) (fNil))))))
noncomputable def m_day_of_doubt : List W → Py W := clo finV 3 d_day_of_doubt
noncomputable def d__law_doubt : Slots → Py Fl := sSeq (sAsg (fCl (g1 gAbs) (fCons (f2 gSub (f2 gMul (f2 gIx (f2 gIx (fVar 0) (fC (.int 0))) (fC (.int 0))) (f2 gIx (f2 gIx (fVar 1) (fC (.int 0))) (fC (.int 1)))) (f2 gMul (f2 gIx (f2 gIx (fVar 1) (fC (.int 0))) (fC (.int 0))) (f2 gIx (f2 gIx (fVar 0) (fC (.int 0))) (fC (.int 1))))) (fNil))) (gN 3))
 (sSeq (sAsg (f2 gAdd (f2 gDiv (f2 gMul (f2 gMul (f2 gAdd (fVar 2) (fC (.int 3))) (f2 gIx (f2 gIx (fVar 0) (fC (.int 0))) (fC (.int 1)))) (f2 gIx (f2 gIx (fVar 1) (fC (.int 0))) (fC (.int 1)))) (fVar 3)) (fC (.int 2))) (gN 4))
 (sSeq (sIf (fB (f2 gGt (fVar 4) (fC (.int 200000)))) (sRet (f1 gNeg (fC (.int 1)))) (sNext))
 (sSeq (sFor (iSeq (f1 gRev (f1 gLr (f2 gAdd (fVar 4) (fC (.int 1)))))) (gN 5) (sIf (fB (fChain gLt gLt (f2 gSub (fC (.int 0)) (fVar 2)) (fCall 3 [0, 1, 2] [] m__law_parted (fCons (fVar 0) (fCons (fVar 1) (fCons (fVar 5) (fNil))))) (fVar 2))) (sRet (fIf (fB (f2 gLt (f2 gAdd (fVar 5) (fC (.int 1))) (fC (.int 100000)))) (f2 gAdd (fVar 5) (fC (.int 1))) (fC .non))) (sNext)))
 (sRet (fC (.int 0))))))
noncomputable def m__law_doubt : List W → Py W := clo finV 6 d__law_doubt
noncomputable def d__law_right : Slots → Py Fl := sSeq (sAsg (fCall 1 [0] [] m__law_two (fCons (fVar 0) (fNil))) (gT 2 (gsCons (gN 1) (gsCons (gN 2) (gsNil)))))
 (sSeq (sIf (fB (f2 gEq (f2 gIx (fVar 1) (fC (.int 0))) (f2 gIx (fVar 2) (fC (.int 0))))) (sAsg (fTup (fCons (fCall 2 [0, 1] [] m__law_lowest (fCons (f2 gAdd (f2 gIx (f2 gIx (fVar 2) (fC (.int 0))) (fC (.int 0))) (fC (.int 1))) (fCons (f2 gAdd (f2 gIx (f2 gIx (fVar 2) (fC (.int 0))) (fC (.int 1))) (fC (.int 2))) (fNil)))) (fCons (f2 gIx (fVar 2) (fC (.int 1))) (fNil)))) (gN 2)) (sNext))
 (sSeq (sIf (fB (f2 gEq (f2 gIx (fVar 1) (fC (.int 0))) (f2 gIx (fVar 2) (fC (.int 0))))) (sRet (fC (.bl true))) (sNext))
 (sSeq (sFor (iSeq (fLst (fCons (fC (.int 1)) (fCons (fC (.int 2)) (fCons (f2 gAdd (fC (.int 1)) (fCall 2 [0, 1] [] m__law_take (fCons (fVar 0) (fCons (fC (.int 99)) (fNil))))) (fNil)))))) (gN 3) (sSeq (sAsg (fCall 3 [0, 1, 2] [] m__law_doubt (fCons (fVar 1) (fCons (fVar 2) (fCons (fVar 3) (fNil))))) (gN 4))
 (sIf (fB (f2 gNe (fVar 4) (f1 gNeg (fC (.int 1))))) (sSeq (sAsg (fIf (fB (f2 gNe (fVar 3) (fC (.int 2)))) (fCall 3 [0, 1, 2] [] m_day_of_doubt (fCons (fVar 1) (fCons (fVar 2) (fCons (fVar 3) (fNil))))) (fCallK 0 3 [2, 1, 0] [] m_day_of_doubt fNil (fCons (fVar 3) (fCons (fVar 2) (fCons (fVar 1) (fNil)))))) (gN 5))
 (sIf (fB (f2 gNe (fCl (g1 gRepr) (fCons (fVar 5) (fNil))) (fCl (g1 gRepr) (fCons (fVar 4) (fNil))))) (sRet (fC (.bl false))) (sNext))) (sNext))))
 (sRet (fC (.bl true))))))
noncomputable def m__law_right : List W → Py W := clo finV 6 d__law_right
noncomputable def d_law : Slots → Py Fl := sSeq (sFor (iR1 (fCons (fCl (g2 gMax2) (fCons (fC (.int 2)) (fCons (fCl (g2 gMin2) (fCons (fCl (g1 gLen) (fCons (fVar 0) (fNil))) (fCons (fC (.int 3)) (fNil)))) (fNil)))) (fNil))) (gN 1) (sSeq (sAsg (fCall 2 [0, 1] [] m__law_pool (fCons (fVar 0) (fCons (fVar 1) (fNil)))) (gN 2))
 (sIf (fNot (fB (fCl (g1 gAll) (fCons (fComp (iR1 (fCons (fC (.int 5)) (fNil))) (gN 3) (fYes) (fCall 1 [0] [] m__law_right (fCons (fVar 2) (fNil))) [3]) (fNil))))) (sRet (fC (.bl false))) (sNext))))
 (sRet (fC (.bl true)))
noncomputable def m_law : List W → Py W := clo finV 4 d_law
/-! ### k42: days of doubt -/
def prt (c e : Cal) (m : Int) : Int := c.sum m - e.sum m
def near (c e : Cal) (far m : Int) : Prop := -far < prt c e m ∧ prt c e m < far
instance : ∀ c e far m, Decidable (near c e far m) := fun c e far m => by unfold near; infer_instance
/-- how far a sum goes in d months -/
theorem sum_diff {c : Cal} (h : c.Ok) (m d : Int) : d * c.p - c.q < c.q * (c.sum (m + d) - c.sum m) ∧ c.q * (c.sum (m + d) - c.sum m) < d * c.p + c.q := by
  have a3 := h.a.pos; have b3 := h.b.pos
  have hqs : 0 < c.q * c.s := Int.mul_pos (by omega) (by omega)
  obtain ⟨X, hX⟩ : ∃ X, X = m * c.p * c.s + c.r * c.q := ⟨_, rfl⟩
  have e1 : (m + d) * c.p * c.s + c.r * c.q = X + d * c.p * c.s := by
    rw [hX, Int.add_mul, Int.add_mul]
    omega
  have s0 : c.sum m = X / (c.q * c.s) := by rw [hX]; rfl
  have s1 : c.sum (m + d) = (X + d * c.p * c.s) / (c.q * c.s) := by rw [← e1]; rfl
  have u0 := Int.mul_ediv_add_emod X (c.q * c.s)
  have u1 := Int.mul_ediv_add_emod (X + d * c.p * c.s) (c.q * c.s)
  have v0 := Int.emod_nonneg X (show c.q * c.s ≠ 0 by omega)
  have v1 := Int.emod_nonneg (X + d * c.p * c.s) (show c.q * c.s ≠ 0 by omega)
  have w0 := Int.emod_lt_of_pos X hqs
  have w1 := Int.emod_lt_of_pos (X + d * c.p * c.s) hqs
  rw [← s0] at u0
  rw [← s1] at u1
  obtain ⟨D, hD⟩ : ∃ D, D = c.sum (m + d) - c.sum m := ⟨_, rfl⟩
  have t : c.q * c.s * D = c.q * c.s * c.sum (m + d) - c.q * c.s * c.sum m := by rw [hD, Int.mul_sub]
  have t2 : c.q * c.s * D = (c.q * D) * c.s := by rw [Int.mul_right_comm]
  rw [← hD]
  constructor
  · refine Int.lt_of_mul_lt_mul_right (a := c.s) ?_ (by omega)
    rw [← t2, Int.sub_mul]
    omega
  · refine Int.lt_of_mul_lt_mul_right (a := c.s) ?_ (by omega)
    rw [← t2, Int.add_mul]
    omega
theorem sum_0' {c : Cal} (h : c.Ok) : c.sum 0 = 0 := by
  have a3 := h.a.pos; have b1 := h.b.nn; have b2 := h.lt; have b3 := h.b.pos
  have l2 : c.r * c.q < c.s * c.q := Int.mul_lt_mul_of_pos_right b2 (by omega)
  have l4 : 0 ≤ c.r * c.q := Int.mul_nonneg b1 (by omega)
  have := Int.mul_comm c.s c.q
  show (0 * c.p * c.s + c.r * c.q) / (c.q * c.s) = 0
  rw [Int.zero_mul, Int.zero_mul, Int.zero_add]
  exact Int.ediv_eq_zero_of_lt l4 (by omega)
/-- a parting beside the drift -/
theorem prt_diff {c e : Cal} (hc : c.Ok) (he : e.Ok) (m d : Int) : d * (c.p * e.q - e.p * c.q) - 2 * (c.q * e.q) < (prt c e (m + d) - prt c e m) * (c.q * e.q) ∧ (prt c e (m + d) - prt c e m) * (c.q * e.q) < d * (c.p * e.q - e.p * c.q) + 2 * (c.q * e.q) := by
  have a3 := hc.a.pos; have d3 := he.a.pos
  obtain ⟨h1, h2⟩ := sum_diff hc m d
  obtain ⟨g1, g2⟩ := sum_diff he m d
  obtain ⟨x, hx⟩ : ∃ x, x = c.sum (m + d) - c.sum m := ⟨_, rfl⟩
  obtain ⟨y, hy⟩ : ∃ y, y = e.sum (m + d) - e.sum m := ⟨_, rfl⟩
  rw [← hx] at h1 h2
  rw [← hy] at g1 g2
  have ep : prt c e (m + d) - prt c e m = x - y := by
    unfold prt
    omega
  have k1 : (d * c.p - c.q) * e.q < (c.q * x) * e.q := Int.mul_lt_mul_of_pos_right h1 (by omega)
  have k2 : (c.q * x) * e.q < (d * c.p + c.q) * e.q := Int.mul_lt_mul_of_pos_right h2 (by omega)
  have k3 : (d * e.p - e.q) * c.q < (e.q * y) * c.q := Int.mul_lt_mul_of_pos_right g1 (by omega)
  have k4 : (e.q * y) * c.q < (d * e.p + e.q) * c.q := Int.mul_lt_mul_of_pos_right g2 (by omega)
  have r1 : (x - y) * (c.q * e.q) = (c.q * x) * e.q - (e.q * y) * c.q := by
    rw [Int.sub_mul]
    congr 1
    · rw [← Int.mul_assoc, Int.mul_comm x c.q]
    · rw [Int.mul_comm c.q e.q, ← Int.mul_assoc, Int.mul_comm y e.q]
  have r2 : d * (c.p * e.q - e.p * c.q) = d * c.p * e.q - d * e.p * c.q := by rw [Int.mul_sub, Int.mul_assoc, Int.mul_assoc]
  have r3 : e.q * c.q = c.q * e.q := Int.mul_comm _ _
  rw [Int.sub_mul] at k1 k3
  rw [Int.add_mul] at k2 k4
  rw [ep, r1, r2]
  omega
/-- far from 0 the drift tells -/
theorem far_out {c e : Cal} (hc : c.Ok) (he : e.Ok) {far m st : Int} (hst : st = (if c.p * e.q - e.p * c.q < 0 then -(c.p * e.q - e.p * c.q) else c.p * e.q - e.p * c.q)) (h0 : 0 ≤ m) (hf : 0 ≤ far) (hm : (far + 2) * (c.q * e.q) ≤ m * st) : ¬ near c e far m := by
  have a3 := hc.a.pos; have d3 := he.a.pos
  have hU : 0 < c.q * e.q := Int.mul_pos (by omega) (by omega)
  obtain ⟨h1, h2⟩ := prt_diff hc he 0 m
  have z : prt c e 0 = 0 := by
    unfold prt
    rw [sum_0' hc, sum_0' he]
    rfl
  rw [Int.zero_add, z, Int.sub_zero] at h1 h2
  obtain ⟨O, hO⟩ : ∃ O, O = c.p * e.q - e.p * c.q := ⟨_, rfl⟩
  obtain ⟨U, hU2⟩ : ∃ U, U = c.q * e.q := ⟨_, rfl⟩
  obtain ⟨x, hx⟩ : ∃ x, x = prt c e m := ⟨_, rfl⟩
  rw [← hO] at h1 h2 hst
  rw [← hU2] at h1 h2 hm hU
  rintro ⟨n1, n2⟩
  rw [← hx] at h1 h2 n1 n2
  have e1 : (far + 2) * U = far * U + 2 * U := Int.add_mul _ _ _
  have k1 : x * U ≤ far * U := Int.mul_le_mul_of_nonneg_right (by omega) (by omega)
  have k2 : -far * U ≤ x * U := Int.mul_le_mul_of_nonneg_right (by omega) (by omega)
  rw [Int.neg_mul] at k2
  split at hst
  · rw [hst, Int.mul_neg] at hm
    omega
  · rw [hst] at hm
    omega
/-- one window of twice the greater round tells of all months behind -/
theorem window {c e : Cal} (hc : c.Ok) (he : e.Ok) {far N0 A : Int} (hf : 1 ≤ far) (hN : 0 ≤ N0) (hO : 0 < c.p * e.q - e.p * c.q) (hA : N0 + c.q + e.q ≤ A + 2) (hw : ∀ m, N0 ≤ m → m ≤ A → ¬ near c e far m) : ∀ m, N0 ≤ m → ¬ near c e far m := by
  have a1 := hc.a.nn; have a3 := hc.a.pos; have b1 := hc.b.nn; have b2 := hc.lt; have b3 := hc.b.pos
  have d1 := he.a.nn; have d3 := he.a.pos; have f1 := he.b.nn; have f2 := he.lt; have f3 := he.b.pos
  have hU : 0 < c.q * e.q := Int.mul_pos (by omega) (by omega)
  -- a month of the window that is a whole number of rounds
  obtain ⟨k, hk0, hk1, hk2⟩ : ∃ k : Int, 0 ≤ k ∧ N0 ≤ e.q * k ∧ e.q * k ≤ N0 + e.q - 1 := by
    have u := Int.mul_ediv_add_emod (N0 + e.q - 1) e.q
    have v := Int.emod_nonneg (N0 + e.q - 1) (show e.q ≠ 0 by omega)
    have w := Int.emod_lt_of_pos (N0 + e.q - 1) (show 0 < e.q by omega)
    exact ⟨(N0 + e.q - 1) / e.q, Int.ediv_nonneg (by omega) (by omega), by omega, by omega⟩
  obtain ⟨m0, hm0⟩ : ∃ m0, m0 = e.q * k := ⟨_, rfl⟩
  rw [← hm0] at hk1 hk2
  have s2 : e.sum m0 = k * e.p := by
    have l1 : 0 ≤ e.r * e.q := Int.mul_nonneg f1 (by omega)
    have l2 : e.r * e.q < e.s * e.q := Int.mul_lt_mul_of_pos_right f2 (by omega)
    have l3 : e.s * e.q = e.q * e.s := Int.mul_comm _ _
    have x : m0 * e.p * e.s + e.r * e.q = e.r * e.q + (e.q * e.s) * (k * e.p) := by
      rw [hm0, Int.add_comm]
      congr 1
      rw [Int.mul_assoc e.q k e.p, Int.mul_right_comm]
    show (m0 * e.p * e.s + e.r * e.q) / (e.q * e.s) = _
    rw [x, Int.add_mul_ediv_left _ _ (by have := Int.mul_pos (show 0 < e.q by omega) (show 0 < e.s by omega); omega), Int.ediv_eq_zero_of_lt l1 (by omega), Int.zero_add]
  have s1 : k * e.p ≤ c.sum m0 := by
    refine (Int.le_ediv_iff_mul_le (Int.mul_pos (by omega) (by omega))).mpr ?_
    have t1 : k * (e.p * c.q) ≤ k * (c.p * e.q) := Int.mul_le_mul_of_nonneg_left (by omega) hk0
    have t2 : k * (e.p * c.q) * c.s ≤ k * (c.p * e.q) * c.s := Int.mul_le_mul_of_nonneg_right t1 (by omega)
    have t3 : k * e.p * (c.q * c.s) = k * (e.p * c.q) * c.s := by rw [← Int.mul_assoc, Int.mul_assoc k e.p c.q]
    have t4 : m0 * c.p * c.s = k * (c.p * e.q) * c.s := by
      rw [hm0]
      congr 1
      rw [Int.mul_comm e.q k, Int.mul_assoc, Int.mul_comm e.q c.p]
    have t5 : 0 ≤ c.r * c.q := Int.mul_nonneg b1 (by omega)
    rw [t3, t4]
    omega
  have p0 : 0 ≤ prt c e m0 := by
    unfold prt
    omega
  have far0 : far ≤ prt c e m0 := by
    have := hw m0 hk1 (by omega)
    unfold near at this
    omega
  have nn : ∀ d, 0 ≤ d → 0 ≤ prt c e (m0 + d) := by
    intro d hd
    obtain ⟨h1, _⟩ := prt_diff hc he m0 d
    have t : 0 ≤ d * (c.p * e.q - e.p * c.q) := Int.mul_nonneg hd (by omega)
    rcases Int.lt_or_le (prt c e (m0 + d) - prt c e m0) (-1) with z | z
    · have : (prt c e (m0 + d) - prt c e m0) * (c.q * e.q) ≤ (-2) * (c.q * e.q) := Int.mul_le_mul_of_nonneg_right (by omega) (by omega)
      omega
    · omega
  have step : ∀ m, prt c e m ≤ prt c e (m + c.q) := by
    intro m
    have e1 : c.sum (m + c.q) = c.sum m + c.p := by
      have x : (m + c.q) * c.p * c.s + c.r * c.q = (m * c.p * c.s + c.r * c.q) + (c.q * c.s) * c.p := by
        rw [Int.add_mul, Int.add_mul, Int.mul_right_comm c.q c.p c.s]
        omega
      show ((m + c.q) * c.p * c.s + c.r * c.q) / (c.q * c.s) = _
      rw [x, Int.add_mul_ediv_left _ _ (by have := Int.mul_pos (show 0 < c.q by omega) (show 0 < c.s by omega); omega)]
      rfl
    obtain ⟨_, g2⟩ := sum_diff he m c.q
    have e2 : e.sum (m + c.q) - e.sum m ≤ c.p := by
      rcases Int.lt_or_le c.p (e.sum (m + c.q) - e.sum m) with z | z
      · have : e.q * (c.p + 1) ≤ e.q * (e.sum (m + c.q) - e.sum m) := Int.mul_le_mul_of_nonneg_left (by omega) (by omega)
        have t : e.q * (c.p + 1) = c.p * e.q + e.q := by rw [Int.mul_add, Int.mul_one, Int.mul_comm]
        have t2 : c.q * e.p = e.p * c.q := Int.mul_comm _ _
        omega
      · exact z
    unfold prt
    omega
  have all : ∀ (j : Nat) (d : Int), d.toNat < j → 0 ≤ d → far ≤ prt c e (m0 + d) := by
    intro j
    induction j with
    | zero => intro d h; omega
    | succ j ih =>
      intro d hj hd
      by_cases hin : m0 + d ≤ A
      · have h1 := hw (m0 + d) (by omega) hin
        have h2 := nn d hd
        unfold near at h1
        omega
      · have h1 := ih (d - c.q) (by omega) (by omega)
        have h2 := step (m0 + (d - c.q))
        rw [show m0 + (d - c.q) + c.q = m0 + d by omega] at h2
        omega
  intro m hm
  by_cases hlt : m < m0
  · exact hw m hm (by omega)
  · have := all ((m - m0).toNat + 1) (m - m0) (by omega) (by omega)
    rw [show m0 + (m - m0) = m by omega] at this
    unfold near
    omega
theorem near_swap (c e : Cal) (far m : Int) : near c e far m ↔ near e c far m := by
  unfold near prt
  omega
/-- fractions in lowest terms are alike if they are of like worth -/
theorem same_frac {p q p' q' : Int} (h : Pace p q) (h' : Pace p' q') (e : p * q' = p' * q) : p = p' ∧ q = q' := by
  obtain ⟨a, ha⟩ := Int.eq_ofNat_of_zero_le h.nn
  obtain ⟨b, hb⟩ := Int.eq_ofNat_of_zero_le (show 0 ≤ q by have := h.pos; omega)
  obtain ⟨a', ha'⟩ := Int.eq_ofNat_of_zero_le h'.nn
  obtain ⟨b', hb'⟩ := Int.eq_ofNat_of_zero_le (show 0 ≤ q' by have := h'.pos; omega)
  have c1 := h.co
  have c2 := h'.co
  have q1 := h.pos
  have q2 := h'.pos
  subst ha hb ha' hb'
  have e' : a * b' = a' * b := by exact_mod_cast e
  have c1' : Nat.Coprime a b := c1
  have c2' : Nat.Coprime a' b' := c2
  have d1 : b ∣ b' := c1'.symm.dvd_of_dvd_mul_left ⟨a', by rw [e', Nat.mul_comm]⟩
  have d2 : b' ∣ b := c2'.symm.dvd_of_dvd_mul_left ⟨a, by rw [← e', Nat.mul_comm]⟩
  have eb : b = b' := Nat.dvd_antisymm d1 d2
  subst eb
  have : a = a' := Nat.eq_of_mul_eq_mul_right (by omega) e'
  exact ⟨by rw [this], rfl⟩
/-! ### the loops -/
section
variable {M : Mem}
theorem far_ok {i : Int} (h : 1 ≤ i) (h2 : i ≤ 99) : m_is_far [.d (.int i)] M = some (.ok (.d (.bl true)) M) := by
  refine clo_V ?_ rfl
  show d_is_far [some (.d (.int i))] M = _
  simp [d_is_far, between_ok h h2]
theorem check_far_ok {c e : Cal} (hc : c.Ok) (he : e.Ok) {i : Int} (h : 1 ≤ i) (h2 : i ≤ 99) : m_check_far [.d c.d, .d e.d, .d (.int i)] M = some (.ok (.d .non) M) := by
  refine clo_N (δ := [some (.d c.d), some (.d e.d), some (.d (.int i))]) ?_ rfl
  show d_check_far [some (.d c.d), some (.d e.d), some (.d (.int i))] M = _
  simp [d_check_far, check_calendars_ok hc he, far_ok h h2]
theorem abs_lt {x far : Int} (h : 1 ≤ far) : ((if x < 0 then -x else x) < far) ↔ (-far < x ∧ x < far) := by
  split <;> omega
theorem prt_ok {c e : Cal} (hc : c.Ok) (he : e.Ok) {m : Int} : m__law_parted [.d c.d, .d e.d, .d (.int m)] M = some (.ok (.d (.int (prt c e m))) M) := parted_ok hc he
/-- doubt_by's first loop -/
noncomputable def d1B : Slots → Py Fl := (sIf (fB (f2 gLt (fCl (g1 gAbs) (fCons (fCall 3 [0, 1, 2] [] m_parting_by (fCons (fVar 0) (fCons (fVar 1) (fCons (fVar 6) (fNil))))) (fNil))) (fVar 2))) (sRet (fC .non)) (sNext))
theorem d1_loop {c e : Cal} (hc : c.Ok) (he : e.Ok) {far : Int} (hf : 1 ≤ far) {s3 s4 s5 : Option W} : ∀ (l : List Int) (s6 : Option W), (∃ x ∈ l, near c e far x) ∧ forL none (gN 6) d1B (l.map fun x => W.d (.int x)) [some (.d c.d), some (.d e.d), some (.d (.int far)), s3, s4, s5, s6] M = some (.ok (.rt (.d .non)) M) ∨
    (∀ x ∈ l, ¬ near c e far x) ∧ ∃ t6, forL none (gN 6) d1B (l.map fun x => W.d (.int x)) [some (.d c.d), some (.d e.d), some (.d (.int far)), s3, s4, s5, s6] M = some (.ok (.nx [some (.d c.d), some (.d e.d), some (.d (.int far)), s3, s4, s5, t6]) M)
  | [], s6 => .inr ⟨by simp, _, for_nil⟩
  | x :: l, s6 => by
    have hp := prt_ok (M := M) hc he (m := x)
    have ha := abs_lt (x := prt c e x) hf
    by_cases hn : near c e far x
    · refine .inl ⟨⟨x, List.mem_cons_self, hn⟩, for_rt (δ1 := [some (.d c.d), some (.d e.d), some (.d (.int far)), s3, s4, s5, some (.d (.int x))]) rfl ?_⟩
      have hb := ha.mpr hn
      unfold d1B
      simp [parting_by_eq, hp, hb]
    · have hb : ¬ ((if prt c e x < 0 then -prt c e x else prt c e x) < far) := fun z => hn (ha.mp z)
      have e1 : d1B [some (.d c.d), some (.d e.d), some (.d (.int far)), s3, s4, s5, some (.d (.int x))] M = some (.ok (.nx [some (.d c.d), some (.d e.d), some (.d (.int far)), s3, s4, s5, some (.d (.int x))]) M) := by
        unfold d1B
        simp [parting_by_eq, hp, hb]
      have fn := for_next (tg := gN 6) (b := d1B) (x := W.d (.int x)) (xs := l.map fun x => W.d (.int x)) (δ := [some (.d c.d), some (.d e.d), some (.d (.int far)), s3, s4, s5, s6]) (M := M) (δ1 := [some (.d c.d), some (.d e.d), some (.d (.int far)), s3, s4, s5, some (.d (.int x))]) rfl e1
      rcases d1_loop hc he hf (s3 := s3) (s4 := s4) (s5 := s5) l (some (.d (.int x))) with ⟨⟨y, hy, hny⟩, e2⟩ | ⟨h, t6, e2⟩
      · exact .inl ⟨⟨y, List.mem_cons_of_mem _ hy, hny⟩, fn.trans e2⟩
      · refine .inr ⟨fun y hy => ?_, t6, fn.trans e2⟩
        rcases List.mem_cons.mp hy with z | z
        · rw [z]; exact hn
        · exact h y z
/-- the last near month up to x -/
def IsLast (c e : Cal) (far y x : Int) : Prop := 0 ≤ y ∧ y ≤ x ∧ near c e far y ∧ ∀ z, y < z → z ≤ x → ¬ near c e far z
theorem near_0 {c e : Cal} (hc : c.Ok) (he : e.Ok) {far : Int} (hf : 1 ≤ far) : near c e far 0 := by
  unfold near prt
  rw [sum_0' hc, sum_0' he]
  omega
noncomputable def whC : Slots → Py Bool := (fB (f2 gGe (fCl (g1 gAbs) (fCons (fCall 3 [0, 1, 2] [] m_parting_by (fCons (fVar 0) (fCons (fVar 1) (fCons (fVar 6) (fNil))))) (fNil))) (fVar 2)))
noncomputable def whB : Slots → Py Fl := (sAsg (f2 gSub (fVar 6) (fC (.int 1))) (gN 6))
theorem wh_loop {c e : Cal} (hc : c.Ok) (he : e.Ok) {far : Int} (hf : 1 ≤ far) {s3 s4 s5 : Option W} : ∀ (k : Nat) (x : Int), 0 ≤ x → x.toNat < k → ∃ y, IsLast c e far y x ∧ whL whC whB k [some (.d c.d), some (.d e.d), some (.d (.int far)), s3, s4, s5, some (.d (.int x))] M = some (.ok (.nx [some (.d c.d), some (.d e.d), some (.d (.int far)), s3, s4, s5, some (.d (.int y))]) M)
  | 0, _, _, h => absurd h (Nat.not_lt_zero _)
  | k + 1, x, h0, hk => by
    have hp := prt_ok (M := M) hc he (m := x)
    have ha := abs_lt (x := prt c e x) hf
    by_cases hn : near c e far x
    · refine ⟨x, ⟨h0, Int.le_refl _, hn, fun z h1 h2 => by omega⟩, ?_⟩
      have hb : ¬ (far ≤ (if prt c e x < 0 then -prt c e x else prt c e x)) := by
        have := ha.mpr hn
        omega
      rw [whL, le_lft]
      unfold whC
      simp [parting_by_eq, hp, hb]
    · have hx : 0 < x := by
        rcases Int.lt_or_le 0 x with z | z
        · exact z
        · have : x = 0 := by omega
          rw [this] at hn
          exact absurd (near_0 hc he hf) hn
      have hb : far ≤ (if prt c e x < 0 then -prt c e x else prt c e x) := by
        rcases Int.lt_or_le (if prt c e x < 0 then -prt c e x else prt c e x) far with z | z
        · exact absurd (ha.mp z) hn
        · exact z
      obtain ⟨y, hy, ih⟩ := wh_loop hc he hf (s3 := s3) (s4 := s4) (s5 := s5) k (x - 1) (by omega) (by omega)
      refine ⟨y, ⟨hy.1, by have := hy.2.1; omega, hy.2.2.1, fun z h1 h2 => ?_⟩, ?_⟩
      · by_cases hz : z = x
        · rw [hz]; exact hn
        · exact hy.2.2.2 z h1 (by omega)
      · rw [whL, ← ih, le_lft]
        unfold whC
        simp [parting_by_eq, hp, hb]
        unfold whB
        simp
def stp (c e : Cal) : Int := if c.p * e.q - e.p * c.q < 0 then -(c.p * e.q - e.p * c.q) else c.p * e.q - e.p * c.q
theorem stp_nn (c e : Cal) : 0 ≤ stp c e := by
  unfold stp
  split <;> omega
theorem stp_hi {c e : Cal} (hc : c.Ok) (he : e.Ok) : stp c e ≤ 999999 * 999999 := by
  have a1 := hc.a.nn; have a2 := hc.a.le; have a3 := hc.a.pos; have a4 := hc.a.hi
  have d1 := he.a.nn; have d2 := he.a.le; have d3 := he.a.pos; have d4 := he.a.hi
  have h1 : 0 ≤ c.p * e.q := Int.mul_nonneg a1 (by omega)
  have h2 : 0 ≤ e.p * c.q := Int.mul_nonneg d1 (by omega)
  have h3 : c.p * e.q ≤ 999999 * 999999 := Int.mul_le_mul (by omega) d4 (by omega) (by omega)
  have h4 : e.p * c.q ≤ 999999 * 999999 := Int.mul_le_mul (by omega) a4 (by omega) (by omega)
  unfold stp
  split <;> omega
theorem ixd0 (z : Cal) : gIx M (.d z.d) (.d (.int 0)) = some (.d (fr z.p z.q)) := by simp [Cal.d]
theorem ixf0 (p q : Int) : gIx M (.d (fr p q)) (.d (.int 0)) = some (.d (.int p)) := by simp [fr]
theorem ixf1 (p q : Int) : gIx M (.d (fr p q)) (.d (.int 1)) = some (.d (.int q)) := by simp [fr]
theorem drift_ok {c e : Cal} (hc : c.Ok) (he : e.Ok) : m_drift [.d c.d, .d e.d] M = some (.ok (.d (.tup [.int (stp c e), .int (c.q * e.q)])) M) := by
  have a3 := hc.a.pos; have a4 := hc.a.hi; have d3 := he.a.pos; have d4 := he.a.hi
  have c1 : cMul c.p e.q := c_mulR (by omega) (by omega)
  have c2 : cMul e.p c.q := c_mulR (by omega) (by omega)
  have c3 : cMul c.q e.q := c_mulR (by omega) (by omega)
  refine clo_V ?_ rfl
  show d_drift [some (.d c.d), some (.d e.d), none] M = _
  simp [d_drift, ixd0, ixf0, ixf1, c1, c2, c3, stp]
def mxq (c e : Cal) : Int := if e.q > c.q then e.q else c.q
def lst1 (c e : Cal) (far : Int) : Int := if (far + 2) * (c.q * e.q) / stp c e + 1 < 99999 + 2 * mxq c e then (far + 2) * (c.q * e.q) / stp c e + 1 else 99999 + 2 * mxq c e
def down (L : Int) : List Int := (List.range (L - 99998).toNat).map fun (i : Nat) => L + (i : Int) * (-1)
theorem down_mem {L x : Int} : x ∈ down L ↔ 99999 ≤ x ∧ x ≤ L := by
  unfold down
  constructor
  · intro h
    obtain ⟨i, hi, e⟩ := List.mem_map.mp h
    have := List.mem_range.mp hi
    omega
  · rintro ⟨h1, h2⟩
    exact List.mem_map.mpr ⟨(L - x).toNat, List.mem_range.mpr (by omega), by omega⟩
theorem o_max2 (i j : Int) : gMax2 M (.d (.int i)) (.d (.int j)) = some (.d (.int (if j > i then j else i))) := o_II trivial
theorem o_min2 (i j : Int) : gMin2 M (.d (.int i)) (.d (.int j)) = some (.d (.int (if j < i then j else i))) := o_II trivial
theorem doubt_by_ok {c e : Cal} (hc : c.Ok) (he : e.Ok) {far : Int} (hf : 1 ≤ far) (hs : stp c e ≠ 0) : ((∃ x, 99999 ≤ x ∧ x ≤ lst1 c e far ∧ near c e far x) ∧ m_doubt_by [.d c.d, .d e.d, .d (.int far)] M = some (.ok (.d .non) M)) ∨
    ((∀ x, 99999 ≤ x → x ≤ lst1 c e far → ¬ near c e far x) ∧ ∃ y, IsLast c e far y (if 99999 < lst1 c e far then 99999 else lst1 c e far) ∧ m_doubt_by [.d c.d, .d e.d, .d (.int far)] M = some (.ok (.d (.int (y + 1))) M)) := by
  have a3 := hc.a.pos; have a4 := hc.a.hi; have d3 := he.a.pos; have d4 := he.a.hi
  have s0 := stp_nn c e
  have s1 := stp_hi hc he
  have hU := mul_small a3 d3 a4 d4
  obtain ⟨st, hst⟩ : ∃ st, st = stp c e := ⟨_, rfl⟩
  obtain ⟨U, hU2⟩ : ∃ U, U = c.q * e.q := ⟨_, rfl⟩
  obtain ⟨mq, hmq⟩ : ∃ mq, mq = mxq c e := ⟨_, rfl⟩
  obtain ⟨L, hL⟩ : ∃ L, L = lst1 c e far := ⟨_, rfl⟩
  obtain ⟨T, hT⟩ : ∃ T, T = (if 99999 < L then 99999 else L) := ⟨_, rfl⟩
  have mq1 : 1 ≤ mq ∧ mq ≤ 999999 := by
    rw [hmq]
    unfold mxq
    split <;> omega
  have hB : 0 ≤ (far + 2) * U / st := Int.ediv_nonneg (Int.mul_nonneg (by omega) (by omega)) (by omega)
  have eL : L = if (far + 2) * U / st + 1 < 99999 + 2 * mq then (far + 2) * U / st + 1 else 99999 + 2 * mq := by rw [hL, hst, hU2, hmq]; rfl
  have hL1 : 1 ≤ L ∧ L ≤ 3000000 := by
    rw [eL]
    split <;> omega
  have hdr := drift_ok (M := M) hc he
  have c1 : cMul (far + 2) U := c_mulR (by omega) (by omega)
  have c2 : cDiv ((far + 2) * U) st := c_divS (by omega) (by omega)
  have n0 : ¬ st = 0 := by omega
  have om := o_max2 (M := M) c.q e.q
  rw [show (if e.q > c.q then e.q else c.q) = mq from hmq.symm] at om
  have on : gMin2 M (.d (.int (99999 + 2 * mq))) (.d (.int ((far + 2) * U / st + 1))) = some (.d (.int L)) := by rw [o_min2, eL]
  have ot : gMin2 M (.d (.int L)) (.d (.int 99999)) = some (.d (.int T)) := by rw [o_min2, hT]
  rw [← hst, ← hU2] at hdr
  rw [← hL]
  have hit : ∀ s6 : Option W, iR3 (fCons (fVar 5) (fCons (f2 gSub (fC (.int 99999)) (fC (.int 1))) (fCons (f1 gNeg (fC (.int 1))) (fNil)))) [some (.d c.d), some (.d e.d), some (.d (.int far)), some (.d (.int st)), some (.d (.int U)), some (.d (.int L)), s6] M = some (.ok ⟨(down L).map fun x => W.d (.int x), none⟩ M) := by
    intro s6
    have e1 : fCons (fVar 5) (fCons (f2 gSub (fC (.int 99999)) (fC (.int 1))) (fCons (f1 gNeg (fC (.int 1))) (fNil))) [some (.d c.d), some (.d e.d), some (.d (.int far)), some (.d (.int st)), some (.d (.int U)), some (.d (.int L)), s6] M = some (.ok [.d (.int L), .d (.int 99998), .d (.int (-1))] M) := by simp
    rw [e_iR3, e1, thO_ok]
    show (if (-1 : Int) = -1 ∧ rB L ∧ rB 99998 then _ else _) = _
    rw [if_pos ⟨rfl, ⟨by omega, by omega⟩, ⟨by decide, by decide⟩⟩]
    unfold down
    rw [List.map_map]
    rfl
  have ed : d_doubt_by = sSeq (sAsg (fCall 2 [0, 1] [] m_drift (fCons (fVar 0) (fCons (fVar 1) (fNil)))) (gT 2 (gsCons (gN 3) (gsCons (gN 4) (gsNil)))))
    (sSeq (sIf (fB (f2 gEq (fVar 3) (fC (.int 0)))) (sRet (fC .non)) (sNext))
    (sSeq (sAsg (fCl (g2 gMin2) (fCons (f2 gAdd (fC (.int 99999)) (f2 gMul (fC (.int 2)) (fCl (g2 gMax2) (fCons (f2 gIx (f2 gIx (fVar 0) (fC (.int 0))) (fC (.int 1))) (fCons (f2 gIx (f2 gIx (fVar 1) (fC (.int 0))) (fC (.int 1))) (fNil)))))) (fCons (f2 gAdd (f2 gDiv (f2 gMul (f2 gAdd (fVar 2) (fC (.int 2))) (fVar 4)) (fVar 3)) (fC (.int 1))) (fNil)))) (gN 5))
    (sSeq (sFor (iR3 (fCons (fVar 5) (fCons (f2 gSub (fC (.int 99999)) (fC (.int 1))) (fCons (f1 gNeg (fC (.int 1))) (fNil))))) (gN 6) d1B)
    (sSeq (sAsg (fCl (g2 gMin2) (fCons (fVar 5) (fCons (fC (.int 99999)) (fNil)))) (gN 6))
    (sSeq (sWhile (fun δ : Slots => match δ[6]? with | some (some (W.d (D.int i))) => i.toNat + 1 | _ => 0) whC whB) (sRet (f2 gAdd (fVar 6) (fC (.int 1))))))))) := rfl
  rcases d1_loop (M := M) hc he hf (s3 := some (.d (.int st))) (s4 := some (.d (.int U))) (s5 := some (.d (.int L))) (down L) none with ⟨⟨x, hx, hn⟩, el⟩ | ⟨hn, t6, el⟩
  · refine .inl ⟨⟨x, (down_mem.mp hx).1, (down_mem.mp hx).2, hn⟩, ?_⟩
    refine clo_V ?_ rfl
    rw [ed]
    show sSeq _ _ [some (.d c.d), some (.d e.d), some (.d (.int far)), none, none, none, none] M = _
    simp [hdr, n0, ixd0, ixf1, om, on, c1, c2, -e_iR3, hit, el, -List.map_map]
  · obtain ⟨y, hy, ew⟩ := wh_loop (M := M) hc he hf (s3 := some (.d (.int st))) (s4 := some (.d (.int U))) (s5 := some (.d (.int L))) (T.toNat + 1) T (by rw [hT]; split <;> omega) (by omega)
    refine .inr ⟨fun x h1 h2 => hn x (down_mem.mpr ⟨h1, h2⟩), y, by rw [← hT]; exact hy, ?_⟩
    refine clo_V ?_ rfl
    rw [ed]
    show sSeq _ _ [some (.d c.d), some (.d e.d), some (.d (.int far)), none, none, none, none] M = _
    simp [hdr, n0, ixd0, ixf1, om, on, ot, c1, c2, -e_iR3, hit, el, -List.map_map, sWhile, ew]
theorem day_frame {c e : Cal} (hc : c.Ok) (he : e.Ok) {far : Int} (h : 1 ≤ far) (h2 : far ≤ 99) {x : D} (hx : m_doubt_by [.d c.d, .d e.d, .d (.int far)] M = some (.ok (.d x) M)) : m_day_of_doubt [.d c.d, .d e.d, .d (.int far)] M = some (.ok (.d x) M) := by
  refine clo_V ?_ rfl
  show d_day_of_doubt [some (.d c.d), some (.d e.d), some (.d (.int far))] M = _
  simp [d_day_of_doubt, check_far_ok hc he h h2, hx]
/-! the law's own search, from above -/
def retD (x : Int) : D := if x + 1 < 100000 then .int (x + 1) else .non
noncomputable def ldB : Slots → Py Fl := (sIf (fB (fChain gLt gLt (f2 gSub (fC (.int 0)) (fVar 2)) (fCall 3 [0, 1, 2] [] m__law_parted (fCons (fVar 0) (fCons (fVar 1) (fCons (fVar 5) (fNil))))) (fVar 2))) (sRet (fIf (fB (f2 gLt (f2 gAdd (fVar 5) (fC (.int 1))) (fC (.int 100000)))) (f2 gAdd (fVar 5) (fC (.int 1))) (fC .non))) (sNext))
def dn : Nat → List Int
  | 0 => [0]
  | n + 1 => ((n + 1 : Nat) : Int) :: dn n
theorem dn_rev : ∀ n : Nat, ((List.range (n + 1)).map fun (i : Nat) => D.int (i : Int)).reverse = (dn n).map D.int
  | 0 => rfl
  | n + 1 => by
    rw [List.range_succ, List.map_append, List.reverse_append, dn_rev n]
    rfl
theorem ldB_yes {c e : Cal} (hc : c.Ok) (he : e.Ok) {far x : Int} (hn : near c e far x) {s3 s4 : Option W} : ldB [some (.d c.d), some (.d e.d), some (.d (.int far)), s3, s4, some (.d (.int x))] M = some (.ok (.rt (.d (retD x))) M) := by
  have hp := prt_ok (M := M) hc he (m := x)
  have n1 : 0 - far < prt c e x := by
    have := hn.1
    omega
  have n1' := hn.1
  have n2 := hn.2
  unfold ldB retD
  by_cases hx : x + 1 < 100000
  · simp [hp, n1, n1', n2, hx]
  · simp [hp, n1, n1', n2, hx]
theorem ldB_no {c e : Cal} (hc : c.Ok) (he : e.Ok) {far x : Int} (hn : ¬ near c e far x) {s3 s4 : Option W} : ldB [some (.d c.d), some (.d e.d), some (.d (.int far)), s3, s4, some (.d (.int x))] M = some (.ok (.nx [some (.d c.d), some (.d e.d), some (.d (.int far)), s3, s4, some (.d (.int x))]) M) := by
  have hp := prt_ok (M := M) hc he (m := x)
  unfold near at hn
  unfold ldB
  by_cases h1 : -far < prt c e x
  · have h2 : ¬ prt c e x < far := fun z => hn ⟨h1, z⟩
    simp [hp, h1, h2]
  · simp [hp, h1]
theorem ld_loop {c e : Cal} (hc : c.Ok) (he : e.Ok) {far : Int} (hf : 1 ≤ far) {s3 s4 : Option W} : ∀ (n : Nat) (s5 : Option W), ∃ y, IsLast c e far y n ∧ forL none (gN 5) ldB ((dn n).map fun x => W.d (.int x)) [some (.d c.d), some (.d e.d), some (.d (.int far)), s3, s4, s5] M = some (.ok (.rt (.d (retD y))) M)
  | 0, s5 => by
    have h0 := near_0 hc he hf
    exact ⟨0, ⟨Int.le_refl _, Int.le_refl _, h0, fun z h1 h2 => absurd h1 (by show ¬ (0 : Int) < z; have : z ≤ 0 := h2; omega)⟩, for_rt (δ1 := [some (.d c.d), some (.d e.d), some (.d (.int far)), s3, s4, some (.d (.int 0))]) rfl (ldB_yes hc he h0)⟩
  | n + 1, s5 => by
    by_cases hn : near c e far ((n + 1 : Nat) : Int)
    · exact ⟨((n + 1 : Nat) : Int), ⟨by omega, Int.le_refl _, hn, fun z h1 h2 => by omega⟩, for_rt (δ1 := [some (.d c.d), some (.d e.d), some (.d (.int far)), s3, s4, some (.d (.int ((n + 1 : Nat) : Int)))]) rfl (ldB_yes hc he hn)⟩
    · obtain ⟨y, hy, e1⟩ := ld_loop hc he hf (s3 := s3) (s4 := s4) n (some (.d (.int ((n + 1 : Nat) : Int))))
      refine ⟨y, ⟨hy.1, by have := hy.2.1; omega, hy.2.2.1, fun z h1 h2 => ?_⟩, (for_next (δ1 := [some (.d c.d), some (.d e.d), some (.d (.int far)), s3, s4, some (.d (.int ((n + 1 : Nat) : Int)))]) rfl (ldB_no hc he hn)).trans e1⟩
      by_cases hz : z = ((n + 1 : Nat) : Int)
      · rw [hz]; exact hn
      · exact hy.2.2.2 z h1 (by omega)
def lst2 (c e : Cal) (far : Int) : Int := (far + 3) * c.q * e.q / stp c e + 2
theorem law_doubt_ok {c e : Cal} (hc : c.Ok) (he : e.Ok) {far : Int} (hf : 1 ≤ far) (hs : stp c e ≠ 0) : (200000 < lst2 c e far ∧ m__law_doubt [.d c.d, .d e.d, .d (.int far)] M = some (.ok (.d (.int (-1))) M)) ∨
    (lst2 c e far ≤ 200000 ∧ ∃ y, IsLast c e far y (lst2 c e far) ∧ m__law_doubt [.d c.d, .d e.d, .d (.int far)] M = some (.ok (.d (retD y)) M)) := by
  have a3 := hc.a.pos; have a4 := hc.a.hi; have d3 := he.a.pos; have d4 := he.a.hi
  have s0 := stp_nn c e
  have s1 := stp_hi hc he
  have c1 : cMul c.p e.q := c_mulR (by omega) (by omega)
  have c2 : cMul e.p c.q := c_mulR (by omega) (by omega)
  have c3 : cMul (far + 3) c.q := c_mulR (by omega) (by omega)
  have c4 : cMul ((far + 3) * c.q) e.q := c_mulR (by omega) (by omega)
  have hX : 0 ≤ (far + 3) * c.q * e.q := Int.mul_nonneg (Int.mul_nonneg (by omega) (by omega)) (by omega)
  obtain ⟨st, hst⟩ : ∃ st, st = stp c e := ⟨_, rfl⟩
  have oa : gAbs M (.d (.int (c.p * e.q - e.p * c.q))) = some (.d (.int st)) := by
    rw [hst]
    exact o_abs
  have c5 : cDiv ((far + 3) * c.q * e.q) st := c_divS (by omega) (by omega)
  obtain ⟨L, hL⟩ : ∃ L, L = lst2 c e far := ⟨_, rfl⟩
  have eL : (far + 3) * c.q * e.q / st + 2 = L := by rw [hL, hst]; rfl
  have L2 : 2 ≤ L := by
    rw [← eL]
    have := Int.ediv_nonneg hX (show 0 ≤ st by omega)
    omega
  rw [← hL]
  have ed : d__law_doubt = sSeq (sAsg (fCl (g1 gAbs) (fCons (f2 gSub (f2 gMul (f2 gIx (f2 gIx (fVar 0) (fC (.int 0))) (fC (.int 0))) (f2 gIx (f2 gIx (fVar 1) (fC (.int 0))) (fC (.int 1)))) (f2 gMul (f2 gIx (f2 gIx (fVar 1) (fC (.int 0))) (fC (.int 0))) (f2 gIx (f2 gIx (fVar 0) (fC (.int 0))) (fC (.int 1))))) (fNil))) (gN 3))
    (sSeq (sAsg (f2 gAdd (f2 gDiv (f2 gMul (f2 gMul (f2 gAdd (fVar 2) (fC (.int 3))) (f2 gIx (f2 gIx (fVar 0) (fC (.int 0))) (fC (.int 1)))) (f2 gIx (f2 gIx (fVar 1) (fC (.int 0))) (fC (.int 1)))) (fVar 3)) (fC (.int 2))) (gN 4))
    (sSeq (sIf (fB (f2 gGt (fVar 4) (fC (.int 200000)))) (sRet (f1 gNeg (fC (.int 1)))) (sNext))
    (sSeq (sFor (iSeq (f1 gRev (f1 gLr (f2 gAdd (fVar 4) (fC (.int 1)))))) (gN 5) ldB) (sRet (fC (.int 0)))))) := rfl
  by_cases hb : 200000 < L
  · refine .inl ⟨hb, clo_V ?_ rfl⟩
    rw [ed]
    show sSeq _ _ [some (.d c.d), some (.d e.d), some (.d (.int far)), none, none, none] M = _
    simp [ixd0, ixf0, ixf1, c1, c2, c3, c4, oa, c5, eL, hb]
  · obtain ⟨n, hn⟩ := Int.eq_ofNat_of_zero_le (show 0 ≤ L by omega)
    have hn' : L = (n : Int) := hn
    obtain ⟨y, hy, el⟩ := ld_loop (M := M) hc he hf (s3 := some (.d (.int st))) (s4 := some (.d (.int L))) n none
    rw [← hn'] at hy
    refine .inr ⟨by omega, y, hy, clo_V ?_ rfl⟩
    have hit : iSeq (f1 gRev (f1 gLr (f2 gAdd (fVar 4) (fC (.int 1))))) [some (.d c.d), some (.d e.d), some (.d (.int far)), some (.d (.int st)), some (.d (.int L)), none] M = some (.ok ⟨(dn n).map fun x => W.d (.int x), none⟩ M) := by
      have g1 : gLr M (.d (.int (L + 1))) = some (.d (.lst ((List.range (n + 1)).map fun (i : Nat) => D.int (i : Int)))) := by
        show (if 0 ≤ L + 1 ∧ L + 1 ≤ 1000000 then _ else _) = _
        rw [if_pos ⟨by omega, by omega⟩, show (L + 1).toNat = n + 1 by omega]
      have g2 : gRev M (.d (.lst ((List.range (n + 1)).map fun (i : Nat) => D.int (i : Int)))) = some (.d (.lst ((dn n).map D.int))) := by
        rw [← dn_rev]
        rfl
      rw [e_iSeq]
      simp [g1, g2, -List.map_map]
      rw [List.map_map]
      rfl
    rw [ed]
    show sSeq _ _ [some (.d c.d), some (.d e.d), some (.d (.int far)), none, none, none] M = _
    simp [ixd0, ixf0, ixf1, c1, c2, c3, c4, oa, c5, eL, hb, -e_iSeq, hit, el]
end
/-! ### both tell the same -/
theorem doubt_same {c e : Cal} (hc : c.Ok) (he : e.Ok) {far : Int} (hf : 1 ≤ far) (hs : stp c e ≠ 0) {y : Int} (hy : IsLast c e far y (lst2 c e far)) {M : Mem} : m_doubt_by [.d c.d, .d e.d, .d (.int far)] M = some (.ok (.d (retD y)) M) := by
  have a3 := hc.a.pos; have d3 := he.a.pos
  have s0 := stp_nn c e
  have hU : 0 < c.q * e.q := Int.mul_pos (by omega) (by omega)
  obtain ⟨st, hst⟩ : ∃ st, st = stp c e := ⟨_, rfl⟩
  obtain ⟨B, hB⟩ : ∃ B, B = (far + 2) * (c.q * e.q) / st + 1 := ⟨_, rfl⟩
  have eL : lst1 c e far = if B < 99999 + 2 * mxq c e then B else 99999 + 2 * mxq c e := by rw [hB, hst]; rfl
  have mq : c.q + e.q ≤ 2 * mxq c e ∧ 0 ≤ mxq c e := by
    unfold mxq
    split <;> omega
  have hB0 : 0 ≤ (far + 2) * (c.q * e.q) / st := Int.ediv_nonneg (Int.mul_nonneg (by omega) (by omega)) (by omega)
  -- behind B the drift tells
  have hBo : ∀ m, B ≤ m → ¬ near c e far m := by
    intro m hm
    refine far_out hc he hst (by omega) (by omega) ?_
    have u := Int.mul_ediv_add_emod ((far + 2) * (c.q * e.q)) st
    have v := Int.emod_lt_of_pos ((far + 2) * (c.q * e.q)) (show 0 < st by omega)
    have w : B * st ≤ m * st := Int.mul_le_mul_of_nonneg_right hm (by omega)
    have t : B * st = st * ((far + 2) * (c.q * e.q) / st) + st := by rw [hB, Int.add_mul, Int.one_mul, Int.mul_comm]
    omega
  have hB2 : B ≤ lst2 c e far := by
    have e1 : (far + 3) * c.q * e.q = (far + 2) * (c.q * e.q) + c.q * e.q := by
      rw [Int.mul_assoc, show far + 3 = far + 2 + 1 by omega, Int.add_mul (far + 2) 1, Int.one_mul]
    have e2 : (far + 2) * (c.q * e.q) / st ≤ (far + 3) * c.q * e.q / st := Int.ediv_le_ediv (by omega) (by rw [e1]; omega)
    show B ≤ (far + 3) * c.q * e.q / stp c e + 2
    rw [← hst]
    omega
  have hl : lst1 c e far ≤ lst2 c e far := by
    rw [eL]
    split <;> omega
  rcases doubt_by_ok (M := M) hc he hf hs with ⟨⟨x, h1, h2, h3⟩, em⟩ | ⟨hn, y', hy', em⟩
  · rw [em]
    have : ¬ y + 1 < 100000 := fun z => hy.2.2.2 x (by omega) (by omega) h3
    unfold retD
    rw [if_neg this]
  · obtain ⟨T, hT⟩ : ∃ T, T = (if 99999 < lst1 c e far then 99999 else lst1 c e far) := ⟨_, rfl⟩
    rw [← hT] at hy'
    have hTl : T ≤ lst1 c e far ∧ T ≤ 99999 := by
      rw [hT]
      split <;> omega
    have out : ∀ m, T < m → ¬ near c e far m := by
      intro m hm
      by_cases hb : B < 99999 + 2 * mxq c e
      · rw [if_pos hb] at eL
        by_cases h9 : B ≤ m
        · exact hBo m h9
        · refine hn m ?_ (by omega)
          rw [hT] at hm
          split at hm <;> omega
      · rw [if_neg hb] at eL
        have h99 : 99999 ≤ m := by
          rw [hT] at hm
          split at hm <;> omega
        have hO : c.p * e.q - e.p * c.q ≠ 0 := fun z => hs (by unfold stp; rw [z]; rfl)
        rcases Int.lt_or_le 0 (c.p * e.q - e.p * c.q) with z | z
        · exact window hc he hf (by omega) z (A := lst1 c e far) (by omega) (fun k h1 h2 => hn k h1 h2) m h99
        · rw [near_swap]
          refine window he hc hf (by omega) ?_ (A := lst1 c e far) (by omega) (fun k h1 h2 => by rw [near_swap]; exact hn k h1 h2) m h99
          omega
    have e1 : y = y' := by
      have yT : y ≤ T := by
        rcases Int.lt_or_le T y with z | z
        · exact absurd hy.2.2.1 (out y z)
        · exact z
      rcases Int.lt_or_le y y' with z | z
      · exact absurd hy'.2.2.1 (hy.2.2.2 y' z (by have := hy'.2.1; omega))
      · rcases Int.lt_or_le y' y with w | w
        · exact absurd hy.2.2.1 (hy'.2.2.2 y w yT)
        · omega
    subst e1
    have y9 : y + 1 < 100000 := by
      rcases Int.lt_or_le y 99999 with z | z
      · omega
      · have := hy'.2.1
        exact absurd hy.2.2.1 (hn y z (by omega))
    rw [em]
    unfold retD
    rw [if_pos y9]
section
variable {M : Mem}
noncomputable def farB : Slots → Py Fl := (sSeq (sAsg (fCall 3 [0, 1, 2] [] m__law_doubt (fCons (fVar 1) (fCons (fVar 2) (fCons (fVar 3) (fNil))))) (gN 4))
 (sIf (fB (f2 gNe (fVar 4) (f1 gNeg (fC (.int 1))))) (sSeq (sAsg (fIf (fB (f2 gNe (fVar 3) (fC (.int 2)))) (fCall 3 [0, 1, 2] [] m_day_of_doubt (fCons (fVar 1) (fCons (fVar 2) (fCons (fVar 3) (fNil))))) (fCallK 0 3 [2, 1, 0] [] m_day_of_doubt fNil (fCons (fVar 3) (fCons (fVar 2) (fCons (fVar 1) (fNil)))))) (gN 5))
 (sIf (fB (f2 gNe (fCl (g1 gRepr) (fCons (fVar 5) (fNil))) (fCl (g1 gRepr) (fCons (fVar 4) (fNil))))) (sRet (fC (.bl false))) (sNext))) (sNext)))
theorem o_neI (a b : Int) : gNe M (.d (.int a)) (.d (.int b)) = some (.d (.bl (!decide (a = b)))) := by
  show some (W.d (D.bl (!(a == b)))) = _
  rw [show (a == b) = decide (a = b) by rw [Bool.eq_iff_iff]; simp]
theorem o_neNI (b : Int) : gNe M (.d .non) (.d (.int b)) = some (.d (.bl true)) := rfl
theorem ret_ne {y : Int} (h : 0 ≤ y) : gNe M (.d (retD y)) (.d (.int (-1))) = some (.d (.bl true)) := by
  unfold retD
  split
  · rw [o_neI, decide_eq_false (by omega)]
    rfl
  · rfl
theorem ret_repr {y : Int} (h : 0 ≤ y) : gRepr M (.d (retD y)) = some (.d (.str (toP (retD y)).shown)) := by
  unfold retD
  split
  · exact repr_small (x := .int (y + 1)) (by show (y + 1).natAbs < 10 ^ 20; omega) (by show 0 ≤ 60; decide) (by show 21 ≤ 1000000; decide)
  · exact repr_small (x := .non) trivial (by decide) (by decide)
theorem farB_ok {c e : Cal} (hc : c.Ok) (he : e.Ok) {far : Int} (h : 1 ≤ far) (h2 : far ≤ 99) (hs : stp c e ≠ 0) {s0 s4 s5 : Option W} : ∃ t4 t5, farB [s0, some (.d c.d), some (.d e.d), some (.d (.int far)), s4, s5] M = some (.ok (.nx [s0, some (.d c.d), some (.d e.d), some (.d (.int far)), t4, t5]) M) := by
  rcases law_doubt_ok (M := M) hc he h hs with ⟨_, e1⟩ | ⟨_, y, hy, e1⟩
  · refine ⟨some (.d (.int (-1))), s5, ?_⟩
    unfold farB
    simp [e1, o_neI]
  · have e2 := day_frame hc he h h2 (doubt_same (M := M) hc he h hs hy)
    have e3 := ret_ne (M := M) hy.1
    have e4 := ret_repr (M := M) hy.1
    obtain ⟨x, hx⟩ : ∃ x, x = retD y := ⟨_, rfl⟩
    rw [← hx] at e1 e2 e3 e4
    refine ⟨some (.d x), some (.d x), ?_⟩
    unfold farB
    by_cases hf : far = 2
    · subst hf
      simp [e1, e2, e3, e4, o_neI]
    · simp [e1, e2, e3, e4, o_neI, hf]
theorem far_loop {c e : Cal} (hc : c.Ok) (he : e.Ok) (hs : stp c e ≠ 0) {s0 : Option W} : ∀ (l : List Int), (∀ x ∈ l, 1 ≤ x ∧ x ≤ 99) → ∀ (s3 s4 s5 : Option W), ∃ t3 t4 t5, forL none (gN 3) farB (l.map fun i => W.d (.int i)) [s0, some (.d c.d), some (.d e.d), s3, s4, s5] M = some (.ok (.nx [s0, some (.d c.d), some (.d e.d), t3, t4, t5]) M)
  | [], _, s3, s4, s5 => ⟨_, _, _, for_nil⟩
  | a :: l, h, s3, s4, s5 => by
    obtain ⟨h1, h2⟩ := h a List.mem_cons_self
    obtain ⟨t4, t5, e1⟩ := farB_ok (M := M) hc he h1 h2 hs (s0 := s0) (s4 := s4) (s5 := s5)
    obtain ⟨u3, u4, u5, e2⟩ := far_loop hc he hs (s0 := s0) l (fun b hb => h b (List.mem_cons_of_mem _ hb)) (some (.d (.int a))) t4 t5
    exact ⟨u3, u4, u5, (for_next rfl e1).trans e2⟩
theorem stp_ne {c e : Cal} (hc : c.Ok) (he : e.Ok) (h : ¬ (c.p = e.p ∧ c.q = e.q)) : stp c e ≠ 0 := by
  intro z
  refine h (same_frac hc.a he.a ?_)
  unfold stp at z
  split at z <;> omega
end
noncomputable def rightT : Slots → Py Fl := (sSeq (sIf (fB (f2 gEq (f2 gIx (fVar 1) (fC (.int 0))) (f2 gIx (fVar 2) (fC (.int 0))))) (sRet (fC (.bl true))) (sNext))
 (sSeq (sFor (iSeq (fLst (fCons (fC (.int 1)) (fCons (fC (.int 2)) (fCons (f2 gAdd (fC (.int 1)) (fCall 2 [0, 1] [] m__law_take (fCons (fVar 0) (fCons (fC (.int 99)) (fNil))))) (fNil)))))) (gN 3) farB)
 (sRet (fC (.bl true)))))
theorem rightT_ok {c e : Cal} (hc : c.Ok) (he : e.Ok) {n : Nat} {M : Mem} (h : PI n M) : ∃ M', PI n M' ∧ M'.length = M.length ∧ rightT [some (.r n), some (.d c.d), some (.d e.d), none, none, none] M = some (.ok (.rt (.d (.bl true))) M') := by
  have q1 := eqTup2 (M := M) c.p c.q e.p e.q
  by_cases hl : c.p = e.p ∧ c.q = e.q
  · rw [decide_eq_true hl] at q1
    refine ⟨M, h, rfl, ?_⟩
    unfold rightT
    simp [ixd0, q1]
  · rw [decide_eq_false hl] at q1
    obtain ⟨t, M2, k1, k2, k3, k4, k5⟩ := take_ok (many := 99) h (by omega)
    obtain ⟨t3, t4, t5, el⟩ := far_loop (M := M2) hc he (stp_ne hc he hl) (s0 := some (.r n)) [1, 2, 1 + t] (fun x hx => by
      simp only [List.mem_cons, List.not_mem_nil, or_false] at hx
      omega) none none none
    simp only [List.map_cons, List.map_nil] at el
    refine ⟨M2, k1, k2, ?_⟩
    unfold rightT
    simp [ixd0, q1, k5, el]
noncomputable def rightD : Slots → Py Fl := sSeq (sAsg (fCall 1 [0] [] m__law_two (fCons (fVar 0) (fNil))) (gT 2 (gsCons (gN 1) (gsCons (gN 2) (gsNil)))))
 (sSeq (sIf (fB (f2 gEq (f2 gIx (fVar 1) (fC (.int 0))) (f2 gIx (fVar 2) (fC (.int 0))))) (sAsg (fTup (fCons (fCall 2 [0, 1] [] m__law_lowest (fCons (f2 gAdd (f2 gIx (f2 gIx (fVar 2) (fC (.int 0))) (fC (.int 0))) (fC (.int 1))) (fCons (f2 gAdd (f2 gIx (f2 gIx (fVar 2) (fC (.int 0))) (fC (.int 1))) (fC (.int 2))) (fNil)))) (fCons (f2 gIx (fVar 2) (fC (.int 1))) (fNil)))) (gN 2)) (sNext))
 rightT)
theorem rightD_eq : d__law_right = rightD := rfl
theorem right_keeps : Keeps m__law_right := by
  intro n M h
  obtain ⟨c, e, M1, hz, hc, he, h1, h2, h3⟩ := two_ok2 h
  have q1 := eqTup2 (M := M1) c.p c.q e.p e.q
  by_cases hl : c.p = e.p ∧ c.q = e.q
  · rw [decide_eq_true hl] at q1
    have e3 := he.a.pos
    have e4 := he.a.le
    have e5 := he.a.nn
    have e6 : e.q ≤ 99999 := hz.2
    obtain ⟨p', q', hp', _, _, ep⟩ := lowest_frac (M := M1) (top := e.p + 1) (low := e.q + 2) (by omega) (by omega) (by omega) (by omega)
    obtain ⟨M2, k1, k2, k3⟩ := rightT_ok (e := ⟨p', q', e.r, e.s⟩) hc ⟨hp', he.b, he.lt⟩ h1
    have ix1 : gIx M1 (.d e.d) (.d (.int 1)) = some (.d (fr e.r e.s)) := by simp [Cal.d]
    refine ⟨M2, k1, by rw [k2, h2], clo_V ?_ (by rw [k2, h2])⟩
    rw [rightD_eq]
    show rightD [some (.r n), none, none, none, none, none] M = _
    have k3' : rightT [some (.r n), some (.d c.d), some (.d (.tup [fr p' q', fr e.r e.s])), none, none, none] M1 = some (.ok (.rt (.d (.bl true))) M2) := k3
    unfold rightD
    simp [h3, ixd0, ixf0, ixf1, q1, ep, ix1, k3']
  · rw [decide_eq_false hl] at q1
    obtain ⟨M2, k1, k2, k3⟩ := rightT_ok hc he h1
    refine ⟨M2, k1, by rw [k2, h2], clo_V ?_ (by rw [k2, h2])⟩
    rw [rightD_eq]
    show rightD [some (.r n), none, none, none, none, none] M = _
    unfold rightD
    simp [h3, ixd0, q1, k3]
theorem law_true (ns : List Int) (hl : ns.length ≤ 63) : m_law [.d (.scr ns)] [] = some (.ok (.d (.bl true)) []) := law_frame (cnt := 5) (by decide) (by decide) right_keeps ns hl
end DL
namespace DL
open PySem PySem.Spec PyProof.Rows L2
def topS (i : Nat) : Stmt := PySem.Challenge.pw_moonmonths_k42_days_of_doubt.main.body.getD i (.Pass ⟨0, 0, 0, 0⟩)
abbrev s_is_whole : Stmt := topS 7
theorem n_is_whole : FnScope ["value"] ["value"] (defScope s_is_whole) := ⟨rfl, rfl, rfl, by decide +kernel, rfl, by decide +kernel, by decide +kernel⟩
abbrev s_is_number : Stmt := topS 8
theorem n_is_number : FnScope ["value", "low", "high"] ["value", "low", "high"] (defScope s_is_number) := ⟨rfl, rfl, rfl, by decide +kernel, rfl, by decide +kernel, by decide +kernel⟩
abbrev s_is_between : Stmt := topS 9
theorem n_is_between : FnScope ["value", "least", "most"] ["value", "least", "most"] (defScope s_is_between) := ⟨rfl, rfl, rfl, by decide +kernel, rfl, by decide +kernel, by decide +kernel⟩
abbrev s_is_tuple_of : Stmt := topS 10
theorem n_is_tuple_of : FnScope ["value", "many"] ["value", "many"] (defScope s_is_tuple_of) := ⟨rfl, rfl, rfl, by decide +kernel, rfl, by decide +kernel, by decide +kernel⟩
abbrev s_is_fraction : Stmt := topS 11
theorem n_is_fraction : FnScope ["value"] ["value"] (defScope s_is_fraction) := ⟨rfl, rfl, rfl, by decide +kernel, rfl, by decide +kernel, by decide +kernel⟩
abbrev s_is_pace : Stmt := topS 13
theorem n_is_pace : FnScope ["value"] ["value"] (defScope s_is_pace) := ⟨rfl, rfl, rfl, by decide +kernel, rfl, by decide +kernel, by decide +kernel⟩
abbrev s_is_phase : Stmt := topS 14
theorem n_is_phase : FnScope ["value"] ["value"] (defScope s_is_phase) := ⟨rfl, rfl, rfl, by decide +kernel, rfl, by decide +kernel, by decide +kernel⟩
abbrev s_sum_by : Stmt := topS 15
theorem n_sum_by : FnScope ["pace", "phase", "months"] ["pace", "phase", "months"] (defScope s_sum_by) := ⟨rfl, rfl, rfl, by decide +kernel, rfl, by decide +kernel, by decide +kernel⟩
abbrev s_is_calendar : Stmt := topS 19
theorem n_is_calendar : FnScope ["value"] ["value"] (defScope s_is_calendar) := ⟨rfl, rfl, rfl, by decide +kernel, rfl, by decide +kernel, by decide +kernel⟩
abbrev s_check_calendar : Stmt := topS 20
theorem n_check_calendar : FnScope ["value"] ["value"] (defScope s_check_calendar) := ⟨rfl, rfl, rfl, by decide +kernel, rfl, by decide +kernel, by decide +kernel⟩
abbrev s_is_far : Stmt := topS 21
theorem n_is_far : FnScope ["value"] ["value"] (defScope s_is_far) := ⟨rfl, rfl, rfl, by decide +kernel, rfl, by decide +kernel, by decide +kernel⟩
abbrev s_parting_by : Stmt := topS 22
theorem n_parting_by : FnScope ["one", "other", "month"] ["one", "other", "month"] (defScope s_parting_by) := ⟨rfl, rfl, rfl, by decide +kernel, rfl, by decide +kernel, by decide +kernel⟩
abbrev s_drift : Stmt := topS 23
theorem n_drift : FnScope ["one", "other", "over"] ["one", "other"] (defScope s_drift) := ⟨rfl, rfl, rfl, by decide +kernel, rfl, by decide +kernel, by decide +kernel⟩
abbrev s_doubt_by : Stmt := topS 24
theorem n_doubt_by : FnScope ["one", "other", "far", "over", "under", "last", "month"] ["one", "other", "far"] (defScope s_doubt_by) := ⟨rfl, rfl, rfl, by decide +kernel, rfl, by decide +kernel, by decide +kernel⟩
abbrev s_check_calendars : Stmt := topS 25
theorem n_check_calendars : FnScope ["one", "other"] ["one", "other"] (defScope s_check_calendars) := ⟨rfl, rfl, rfl, by decide +kernel, rfl, by decide +kernel, by decide +kernel⟩
abbrev s_check_far : Stmt := topS 26
theorem n_check_far : FnScope ["one", "other", "far"] ["one", "other", "far"] (defScope s_check_far) := ⟨rfl, rfl, rfl, by decide +kernel, rfl, by decide +kernel, by decide +kernel⟩
abbrev s_day_of_doubt : Stmt := topS 27
theorem n_day_of_doubt : FnScope ["one", "other", "far"] ["one", "other", "far"] (defScope s_day_of_doubt) := ⟨rfl, rfl, rfl, by decide +kernel, rfl, by decide +kernel, by decide +kernel⟩
abbrev s__law_pool : Stmt := topS 29
theorem n__law_pool : FnScope ["script", "k", "cell", "mixed", "wide", "each"] ["script", "k"] (defScope s__law_pool) := ⟨rfl, rfl, rfl, by decide +kernel, rfl, by decide +kernel, by decide +kernel⟩
abbrev s__law_take : Stmt := topS 30
theorem n__law_take : FnScope ["pool", "many", "digit", "stirred"] ["pool", "many"] (defScope s__law_take) := ⟨rfl, rfl, rfl, by decide +kernel, rfl, by decide +kernel, by decide +kernel⟩
abbrev s__law_of : Stmt := topS 31
theorem n__law_of : FnScope ["pool", "some"] ["pool", "some"] (defScope s__law_of) := ⟨rfl, rfl, rfl, by decide +kernel, rfl, by decide +kernel, by decide +kernel⟩
abbrev s__law_lowest : Stmt := topS 32
theorem n__law_lowest : FnScope ["top", "low", "one", "two"] ["top", "low"] (defScope s__law_lowest) := ⟨rfl, rfl, rfl, by decide +kernel, rfl, by decide +kernel, by decide +kernel⟩
abbrev s__law_pace : Stmt := topS 33
theorem n__law_pace : FnScope ["pool", "low"] ["pool"] (defScope s__law_pace) := ⟨rfl, rfl, rfl, by decide +kernel, rfl, by decide +kernel, by decide +kernel⟩
abbrev s__law_phase : Stmt := topS 34
theorem n__law_phase : FnScope ["pool", "low"] ["pool"] (defScope s__law_phase) := ⟨rfl, rfl, rfl, by decide +kernel, rfl, by decide +kernel, by decide +kernel⟩
abbrev s__law_sum : Stmt := topS 35
theorem n__law_sum : FnScope ["pace", "phase", "month"] ["pace", "phase", "month"] (defScope s__law_sum) := ⟨rfl, rfl, rfl, by decide +kernel, rfl, by decide +kernel, by decide +kernel⟩
abbrev s__law_parted : Stmt := topS 36
theorem n__law_parted : FnScope ["one", "other", "month"] ["one", "other", "month"] (defScope s__law_parted) := ⟨rfl, rfl, rfl, by decide +kernel, rfl, by decide +kernel, by decide +kernel⟩
abbrev s__law_two : Stmt := topS 37
theorem n__law_two : FnScope ["pool", "one", "two"] ["pool"] (defScope s__law_two) := ⟨rfl, rfl, rfl, by decide +kernel, rfl, by decide +kernel, by decide +kernel⟩
abbrev s__law_doubt : Stmt := topS 38
theorem n__law_doubt : FnScope ["one", "other", "far", "step", "last", "month"] ["one", "other", "far"] (defScope s__law_doubt) := ⟨rfl, rfl, rfl, by decide +kernel, rfl, by decide +kernel, by decide +kernel⟩
abbrev s__law_right : Stmt := topS 39
theorem n__law_right : FnScope ["pool", "one", "other", "far", "due", "told"] ["pool"] (defScope s__law_right) := ⟨rfl, rfl, rfl, by decide +kernel, rfl, by decide +kernel, by decide +kernel⟩
abbrev s_law : Stmt := topS 40
theorem n_law : FnScope ["script", "k", "pool", "turn"] ["script"] (defScope s_law) := ⟨rfl, rfl, rfl, by decide +kernel, rfl, by decide +kernel, by decide +kernel⟩
section
variable {P : Program} {w : World} {K : PySem.W.Frag} {mg : Str → Option Value} {base : Heap}
theorem b_is_whole (z_isinstance : mg ("isinstance" : Str) = none) (z_int : mg ("int" : Str) = none) (z_bool : mg ("bool" : Str) = none) : BodyQ P w K mg base ["value"] n_is_whole.nd "is_whole" s_is_whole 0 d_is_whole := fun f cdv A outer s H E hr hg =>
 qb_one (qs_ret (q_and (b_isi isT_int (q_var (i := 0)) rfl z_isinstance rfl z_int rfl) (q_one (q_not (b_isi isT_bool (q_var (i := 0)) rfl z_isinstance rfl z_bool rfl)))))
theorem b_is_number (c_is_whole_1 : Callee P w K mg base "is_whole" 1 1 [] [0] [] m_is_whole) : BodyQ P w K mg base ["value", "low", "high"] n_is_number.nd "is_number" s_is_number 1 d_is_number := fun f cdv A outer s H E hr hg =>
 qb_one (qs_ret (q_and (q_call c_is_whole_1 (Nat.le_of_ble_eq_true rfl) (q_cons (q_var (i := 0)) (q_nil))) (q_and (q_cmp (fun _ => oLe) sLe (q_var (i := 1)) (q_var (i := 0)) rfl) (q_one (q_or (q_cmp (fun _ => oIsN) sIsN (q_var (i := 2)) (q_non) rfl) (q_one (q_cmp (fun _ => oLe) sLe (q_var (i := 0)) (q_var (i := 2)) rfl)))))))
theorem b_is_between (c_is_whole_1 : Callee P w K mg base "is_whole" 1 1 [] [0] [] m_is_whole) : BodyQ P w K mg base ["value", "least", "most"] n_is_between.nd "is_between" s_is_between 1 d_is_between := fun f cdv A outer s H E hr hg =>
 qb_one (qs_ret (q_and (q_call c_is_whole_1 (Nat.le_of_ble_eq_true rfl) (q_cons (q_var (i := 0)) (q_nil))) (q_one (q_chain (fun _ => oLe) (fun _ => oLe) sLe sLe (q_var (i := 1)) (q_var (i := 0)) (q_var (i := 2))))))
theorem b_is_tuple_of (z_isinstance : mg ("isinstance" : Str) = none) (z_tuple : mg ("tuple" : Str) = none) (z_len : mg ("len" : Str) = none) : BodyQ P w K mg base ["value", "many"] n_is_tuple_of.nd "is_tuple_of" s_is_tuple_of 0 d_is_tuple_of := fun f cdv A outer s H E hr hg =>
 qb_one (qs_ret (q_and (b_isi isT_tuple (q_var (i := 0)) rfl z_isinstance rfl z_tuple rfl) (q_one (q_cmp (fun _ => oEq) sEq (b_len (q_cons (q_var (i := 0)) (q_nil)) rfl z_len) (q_var (i := 1)) rfl))))
theorem b_is_fraction {u_MOST_UNDER : Value} (c_is_tuple_of_2 : Callee P w K mg base "is_tuple_of" 1 2 [] [0, 1] [] m_is_tuple_of) (c_is_number_1 : Callee P w K mg base "is_number" 2 1 [] [0, 1, 2] [.int 0, .non] m_is_number) (c_is_between_3 : Callee P w K mg base "is_between" 2 3 [] [0, 1, 2] [] m_is_between) (z_gcd : mg ("gcd" : Str) = some (.builtin "math.gcd")) (v_MOST_UNDER : (mg ("MOST_UNDER" : Str) = some u_MOST_UNDER) ∧ RelV (.int 999999) u_MOST_UNDER) : BodyQ P w K mg base ["value"] n_is_fraction.nd "is_fraction" s_is_fraction 2 d_is_fraction := fun f cdv A outer s H E hr hg =>
 qb_cons (qs_if (q_w (q_wor (q_tnot (q_tval (q_call c_is_tuple_of_2 (Nat.le_of_ble_eq_true rfl) (q_cons (q_var (i := 0)) (q_cons (q_int) (q_nil)))))) (q_wor (q_tnot (q_tval (q_call c_is_number_1 (Nat.le_of_ble_eq_true rfl) (q_cons (q_idx (q_var (i := 0)) (q_int)) (q_nil))))) (q_wor1 (q_tnot (q_tval (q_call c_is_between_3 (Nat.le_of_ble_eq_true rfl) (q_cons (q_idx (q_var (i := 0)) (q_int)) (q_cons (q_int) (q_cons (q_glob (v := .int 999999) (d := .int 999999) rfl v_MOST_UNDER.1 v_MOST_UNDER.2 (fun _ _ => by rw [Rp])) (q_nil))))))))))) (qb_one (qs_ret (q_bl))) (qb_nil))
 (qb_one (qs_ret (q_cmp (fun _ => oEq) sEq (b_gcd (q_cons (q_idx (q_var (i := 0)) (q_int)) (q_cons (q_idx (q_var (i := 0)) (q_int)) (q_nil))) rfl z_gcd) (q_int) rfl)))
theorem b_is_pace (c_is_fraction_1 : Callee P w K mg base "is_fraction" 3 1 [] [0] [] m_is_fraction) : BodyQ P w K mg base ["value"] n_is_pace.nd "is_pace" s_is_pace 3 d_is_pace := fun f cdv A outer s H E hr hg =>
 qb_one (qs_ret (q_and (q_call c_is_fraction_1 (Nat.le_of_ble_eq_true rfl) (q_cons (q_var (i := 0)) (q_nil))) (q_one (q_cmp (fun _ => oLe) sLe (q_idx (q_var (i := 0)) (q_int)) (q_idx (q_var (i := 0)) (q_int)) rfl))))
theorem b_is_phase (c_is_fraction_1 : Callee P w K mg base "is_fraction" 3 1 [] [0] [] m_is_fraction) : BodyQ P w K mg base ["value"] n_is_phase.nd "is_phase" s_is_phase 3 d_is_phase := fun f cdv A outer s H E hr hg =>
 qb_one (qs_ret (q_and (q_call c_is_fraction_1 (Nat.le_of_ble_eq_true rfl) (q_cons (q_var (i := 0)) (q_nil))) (q_one (q_cmp (fun _ => oLt) sLt (q_idx (q_var (i := 0)) (q_int)) (q_idx (q_var (i := 0)) (q_int)) rfl))))
theorem b_sum_by : BodyQ P w K mg base ["pace", "phase", "months"] n_sum_by.nd "sum_by" s_sum_by 0 d_sum_by := fun f cdv A outer s H E hr hg =>
 qb_one (qs_ret (q_div (q_add (q_mul (q_mul (q_var (i := 2)) (q_idx (q_var (i := 0)) (q_int))) (q_idx (q_var (i := 1)) (q_int))) (q_mul (q_idx (q_var (i := 1)) (q_int)) (q_idx (q_var (i := 0)) (q_int)))) (q_mul (q_idx (q_var (i := 0)) (q_int)) (q_idx (q_var (i := 1)) (q_int)))))
theorem b_is_calendar (c_is_tuple_of_2 : Callee P w K mg base "is_tuple_of" 1 2 [] [0, 1] [] m_is_tuple_of) (c_is_pace_1 : Callee P w K mg base "is_pace" 4 1 [] [0] [] m_is_pace) (c_is_phase_1 : Callee P w K mg base "is_phase" 4 1 [] [0] [] m_is_phase) : BodyQ P w K mg base ["value"] n_is_calendar.nd "is_calendar" s_is_calendar 4 d_is_calendar := fun f cdv A outer s H E hr hg =>
 qb_one (qs_ret (q_and (q_call c_is_tuple_of_2 (Nat.le_of_ble_eq_true rfl) (q_cons (q_var (i := 0)) (q_cons (q_int) (q_nil)))) (q_and (q_call c_is_pace_1 (Nat.le_of_ble_eq_true rfl) (q_cons (q_idx (q_var (i := 0)) (q_int)) (q_nil))) (q_one (q_call c_is_phase_1 (Nat.le_of_ble_eq_true rfl) (q_cons (q_idx (q_var (i := 0)) (q_int)) (q_nil)))))))
theorem b_check_calendar (c_is_calendar_1 : Callee P w K mg base "is_calendar" 5 1 [] [0] [] m_is_calendar) : BodyQ P w K mg base ["value"] n_check_calendar.nd "check_calendar" s_check_calendar 5 d_check_calendar := fun f cdv A outer s H E hr hg =>
 qb_one (qs_if (q_tnot (q_tval (q_call c_is_calendar_1 (Nat.le_of_ble_eq_true rfl) (q_cons (q_var (i := 0)) (q_nil))))) (qb_one (qs_never)) (qb_nil))
theorem b_is_far {u_MOST_FAR : Value} (c_is_between_3 : Callee P w K mg base "is_between" 2 3 [] [0, 1, 2] [] m_is_between) (v_MOST_FAR : (mg ("MOST_FAR" : Str) = some u_MOST_FAR) ∧ RelV (.int 99) u_MOST_FAR) : BodyQ P w K mg base ["value"] n_is_far.nd "is_far" s_is_far 2 d_is_far := fun f cdv A outer s H E hr hg =>
 qb_one (qs_ret (q_call c_is_between_3 (Nat.le_of_ble_eq_true rfl) (q_cons (q_var (i := 0)) (q_cons (q_int) (q_cons (q_glob (v := .int 99) (d := .int 99) rfl v_MOST_FAR.1 v_MOST_FAR.2 (fun _ _ => by rw [Rp])) (q_nil))))))
theorem b_parting_by (c_sum_by_3 : Callee P w K mg base "sum_by" 1 3 [] [0, 1, 2] [] m_sum_by) : BodyQ P w K mg base ["one", "other", "month"] n_parting_by.nd "parting_by" s_parting_by 1 d_parting_by := fun f cdv A outer s H E hr hg =>
 qb_one (qs_ret (q_sub (q_call c_sum_by_3 (Nat.le_of_ble_eq_true rfl) (q_cons (q_idx (q_var (i := 0)) (q_int)) (q_cons (q_idx (q_var (i := 0)) (q_int)) (q_cons (q_var (i := 2)) (q_nil))))) (q_call c_sum_by_3 (Nat.le_of_ble_eq_true rfl) (q_cons (q_idx (q_var (i := 1)) (q_int)) (q_cons (q_idx (q_var (i := 1)) (q_int)) (q_cons (q_var (i := 2)) (q_nil)))))))
theorem b_drift (z_abs : mg ("abs" : Str) = none) : BodyQ P w K mg base ["one", "other", "over"] n_drift.nd "drift" s_drift 0 d_drift := fun f cdv A outer s H E hr hg =>
 qb_cons (qs_set 2 (q_sub (q_mul (q_idx (q_idx (q_var (i := 0)) (q_int)) (q_int)) (q_idx (q_idx (q_var (i := 1)) (q_int)) (q_int))) (q_mul (q_idx (q_idx (q_var (i := 1)) (q_int)) (q_int)) (q_idx (q_idx (q_var (i := 0)) (q_int)) (q_int)))))
 (qb_one (qs_ret (q_tup (q_cons (b_abs (q_cons (q_var (i := 2)) (q_nil)) rfl z_abs) (q_cons (q_mul (q_idx (q_idx (q_var (i := 0)) (q_int)) (q_int)) (q_idx (q_idx (q_var (i := 1)) (q_int)) (q_int))) (q_nil))))))
theorem b_doubt_by {u_LAST_MONTH : Value} (c_drift_2 : Callee P w K mg base "drift" 1 2 [] [0, 1] [] m_drift) (c_parting_by_3 : Callee P w K mg base "parting_by" 2 3 [] [0, 1, 2] [] m_parting_by) (z_max : mg ("max" : Str) = none) (z_min : mg ("min" : Str) = none) (z_range : mg ("range" : Str) = none) (z_abs : mg ("abs" : Str) = none) (v_LAST_MONTH : (mg ("LAST_MONTH" : Str) = some u_LAST_MONTH) ∧ RelV (.int 99999) u_LAST_MONTH) : BodyQ P w K mg base ["one", "other", "far", "over", "under", "last", "month"] n_doubt_by.nd "doubt_by" s_doubt_by 2 d_doubt_by := fun f cdv A outer s H E hr hg =>
 qb_cons (qs_asg (q_call c_drift_2 (Nat.le_of_ble_eq_true rfl) (q_cons (q_var (i := 0)) (q_cons (q_var (i := 1)) (q_nil)))) (qg_tup (qgs_cons (qg_name 3) (qgs_cons (qg_name 4) (qgs_nil)))))
 (qb_cons (qs_if (q_tcmp (fun _ => oEq) sEq (q_var (i := 3)) (q_int) rfl) (qb_one (qs_ret (q_non))) (qb_nil))
 (qb_cons (qs_set 5 (b_min2 (q_cons (q_add (q_glob (v := .int 99999) (d := .int 99999) rfl v_LAST_MONTH.1 v_LAST_MONTH.2 (fun _ _ => by rw [Rp])) (q_mul (q_int) (b_max2 (q_cons (q_idx (q_idx (q_var (i := 0)) (q_int)) (q_int)) (q_cons (q_idx (q_idx (q_var (i := 1)) (q_int)) (q_int)) (q_nil))) rfl z_max))) (q_cons (q_add (q_div (q_mul (q_add (q_var (i := 2)) (q_int)) (q_var (i := 4))) (q_var (i := 3))) (q_int)) (q_nil))) rfl z_min))
 (qb_cons (qs_for po_body (qi_range3 (q_cons (q_var (i := 5)) (q_cons (q_sub (q_glob (v := .int 99999) (d := .int 99999) rfl v_LAST_MONTH.1 v_LAST_MONTH.2 (fun _ _ => by rw [Rp])) (q_int)) (q_cons (q_neg (q_int)) (q_nil)))) z_range) (qg_name 6) (qb_one (qs_if (q_tcmp (fun _ => oLt) sLt (b_abs (q_cons (q_call c_parting_by_3 (Nat.le_of_ble_eq_true rfl) (q_cons (q_var (i := 0)) (q_cons (q_var (i := 1)) (q_cons (q_var (i := 6)) (q_nil))))) (q_nil)) rfl z_abs) (q_var (i := 2)) rfl) (qb_one (qs_ret (q_non))) (qb_nil))))
 (qb_cons (qs_set 6 (b_min2 (q_cons (q_var (i := 5)) (q_cons (q_glob (v := .int 99999) (d := .int 99999) rfl v_LAST_MONTH.1 v_LAST_MONTH.2 (fun _ _ => by rw [Rp])) (q_nil))) rfl z_min))
 (qb_cons (qs_while po_body (fun δ : Slots => match δ[6]? with | some (some (W.d (D.int i))) => i.toNat + 1 | _ => 0) (q_tcmp (fun _ => oGe) sGe (b_abs (q_cons (q_call c_parting_by_3 (Nat.le_of_ble_eq_true rfl) (q_cons (q_var (i := 0)) (q_cons (q_var (i := 1)) (q_cons (q_var (i := 6)) (q_nil))))) (q_nil)) rfl z_abs) (q_var (i := 2)) rfl) (qb_one (qs_set 6 (q_sub (q_var (i := 6)) (q_int)))))
 (qb_one (qs_ret (q_add (q_var (i := 6)) (q_int)))))))))
theorem b_check_calendars (c_check_calendar_1 : Callee P w K mg base "check_calendar" 6 1 [] [0] [] m_check_calendar) : BodyQ P w K mg base ["one", "other"] n_check_calendars.nd "check_calendars" s_check_calendars 6 d_check_calendars := fun f cdv A outer s H E hr hg =>
 qb_cons (qs_expr (q_call c_check_calendar_1 (Nat.le_of_ble_eq_true rfl) (q_cons (q_var (i := 0)) (q_nil))))
 (qb_one (qs_expr (q_call c_check_calendar_1 (Nat.le_of_ble_eq_true rfl) (q_cons (q_var (i := 1)) (q_nil)))))
theorem b_check_far (c_check_calendars_2 : Callee P w K mg base "check_calendars" 7 2 [] [0, 1] [] m_check_calendars) (c_is_far_1 : Callee P w K mg base "is_far" 3 1 [] [0] [] m_is_far) : BodyQ P w K mg base ["one", "other", "far"] n_check_far.nd "check_far" s_check_far 7 d_check_far := fun f cdv A outer s H E hr hg =>
 qb_cons (qs_expr (q_call c_check_calendars_2 (Nat.le_of_ble_eq_true rfl) (q_cons (q_var (i := 0)) (q_cons (q_var (i := 1)) (q_nil)))))
 (qb_one (qs_if (q_tnot (q_tval (q_call c_is_far_1 (Nat.le_of_ble_eq_true rfl) (q_cons (q_var (i := 2)) (q_nil))))) (qb_one (qs_never)) (qb_nil)))
theorem b_day_of_doubt (c_check_far_3 : Callee P w K mg base "check_far" 8 3 [] [0, 1, 2] [] m_check_far) (c_doubt_by_3 : Callee P w K mg base "doubt_by" 3 3 [] [0, 1, 2] [] m_doubt_by) : BodyQ P w K mg base ["one", "other", "far"] n_day_of_doubt.nd "day_of_doubt" s_day_of_doubt 8 d_day_of_doubt := fun f cdv A outer s H E hr hg =>
 qb_cons (qs_expr (q_call c_check_far_3 (Nat.le_of_ble_eq_true rfl) (q_cons (q_var (i := 0)) (q_cons (q_var (i := 1)) (q_cons (q_var (i := 2)) (q_nil))))))
 (qb_one (qs_ret (q_call c_doubt_by_3 (Nat.le_of_ble_eq_true rfl) (q_cons (q_var (i := 0)) (q_cons (q_var (i := 1)) (q_cons (q_var (i := 2)) (q_nil)))))))
theorem b__law_pool (z_sum : mg ("sum" : Str) = none) (z_abs : mg ("abs" : Str) = none) : BodyQ P w K mg base ["script", "k", "cell", "mixed", "wide", "each"] n__law_pool.nd "_law_pool" s__law_pool 0 d__law_pool := fun f cdv A outer s H E hr hg =>
 qb_cons (qs_par 2 3 (q_cons (b_sum (q_cons (q_slice (q_var (i := 0)) (qo_some (q_var (i := 1))) (qo_some (q_add (q_var (i := 1)) (q_int)))) (q_nil)) rfl z_sum) (q_cons (q_add (q_int) (q_mul (q_int) (q_var (i := 1)))) (q_nil))))
 (qb_cons (qs_set 4 (q_mul (q_mul (q_mul (q_mul (q_mul (q_pow (q_int) (q_int)) (q_pow (q_int) (q_int))) (q_pow (q_int) (q_int))) (q_pow (q_int) (q_int))) (q_pow (q_int) (q_int))) (q_pow (q_int) (q_int))))
 (qb_cons (qs_for po_body (qi_seq (q_slice (q_var (i := 0)) (qo_none) (qo_some (q_int)))) (qg_name 5) (qb_one (qs_set 3 (q_mod (q_add (q_add (q_mul (q_var (i := 3)) (q_int)) (q_mul (q_mod (q_var (i := 5)) (q_int)) (q_int))) (q_int)) (q_int)))))
 (qb_one (qs_ret (q_ref (q_cons (q_if (q_w (q_wor (q_tcmp (fun _ => oLt) sLt (q_var (i := 2)) (q_int) rfl) (q_wor1 (q_tcmp (fun _ => oGe) sGe (q_var (i := 2)) (q_pow (q_int) (q_int)) rfl)))) (q_mod (b_abs (q_cons (q_var (i := 2)) (q_nil)) rfl z_abs) (q_var (i := 4))) (q_int)) (q_cons (q_var (i := 3)) (q_cons (q_int) (q_nil)))))))))
theorem b__law_take (z_divmod : mg ("divmod" : Str) = none) : BodyQ P w K mg base ["pool", "many", "digit", "stirred"] n__law_take.nd "_law_take" s__law_take 0 d__law_take := fun f cdv A outer s H E hr hg =>
 qb_cons (qs_if (q_tcmp (fun _ => oGt) sGt (q_idx (q_var (i := 0)) (q_int)) (q_int) rfl) (qb_cons (qs_asg (b_divmod (q_cons (q_idx (q_var (i := 0)) (q_int)) (q_cons (q_var (i := 1)) (q_nil))) rfl z_divmod) (qg_tup (qgs_cons (qg_sub (q_var (i := 0)) (q_int)) (qgs_cons (qg_name 2) (qgs_nil)))))
 (qb_one (qs_ret (q_var (i := 2))))) (qb_nil))
 (qb_cons (qs_asg (q_add (q_idx (q_var (i := 0)) (q_int)) (q_int)) (qg_sub (q_var (i := 0)) (q_int)))
 (qb_cons (qs_set 3 (q_mod (q_add (q_idx (q_var (i := 0)) (q_int)) (q_mul (q_int) (q_idx (q_var (i := 0)) (q_int)))) (q_int)))
 (qb_cons (qs_asg (q_mod (q_add (q_mul (q_var (i := 3)) (q_add (q_mod (q_var (i := 3)) (q_int)) (q_int))) (q_mul (q_int) (q_idx (q_var (i := 0)) (q_int)))) (q_int)) (qg_sub (q_var (i := 0)) (q_int)))
 (qb_one (qs_ret (q_mod (q_div (q_idx (q_var (i := 0)) (q_int)) (q_int)) (q_var (i := 1))))))))
theorem b__law_of (c__law_take_2 : Callee P w K mg base "_law_take" 1 2 [] [0, 1] [] m__law_take) (z_len : mg ("len" : Str) = none) : BodyQ P w K mg base ["pool", "some"] n__law_of.nd "_law_of" s__law_of 1 d__law_of := fun f cdv A outer s H E hr hg =>
 qb_one (qs_ret (q_idx (q_var (i := 1)) (q_call c__law_take_2 (Nat.le_of_ble_eq_true rfl) (q_cons (q_var (i := 0)) (q_cons (b_len (q_cons (q_var (i := 1)) (q_nil)) rfl z_len) (q_nil))))))
theorem b__law_lowest : BodyQ P w K mg base ["top", "low", "one", "two"] n__law_lowest.nd "_law_lowest" s__law_lowest 0 d__law_lowest := fun f cdv A outer s H E hr hg =>
 qb_cons (qs_par 2 3 (q_cons (q_var (i := 0)) (q_cons (q_var (i := 1)) (q_nil))))
 (qb_cons (qs_while po_body (fun δ : Slots => match δ[3]? with | some (some (W.d (D.int i))) => i.toNat + 2 | _ => 0) (q_tcmp (fun _ => oGt) sGt (q_var (i := 3)) (q_int) rfl) (qb_one (qs_par 2 3 (q_cons (q_var (i := 3)) (q_cons (q_mod (q_var (i := 2)) (q_var (i := 3))) (q_nil))))))
 (qb_one (qs_ret (q_tup (q_cons (q_div (q_var (i := 0)) (q_var (i := 2))) (q_cons (q_div (q_var (i := 1)) (q_var (i := 2))) (q_nil)))))))
theorem b__law_pace (c__law_of_2 : Callee P w K mg base "_law_of" 2 2 [] [0, 1] [] m__law_of) (c__law_lowest_2 : Callee P w K mg base "_law_lowest" 1 2 [] [0, 1] [] m__law_lowest) (c__law_take_2 : Callee P w K mg base "_law_take" 1 2 [] [0, 1] [] m__law_take) : BodyQ P w K mg base ["pool", "low"] n__law_pace.nd "_law_pace" s__law_pace 2 d__law_pace := fun f cdv A outer s H E hr hg =>
 qb_cons (qs_set 1 (q_call c__law_of_2 (Nat.le_of_ble_eq_true rfl) (q_cons (q_var (i := 0)) (q_cons (q_lst (q_cons (q_int) (q_cons (q_int) (q_cons (q_int) (q_cons (q_int) (q_cons (q_int) (q_cons (q_int) (q_cons (q_int) (q_cons (q_int) (q_cons (q_int) (q_cons (q_int) (q_nil)))))))))))) (q_nil)))))
 (qb_one (qs_ret (q_call c__law_lowest_2 (Nat.le_of_ble_eq_true rfl) (q_cons (q_call c__law_take_2 (Nat.le_of_ble_eq_true rfl) (q_cons (q_var (i := 0)) (q_cons (q_add (q_var (i := 1)) (q_int)) (q_nil)))) (q_cons (q_var (i := 1)) (q_nil))))))
theorem b__law_phase (c__law_of_2 : Callee P w K mg base "_law_of" 2 2 [] [0, 1] [] m__law_of) (c__law_lowest_2 : Callee P w K mg base "_law_lowest" 1 2 [] [0, 1] [] m__law_lowest) (c__law_take_2 : Callee P w K mg base "_law_take" 1 2 [] [0, 1] [] m__law_take) : BodyQ P w K mg base ["pool", "low"] n__law_phase.nd "_law_phase" s__law_phase 2 d__law_phase := fun f cdv A outer s H E hr hg =>
 qb_cons (qs_set 1 (q_call c__law_of_2 (Nat.le_of_ble_eq_true rfl) (q_cons (q_var (i := 0)) (q_cons (q_lst (q_cons (q_int) (q_cons (q_int) (q_cons (q_int) (q_cons (q_int) (q_cons (q_int) (q_cons (q_int) (q_cons (q_int) (q_cons (q_int) (q_cons (q_int) (q_nil))))))))))) (q_nil)))))
 (qb_one (qs_ret (q_call c__law_lowest_2 (Nat.le_of_ble_eq_true rfl) (q_cons (q_call c__law_take_2 (Nat.le_of_ble_eq_true rfl) (q_cons (q_var (i := 0)) (q_cons (q_var (i := 1)) (q_nil)))) (q_cons (q_var (i := 1)) (q_nil))))))
theorem b__law_sum : BodyQ P w K mg base ["pace", "phase", "month"] n__law_sum.nd "_law_sum" s__law_sum 0 d__law_sum := fun f cdv A outer s H E hr hg =>
 qb_one (qs_ret (q_div (q_add (q_mul (q_mul (q_var (i := 2)) (q_idx (q_var (i := 0)) (q_int))) (q_idx (q_var (i := 1)) (q_int))) (q_mul (q_idx (q_var (i := 1)) (q_int)) (q_idx (q_var (i := 0)) (q_int)))) (q_mul (q_idx (q_var (i := 0)) (q_int)) (q_idx (q_var (i := 1)) (q_int)))))
theorem b__law_parted (c__law_sum_3 : Callee P w K mg base "_law_sum" 1 3 [] [0, 1, 2] [] m__law_sum) : BodyQ P w K mg base ["one", "other", "month"] n__law_parted.nd "_law_parted" s__law_parted 1 d__law_parted := fun f cdv A outer s H E hr hg =>
 qb_one (qs_ret (q_sub (q_call c__law_sum_3 (Nat.le_of_ble_eq_true rfl) (q_cons (q_idx (q_var (i := 0)) (q_int)) (q_cons (q_idx (q_var (i := 0)) (q_int)) (q_cons (q_var (i := 2)) (q_nil))))) (q_call c__law_sum_3 (Nat.le_of_ble_eq_true rfl) (q_cons (q_idx (q_var (i := 1)) (q_int)) (q_cons (q_idx (q_var (i := 1)) (q_int)) (q_cons (q_var (i := 2)) (q_nil)))))))
theorem b__law_two (c__law_phase_1 : Callee P w K mg base "_law_phase" 3 1 [] [0] [] m__law_phase) (c__law_pace_1 : Callee P w K mg base "_law_pace" 3 1 [] [0] [] m__law_pace) (c__law_take_2 : Callee P w K mg base "_law_take" 1 2 [] [0, 1] [] m__law_take) : BodyQ P w K mg base ["pool", "one", "two"] n__law_two.nd "_law_two" s__law_two 3 d__law_two := fun f cdv A outer s H E hr hg =>
 qb_cons (qs_par 1 2 (q_cons (q_tup (q_cons (q_call c__law_pace_1 (Nat.le_of_ble_eq_true rfl) (q_cons (q_var (i := 0)) (q_nil))) (q_cons (q_call c__law_phase_1 (Nat.le_of_ble_eq_true rfl) (q_cons (q_var (i := 0)) (q_nil))) (q_nil)))) (q_cons (q_tup (q_cons (q_call c__law_pace_1 (Nat.le_of_ble_eq_true rfl) (q_cons (q_var (i := 0)) (q_nil))) (q_cons (q_call c__law_phase_1 (Nat.le_of_ble_eq_true rfl) (q_cons (q_var (i := 0)) (q_nil))) (q_nil)))) (q_nil))))
 (qb_cons (qs_if (q_tcmp (fun _ => oEq) sEq (q_call c__law_take_2 (Nat.le_of_ble_eq_true rfl) (q_cons (q_var (i := 0)) (q_cons (q_int) (q_nil)))) (q_int) rfl) (qb_one (qs_set 2 (q_tup (q_cons (q_idx (q_var (i := 1)) (q_int)) (q_cons (q_idx (q_var (i := 2)) (q_int)) (q_nil)))))) (qb_nil))
 (qb_one (qs_ret (q_tup (q_cons (q_var (i := 1)) (q_cons (q_var (i := 2)) (q_nil)))))))
theorem b__law_doubt (c__law_parted_3 : Callee P w K mg base "_law_parted" 2 3 [] [0, 1, 2] [] m__law_parted) (z_abs : mg ("abs" : Str) = none) (z_list : mg ("list" : Str) = none) (z_range : mg ("range" : Str) = none) : BodyQ P w K mg base ["one", "other", "far", "step", "last", "month"] n__law_doubt.nd "_law_doubt" s__law_doubt 2 d__law_doubt := fun f cdv A outer s H E hr hg =>
 qb_cons (qs_set 3 (b_abs (q_cons (q_sub (q_mul (q_idx (q_idx (q_var (i := 0)) (q_int)) (q_int)) (q_idx (q_idx (q_var (i := 1)) (q_int)) (q_int))) (q_mul (q_idx (q_idx (q_var (i := 1)) (q_int)) (q_int)) (q_idx (q_idx (q_var (i := 0)) (q_int)) (q_int)))) (q_nil)) rfl z_abs))
 (qb_cons (qs_set 4 (q_add (q_div (q_mul (q_mul (q_add (q_var (i := 2)) (q_int)) (q_idx (q_idx (q_var (i := 0)) (q_int)) (q_int))) (q_idx (q_idx (q_var (i := 1)) (q_int)) (q_int))) (q_var (i := 3))) (q_int)))
 (qb_cons (qs_if (q_tcmp (fun _ => oGt) sGt (q_var (i := 4)) (q_int) rfl) (qb_one (qs_ret (q_neg (q_int)))) (qb_nil))
 (qb_cons (qs_for po_body (qi_seq (q_rev (q_listRg (q_add (q_var (i := 4)) (q_int)) rfl z_list rfl z_range))) (qg_name 5) (qb_one (qs_if (q_tchain (fun _ => oLt) (fun _ => oLt) sLt sLt (q_sub (q_int) (q_var (i := 2))) (q_call c__law_parted_3 (Nat.le_of_ble_eq_true rfl) (q_cons (q_var (i := 0)) (q_cons (q_var (i := 1)) (q_cons (q_var (i := 5)) (q_nil))))) (q_var (i := 2))) (qb_one (qs_ret (q_if (q_tcmp (fun _ => oLt) sLt (q_add (q_var (i := 5)) (q_int)) (q_int) rfl) (q_add (q_var (i := 5)) (q_int)) (q_non)))) (qb_nil))))
 (qb_one (qs_ret (q_int))))))
theorem b__law_right (c__law_two_1 : Callee P w K mg base "_law_two" 4 1 [] [0] [] m__law_two) (c__law_lowest_2 : Callee P w K mg base "_law_lowest" 1 2 [] [0, 1] [] m__law_lowest) (c__law_take_2 : Callee P w K mg base "_law_take" 1 2 [] [0, 1] [] m__law_take) (c__law_doubt_3 : Callee P w K mg base "_law_doubt" 3 3 [] [0, 1, 2] [] m__law_doubt) (c_day_of_doubt_3 : Callee P w K mg base "day_of_doubt" 9 3 [] [0, 1, 2] [] m_day_of_doubt) (c_day_of_doubt_0_far_other_one : Callee P w K mg base "day_of_doubt" 9 0 ["far", "other", "one"] [2, 1, 0] [] m_day_of_doubt) (z_repr : mg ("repr" : Str) = none) : BodyQ P w K mg base ["pool", "one", "other", "far", "due", "told"] n__law_right.nd "_law_right" s__law_right 9 d__law_right := fun f cdv A outer s H E hr hg =>
 qb_cons (qs_asg (q_call c__law_two_1 (Nat.le_of_ble_eq_true rfl) (q_cons (q_var (i := 0)) (q_nil))) (qg_tup (qgs_cons (qg_name 1) (qgs_cons (qg_name 2) (qgs_nil)))))
 (qb_cons (qs_if (q_tcmp (fun _ => oEq) sEq (q_idx (q_var (i := 1)) (q_int)) (q_idx (q_var (i := 2)) (q_int)) rfl) (qb_one (qs_set 2 (q_tup (q_cons (q_call c__law_lowest_2 (Nat.le_of_ble_eq_true rfl) (q_cons (q_add (q_idx (q_idx (q_var (i := 2)) (q_int)) (q_int)) (q_int)) (q_cons (q_add (q_idx (q_idx (q_var (i := 2)) (q_int)) (q_int)) (q_int)) (q_nil)))) (q_cons (q_idx (q_var (i := 2)) (q_int)) (q_nil)))))) (qb_nil))
 (qb_cons (qs_if (q_tcmp (fun _ => oEq) sEq (q_idx (q_var (i := 1)) (q_int)) (q_idx (q_var (i := 2)) (q_int)) rfl) (qb_one (qs_ret (q_bl))) (qb_nil))
 (qb_cons (qs_for po_body (qi_seq (q_lst (q_cons (q_int) (q_cons (q_int) (q_cons (q_add (q_int) (q_call c__law_take_2 (Nat.le_of_ble_eq_true rfl) (q_cons (q_var (i := 0)) (q_cons (q_int) (q_nil))))) (q_nil)))))) (qg_name 3) (qb_cons (qs_set 4 (q_call c__law_doubt_3 (Nat.le_of_ble_eq_true rfl) (q_cons (q_var (i := 1)) (q_cons (q_var (i := 2)) (q_cons (q_var (i := 3)) (q_nil))))))
 (qb_one (qs_if (q_tcmp (fun _ => oNe) sNe (q_var (i := 4)) (q_neg (q_int)) rfl) (qb_cons (qs_set 5 (q_if (q_tcmp (fun _ => oNe) sNe (q_var (i := 3)) (q_int) rfl) (q_call c_day_of_doubt_3 (Nat.le_of_ble_eq_true rfl) (q_cons (q_var (i := 1)) (q_cons (q_var (i := 2)) (q_cons (q_var (i := 3)) (q_nil))))) (q_callK0 (ks := ["far", "other", "one"]) c_day_of_doubt_0_far_other_one (Nat.le_of_ble_eq_true rfl) (qk_cons (q_var (i := 3)) (qk_cons (q_var (i := 2)) (qk_cons (q_var (i := 1)) (qk_nil)))))))
 (qb_one (qs_if (q_tcmp (fun _ => oNe) sNe (b_repr (q_cons (q_var (i := 5)) (q_nil)) rfl z_repr) (b_repr (q_cons (q_var (i := 4)) (q_nil)) rfl z_repr) rfl) (qb_one (qs_ret (q_bl))) (qb_nil)))) (qb_nil)))))
 (qb_one (qs_ret (q_bl))))))
theorem b_law (c__law_pool_2 : Callee P w K mg base "_law_pool" 1 2 [] [0, 1] [] m__law_pool) (c__law_right_1 : Callee P w K mg base "_law_right" 10 1 [] [0] [] m__law_right) (z_len : mg ("len" : Str) = none) (z_min : mg ("min" : Str) = none) (z_max : mg ("max" : Str) = none) (z_range : mg ("range" : Str) = none) (z_all : mg ("all" : Str) = none) : BodyQ P w K mg base ["script", "k", "pool", "turn"] n_law.nd "law" s_law 10 d_law := fun f cdv A outer s H E hr hg =>
 qb_cons (qs_for po_body (qi_range1 (q_cons (b_max2 (q_cons (q_int) (q_cons (b_min2 (q_cons (b_len (q_cons (q_var (i := 0)) (q_nil)) rfl z_len) (q_cons (q_int) (q_nil))) rfl z_min) (q_nil))) rfl z_max) (q_nil)) z_range) (qg_name 1) (qb_cons (qs_set 2 (q_call c__law_pool_2 (Nat.le_of_ble_eq_true rfl) (q_cons (q_var (i := 0)) (q_cons (q_var (i := 1)) (q_nil)))))
 (qb_one (qs_if (q_tnot (q_tval (b_all (q_cons (q_lc (own := [("turn", 3)]) (ok := by show blkC ["script", "k", "pool", "turn"] (defScope s_law) _ [("turn", 3)] = true; decide +kernel) (qi_range1 (q_cons (q_int) (q_nil)) z_range) (qg_name 3) (qts_nil) (q_call c__law_right_1 (Nat.le_of_ble_eq_true rfl) (q_cons (q_var (i := 2)) (q_nil)))) (q_nil)) rfl z_all))) (qb_one (qs_ret (q_bl))) (qb_nil)))))
 (qb_one (qs_ret (q_bl)))
end
theorem all_mk {l : PySem.W.OpenLaw} {w : World} {K : PySem.W.Frag} {h : Heap} {mg : Str → Option Value} {fa : Addr} (X : K.In h) (G : h.Ns mainGlobals mg) (hfa : mg "law" = some (.ref fa))
 {f_is_whole : Addr} {od_is_whole an_is_whole : Option Addr} {sl_is_whole : Array (Option Value)} {oc_is_whole kV_is_whole dc_is_whole pm_is_whole cd_is_whole ct_is_whole : Value}
 {f_is_number : Addr} {od_is_number an_is_number : Option Addr} {sl_is_number : Array (Option Value)} {oc_is_number kV_is_number dc_is_number pm_is_number cd_is_number ct_is_number : Value}
 {t_is_number : Addr} {tc_is_number : Value} {td_is_number : Option Addr} {ti_is_number : List Value} {tn_is_number : Nat} {ts_is_number : Array (Option Value)}
 {f_is_between : Addr} {od_is_between an_is_between : Option Addr} {sl_is_between : Array (Option Value)} {oc_is_between kV_is_between dc_is_between pm_is_between cd_is_between ct_is_between : Value}
 {f_is_tuple_of : Addr} {od_is_tuple_of an_is_tuple_of : Option Addr} {sl_is_tuple_of : Array (Option Value)} {oc_is_tuple_of kV_is_tuple_of dc_is_tuple_of pm_is_tuple_of cd_is_tuple_of ct_is_tuple_of : Value}
 {f_is_fraction : Addr} {od_is_fraction an_is_fraction : Option Addr} {sl_is_fraction : Array (Option Value)} {oc_is_fraction kV_is_fraction dc_is_fraction pm_is_fraction cd_is_fraction ct_is_fraction : Value}
 {f_is_pace : Addr} {od_is_pace an_is_pace : Option Addr} {sl_is_pace : Array (Option Value)} {oc_is_pace kV_is_pace dc_is_pace pm_is_pace cd_is_pace ct_is_pace : Value}
 {f_is_phase : Addr} {od_is_phase an_is_phase : Option Addr} {sl_is_phase : Array (Option Value)} {oc_is_phase kV_is_phase dc_is_phase pm_is_phase cd_is_phase ct_is_phase : Value}
 {f_sum_by : Addr} {od_sum_by an_sum_by : Option Addr} {sl_sum_by : Array (Option Value)} {oc_sum_by kV_sum_by dc_sum_by pm_sum_by cd_sum_by ct_sum_by : Value}
 {f_is_calendar : Addr} {od_is_calendar an_is_calendar : Option Addr} {sl_is_calendar : Array (Option Value)} {oc_is_calendar kV_is_calendar dc_is_calendar pm_is_calendar cd_is_calendar ct_is_calendar : Value}
 {f_check_calendar : Addr} {od_check_calendar an_check_calendar : Option Addr} {sl_check_calendar : Array (Option Value)} {oc_check_calendar kV_check_calendar dc_check_calendar pm_check_calendar cd_check_calendar ct_check_calendar : Value}
 {f_is_far : Addr} {od_is_far an_is_far : Option Addr} {sl_is_far : Array (Option Value)} {oc_is_far kV_is_far dc_is_far pm_is_far cd_is_far ct_is_far : Value}
 {f_parting_by : Addr} {od_parting_by an_parting_by : Option Addr} {sl_parting_by : Array (Option Value)} {oc_parting_by kV_parting_by dc_parting_by pm_parting_by cd_parting_by ct_parting_by : Value}
 {f_drift : Addr} {od_drift an_drift : Option Addr} {sl_drift : Array (Option Value)} {oc_drift kV_drift dc_drift pm_drift cd_drift ct_drift : Value}
 {f_doubt_by : Addr} {od_doubt_by an_doubt_by : Option Addr} {sl_doubt_by : Array (Option Value)} {oc_doubt_by kV_doubt_by dc_doubt_by pm_doubt_by cd_doubt_by ct_doubt_by : Value}
 {f_check_calendars : Addr} {od_check_calendars an_check_calendars : Option Addr} {sl_check_calendars : Array (Option Value)} {oc_check_calendars kV_check_calendars dc_check_calendars pm_check_calendars cd_check_calendars ct_check_calendars : Value}
 {f_check_far : Addr} {od_check_far an_check_far : Option Addr} {sl_check_far : Array (Option Value)} {oc_check_far kV_check_far dc_check_far pm_check_far cd_check_far ct_check_far : Value}
 {f_day_of_doubt : Addr} {od_day_of_doubt an_day_of_doubt : Option Addr} {sl_day_of_doubt : Array (Option Value)} {oc_day_of_doubt kV_day_of_doubt dc_day_of_doubt pm_day_of_doubt cd_day_of_doubt ct_day_of_doubt : Value}
 {f__law_pool : Addr} {od__law_pool an__law_pool : Option Addr} {sl__law_pool : Array (Option Value)} {oc__law_pool kV__law_pool dc__law_pool pm__law_pool cd__law_pool ct__law_pool : Value}
 {f__law_take : Addr} {od__law_take an__law_take : Option Addr} {sl__law_take : Array (Option Value)} {oc__law_take kV__law_take dc__law_take pm__law_take cd__law_take ct__law_take : Value}
 {f__law_of : Addr} {od__law_of an__law_of : Option Addr} {sl__law_of : Array (Option Value)} {oc__law_of kV__law_of dc__law_of pm__law_of cd__law_of ct__law_of : Value}
 {f__law_lowest : Addr} {od__law_lowest an__law_lowest : Option Addr} {sl__law_lowest : Array (Option Value)} {oc__law_lowest kV__law_lowest dc__law_lowest pm__law_lowest cd__law_lowest ct__law_lowest : Value}
 {f__law_pace : Addr} {od__law_pace an__law_pace : Option Addr} {sl__law_pace : Array (Option Value)} {oc__law_pace kV__law_pace dc__law_pace pm__law_pace cd__law_pace ct__law_pace : Value}
 {f__law_phase : Addr} {od__law_phase an__law_phase : Option Addr} {sl__law_phase : Array (Option Value)} {oc__law_phase kV__law_phase dc__law_phase pm__law_phase cd__law_phase ct__law_phase : Value}
 {f__law_sum : Addr} {od__law_sum an__law_sum : Option Addr} {sl__law_sum : Array (Option Value)} {oc__law_sum kV__law_sum dc__law_sum pm__law_sum cd__law_sum ct__law_sum : Value}
 {f__law_parted : Addr} {od__law_parted an__law_parted : Option Addr} {sl__law_parted : Array (Option Value)} {oc__law_parted kV__law_parted dc__law_parted pm__law_parted cd__law_parted ct__law_parted : Value}
 {f__law_two : Addr} {od__law_two an__law_two : Option Addr} {sl__law_two : Array (Option Value)} {oc__law_two kV__law_two dc__law_two pm__law_two cd__law_two ct__law_two : Value}
 {f__law_doubt : Addr} {od__law_doubt an__law_doubt : Option Addr} {sl__law_doubt : Array (Option Value)} {oc__law_doubt kV__law_doubt dc__law_doubt pm__law_doubt cd__law_doubt ct__law_doubt : Value}
 {f__law_right : Addr} {od__law_right an__law_right : Option Addr} {sl__law_right : Array (Option Value)} {oc__law_right kV__law_right dc__law_right pm__law_right cd__law_right ct__law_right : Value}
 {f_law : Addr} {od_law an_law : Option Addr} {sl_law : Array (Option Value)} {oc_law kV_law dc_law pm_law cd_law ct_law : Value}
 {u_MOST_UNDER : Value}
 {u_MOST_FAR : Value}
 {u_LAST_MONTH : Value}
 (a_is_whole : PySem.W.nsIn K mainGlobals "is_whole" = some (some (.ref f_is_whole)))
 (l_is_whole : K.lookup f_is_whole = some ⟨oc_is_whole, od_is_whole, .func (PySem.W.fnOf "is_whole" "is_whole" (defArgs s_is_whole) (defBody s_is_whole) (defScope s_is_whole) .none kV_is_whole dc_is_whole pm_is_whole an_is_whole cd_is_whole ct_is_whole), sl_is_whole⟩)
 (e_is_whole : PySem.W.codeIn K cd_is_whole "is_whole" = true)
 (k_is_whole : PySem.W.keepIn K (.ref f_is_whole) = true)
 (a_is_number : PySem.W.nsIn K mainGlobals "is_number" = some (some (.ref f_is_number)))
 (l_is_number : K.lookup f_is_number = some ⟨oc_is_number, od_is_number, .func (PySem.W.fnOf "is_number" "is_number" (defArgs s_is_number) (defBody s_is_number) (defScope s_is_number) (.ref t_is_number) kV_is_number dc_is_number pm_is_number an_is_number cd_is_number ct_is_number), sl_is_number⟩)
 (e_is_number : PySem.W.codeIn K cd_is_number "is_number" = true)
 (k_is_number : PySem.W.keepIn K (.ref f_is_number) = true)
 (g_is_number : K.lookup t_is_number = some ⟨tc_is_number, td_is_number, .seq ti_is_number.toArray tn_is_number, ts_is_number⟩)
 (w_is_number : Vals [.int 0, .non] ti_is_number)
 (a_is_between : PySem.W.nsIn K mainGlobals "is_between" = some (some (.ref f_is_between)))
 (l_is_between : K.lookup f_is_between = some ⟨oc_is_between, od_is_between, .func (PySem.W.fnOf "is_between" "is_between" (defArgs s_is_between) (defBody s_is_between) (defScope s_is_between) .none kV_is_between dc_is_between pm_is_between an_is_between cd_is_between ct_is_between), sl_is_between⟩)
 (e_is_between : PySem.W.codeIn K cd_is_between "is_between" = true)
 (k_is_between : PySem.W.keepIn K (.ref f_is_between) = true)
 (a_is_tuple_of : PySem.W.nsIn K mainGlobals "is_tuple_of" = some (some (.ref f_is_tuple_of)))
 (l_is_tuple_of : K.lookup f_is_tuple_of = some ⟨oc_is_tuple_of, od_is_tuple_of, .func (PySem.W.fnOf "is_tuple_of" "is_tuple_of" (defArgs s_is_tuple_of) (defBody s_is_tuple_of) (defScope s_is_tuple_of) .none kV_is_tuple_of dc_is_tuple_of pm_is_tuple_of an_is_tuple_of cd_is_tuple_of ct_is_tuple_of), sl_is_tuple_of⟩)
 (e_is_tuple_of : PySem.W.codeIn K cd_is_tuple_of "is_tuple_of" = true)
 (k_is_tuple_of : PySem.W.keepIn K (.ref f_is_tuple_of) = true)
 (a_is_fraction : PySem.W.nsIn K mainGlobals "is_fraction" = some (some (.ref f_is_fraction)))
 (l_is_fraction : K.lookup f_is_fraction = some ⟨oc_is_fraction, od_is_fraction, .func (PySem.W.fnOf "is_fraction" "is_fraction" (defArgs s_is_fraction) (defBody s_is_fraction) (defScope s_is_fraction) .none kV_is_fraction dc_is_fraction pm_is_fraction an_is_fraction cd_is_fraction ct_is_fraction), sl_is_fraction⟩)
 (e_is_fraction : PySem.W.codeIn K cd_is_fraction "is_fraction" = true)
 (k_is_fraction : PySem.W.keepIn K (.ref f_is_fraction) = true)
 (a_is_pace : PySem.W.nsIn K mainGlobals "is_pace" = some (some (.ref f_is_pace)))
 (l_is_pace : K.lookup f_is_pace = some ⟨oc_is_pace, od_is_pace, .func (PySem.W.fnOf "is_pace" "is_pace" (defArgs s_is_pace) (defBody s_is_pace) (defScope s_is_pace) .none kV_is_pace dc_is_pace pm_is_pace an_is_pace cd_is_pace ct_is_pace), sl_is_pace⟩)
 (e_is_pace : PySem.W.codeIn K cd_is_pace "is_pace" = true)
 (k_is_pace : PySem.W.keepIn K (.ref f_is_pace) = true)
 (a_is_phase : PySem.W.nsIn K mainGlobals "is_phase" = some (some (.ref f_is_phase)))
 (l_is_phase : K.lookup f_is_phase = some ⟨oc_is_phase, od_is_phase, .func (PySem.W.fnOf "is_phase" "is_phase" (defArgs s_is_phase) (defBody s_is_phase) (defScope s_is_phase) .none kV_is_phase dc_is_phase pm_is_phase an_is_phase cd_is_phase ct_is_phase), sl_is_phase⟩)
 (e_is_phase : PySem.W.codeIn K cd_is_phase "is_phase" = true)
 (k_is_phase : PySem.W.keepIn K (.ref f_is_phase) = true)
 (a_sum_by : PySem.W.nsIn K mainGlobals "sum_by" = some (some (.ref f_sum_by)))
 (l_sum_by : K.lookup f_sum_by = some ⟨oc_sum_by, od_sum_by, .func (PySem.W.fnOf "sum_by" "sum_by" (defArgs s_sum_by) (defBody s_sum_by) (defScope s_sum_by) .none kV_sum_by dc_sum_by pm_sum_by an_sum_by cd_sum_by ct_sum_by), sl_sum_by⟩)
 (e_sum_by : PySem.W.codeIn K cd_sum_by "sum_by" = true)
 (k_sum_by : PySem.W.keepIn K (.ref f_sum_by) = true)
 (a_is_calendar : PySem.W.nsIn K mainGlobals "is_calendar" = some (some (.ref f_is_calendar)))
 (l_is_calendar : K.lookup f_is_calendar = some ⟨oc_is_calendar, od_is_calendar, .func (PySem.W.fnOf "is_calendar" "is_calendar" (defArgs s_is_calendar) (defBody s_is_calendar) (defScope s_is_calendar) .none kV_is_calendar dc_is_calendar pm_is_calendar an_is_calendar cd_is_calendar ct_is_calendar), sl_is_calendar⟩)
 (e_is_calendar : PySem.W.codeIn K cd_is_calendar "is_calendar" = true)
 (k_is_calendar : PySem.W.keepIn K (.ref f_is_calendar) = true)
 (a_check_calendar : PySem.W.nsIn K mainGlobals "check_calendar" = some (some (.ref f_check_calendar)))
 (l_check_calendar : K.lookup f_check_calendar = some ⟨oc_check_calendar, od_check_calendar, .func (PySem.W.fnOf "check_calendar" "check_calendar" (defArgs s_check_calendar) (defBody s_check_calendar) (defScope s_check_calendar) .none kV_check_calendar dc_check_calendar pm_check_calendar an_check_calendar cd_check_calendar ct_check_calendar), sl_check_calendar⟩)
 (e_check_calendar : PySem.W.codeIn K cd_check_calendar "check_calendar" = true)
 (k_check_calendar : PySem.W.keepIn K (.ref f_check_calendar) = true)
 (a_is_far : PySem.W.nsIn K mainGlobals "is_far" = some (some (.ref f_is_far)))
 (l_is_far : K.lookup f_is_far = some ⟨oc_is_far, od_is_far, .func (PySem.W.fnOf "is_far" "is_far" (defArgs s_is_far) (defBody s_is_far) (defScope s_is_far) .none kV_is_far dc_is_far pm_is_far an_is_far cd_is_far ct_is_far), sl_is_far⟩)
 (e_is_far : PySem.W.codeIn K cd_is_far "is_far" = true)
 (k_is_far : PySem.W.keepIn K (.ref f_is_far) = true)
 (a_parting_by : PySem.W.nsIn K mainGlobals "parting_by" = some (some (.ref f_parting_by)))
 (l_parting_by : K.lookup f_parting_by = some ⟨oc_parting_by, od_parting_by, .func (PySem.W.fnOf "parting_by" "parting_by" (defArgs s_parting_by) (defBody s_parting_by) (defScope s_parting_by) .none kV_parting_by dc_parting_by pm_parting_by an_parting_by cd_parting_by ct_parting_by), sl_parting_by⟩)
 (e_parting_by : PySem.W.codeIn K cd_parting_by "parting_by" = true)
 (k_parting_by : PySem.W.keepIn K (.ref f_parting_by) = true)
 (a_drift : PySem.W.nsIn K mainGlobals "drift" = some (some (.ref f_drift)))
 (l_drift : K.lookup f_drift = some ⟨oc_drift, od_drift, .func (PySem.W.fnOf "drift" "drift" (defArgs s_drift) (defBody s_drift) (defScope s_drift) .none kV_drift dc_drift pm_drift an_drift cd_drift ct_drift), sl_drift⟩)
 (e_drift : PySem.W.codeIn K cd_drift "drift" = true)
 (k_drift : PySem.W.keepIn K (.ref f_drift) = true)
 (a_doubt_by : PySem.W.nsIn K mainGlobals "doubt_by" = some (some (.ref f_doubt_by)))
 (l_doubt_by : K.lookup f_doubt_by = some ⟨oc_doubt_by, od_doubt_by, .func (PySem.W.fnOf "doubt_by" "doubt_by" (defArgs s_doubt_by) (defBody s_doubt_by) (defScope s_doubt_by) .none kV_doubt_by dc_doubt_by pm_doubt_by an_doubt_by cd_doubt_by ct_doubt_by), sl_doubt_by⟩)
 (e_doubt_by : PySem.W.codeIn K cd_doubt_by "doubt_by" = true)
 (k_doubt_by : PySem.W.keepIn K (.ref f_doubt_by) = true)
 (a_check_calendars : PySem.W.nsIn K mainGlobals "check_calendars" = some (some (.ref f_check_calendars)))
 (l_check_calendars : K.lookup f_check_calendars = some ⟨oc_check_calendars, od_check_calendars, .func (PySem.W.fnOf "check_calendars" "check_calendars" (defArgs s_check_calendars) (defBody s_check_calendars) (defScope s_check_calendars) .none kV_check_calendars dc_check_calendars pm_check_calendars an_check_calendars cd_check_calendars ct_check_calendars), sl_check_calendars⟩)
 (e_check_calendars : PySem.W.codeIn K cd_check_calendars "check_calendars" = true)
 (k_check_calendars : PySem.W.keepIn K (.ref f_check_calendars) = true)
 (a_check_far : PySem.W.nsIn K mainGlobals "check_far" = some (some (.ref f_check_far)))
 (l_check_far : K.lookup f_check_far = some ⟨oc_check_far, od_check_far, .func (PySem.W.fnOf "check_far" "check_far" (defArgs s_check_far) (defBody s_check_far) (defScope s_check_far) .none kV_check_far dc_check_far pm_check_far an_check_far cd_check_far ct_check_far), sl_check_far⟩)
 (e_check_far : PySem.W.codeIn K cd_check_far "check_far" = true)
 (k_check_far : PySem.W.keepIn K (.ref f_check_far) = true)
 (a_day_of_doubt : PySem.W.nsIn K mainGlobals "day_of_doubt" = some (some (.ref f_day_of_doubt)))
 (l_day_of_doubt : K.lookup f_day_of_doubt = some ⟨oc_day_of_doubt, od_day_of_doubt, .func (PySem.W.fnOf "day_of_doubt" "day_of_doubt" (defArgs s_day_of_doubt) (defBody s_day_of_doubt) (defScope s_day_of_doubt) .none kV_day_of_doubt dc_day_of_doubt pm_day_of_doubt an_day_of_doubt cd_day_of_doubt ct_day_of_doubt), sl_day_of_doubt⟩)
 (e_day_of_doubt : PySem.W.codeIn K cd_day_of_doubt "day_of_doubt" = true)
 (k_day_of_doubt : PySem.W.keepIn K (.ref f_day_of_doubt) = true)
 (a__law_pool : PySem.W.nsIn K mainGlobals "_law_pool" = some (some (.ref f__law_pool)))
 (l__law_pool : K.lookup f__law_pool = some ⟨oc__law_pool, od__law_pool, .func (PySem.W.fnOf "_law_pool" "_law_pool" (defArgs s__law_pool) (defBody s__law_pool) (defScope s__law_pool) .none kV__law_pool dc__law_pool pm__law_pool an__law_pool cd__law_pool ct__law_pool), sl__law_pool⟩)
 (e__law_pool : PySem.W.codeIn K cd__law_pool "_law_pool" = true)
 (k__law_pool : PySem.W.keepIn K (.ref f__law_pool) = true)
 (a__law_take : PySem.W.nsIn K mainGlobals "_law_take" = some (some (.ref f__law_take)))
 (l__law_take : K.lookup f__law_take = some ⟨oc__law_take, od__law_take, .func (PySem.W.fnOf "_law_take" "_law_take" (defArgs s__law_take) (defBody s__law_take) (defScope s__law_take) .none kV__law_take dc__law_take pm__law_take an__law_take cd__law_take ct__law_take), sl__law_take⟩)
 (e__law_take : PySem.W.codeIn K cd__law_take "_law_take" = true)
 (k__law_take : PySem.W.keepIn K (.ref f__law_take) = true)
 (a__law_of : PySem.W.nsIn K mainGlobals "_law_of" = some (some (.ref f__law_of)))
 (l__law_of : K.lookup f__law_of = some ⟨oc__law_of, od__law_of, .func (PySem.W.fnOf "_law_of" "_law_of" (defArgs s__law_of) (defBody s__law_of) (defScope s__law_of) .none kV__law_of dc__law_of pm__law_of an__law_of cd__law_of ct__law_of), sl__law_of⟩)
 (e__law_of : PySem.W.codeIn K cd__law_of "_law_of" = true)
 (k__law_of : PySem.W.keepIn K (.ref f__law_of) = true)
 (a__law_lowest : PySem.W.nsIn K mainGlobals "_law_lowest" = some (some (.ref f__law_lowest)))
 (l__law_lowest : K.lookup f__law_lowest = some ⟨oc__law_lowest, od__law_lowest, .func (PySem.W.fnOf "_law_lowest" "_law_lowest" (defArgs s__law_lowest) (defBody s__law_lowest) (defScope s__law_lowest) .none kV__law_lowest dc__law_lowest pm__law_lowest an__law_lowest cd__law_lowest ct__law_lowest), sl__law_lowest⟩)
 (e__law_lowest : PySem.W.codeIn K cd__law_lowest "_law_lowest" = true)
 (k__law_lowest : PySem.W.keepIn K (.ref f__law_lowest) = true)
 (a__law_pace : PySem.W.nsIn K mainGlobals "_law_pace" = some (some (.ref f__law_pace)))
 (l__law_pace : K.lookup f__law_pace = some ⟨oc__law_pace, od__law_pace, .func (PySem.W.fnOf "_law_pace" "_law_pace" (defArgs s__law_pace) (defBody s__law_pace) (defScope s__law_pace) .none kV__law_pace dc__law_pace pm__law_pace an__law_pace cd__law_pace ct__law_pace), sl__law_pace⟩)
 (e__law_pace : PySem.W.codeIn K cd__law_pace "_law_pace" = true)
 (k__law_pace : PySem.W.keepIn K (.ref f__law_pace) = true)
 (a__law_phase : PySem.W.nsIn K mainGlobals "_law_phase" = some (some (.ref f__law_phase)))
 (l__law_phase : K.lookup f__law_phase = some ⟨oc__law_phase, od__law_phase, .func (PySem.W.fnOf "_law_phase" "_law_phase" (defArgs s__law_phase) (defBody s__law_phase) (defScope s__law_phase) .none kV__law_phase dc__law_phase pm__law_phase an__law_phase cd__law_phase ct__law_phase), sl__law_phase⟩)
 (e__law_phase : PySem.W.codeIn K cd__law_phase "_law_phase" = true)
 (k__law_phase : PySem.W.keepIn K (.ref f__law_phase) = true)
 (a__law_sum : PySem.W.nsIn K mainGlobals "_law_sum" = some (some (.ref f__law_sum)))
 (l__law_sum : K.lookup f__law_sum = some ⟨oc__law_sum, od__law_sum, .func (PySem.W.fnOf "_law_sum" "_law_sum" (defArgs s__law_sum) (defBody s__law_sum) (defScope s__law_sum) .none kV__law_sum dc__law_sum pm__law_sum an__law_sum cd__law_sum ct__law_sum), sl__law_sum⟩)
 (e__law_sum : PySem.W.codeIn K cd__law_sum "_law_sum" = true)
 (k__law_sum : PySem.W.keepIn K (.ref f__law_sum) = true)
 (a__law_parted : PySem.W.nsIn K mainGlobals "_law_parted" = some (some (.ref f__law_parted)))
 (l__law_parted : K.lookup f__law_parted = some ⟨oc__law_parted, od__law_parted, .func (PySem.W.fnOf "_law_parted" "_law_parted" (defArgs s__law_parted) (defBody s__law_parted) (defScope s__law_parted) .none kV__law_parted dc__law_parted pm__law_parted an__law_parted cd__law_parted ct__law_parted), sl__law_parted⟩)
 (e__law_parted : PySem.W.codeIn K cd__law_parted "_law_parted" = true)
 (k__law_parted : PySem.W.keepIn K (.ref f__law_parted) = true)
 (a__law_two : PySem.W.nsIn K mainGlobals "_law_two" = some (some (.ref f__law_two)))
 (l__law_two : K.lookup f__law_two = some ⟨oc__law_two, od__law_two, .func (PySem.W.fnOf "_law_two" "_law_two" (defArgs s__law_two) (defBody s__law_two) (defScope s__law_two) .none kV__law_two dc__law_two pm__law_two an__law_two cd__law_two ct__law_two), sl__law_two⟩)
 (e__law_two : PySem.W.codeIn K cd__law_two "_law_two" = true)
 (k__law_two : PySem.W.keepIn K (.ref f__law_two) = true)
 (a__law_doubt : PySem.W.nsIn K mainGlobals "_law_doubt" = some (some (.ref f__law_doubt)))
 (l__law_doubt : K.lookup f__law_doubt = some ⟨oc__law_doubt, od__law_doubt, .func (PySem.W.fnOf "_law_doubt" "_law_doubt" (defArgs s__law_doubt) (defBody s__law_doubt) (defScope s__law_doubt) .none kV__law_doubt dc__law_doubt pm__law_doubt an__law_doubt cd__law_doubt ct__law_doubt), sl__law_doubt⟩)
 (e__law_doubt : PySem.W.codeIn K cd__law_doubt "_law_doubt" = true)
 (k__law_doubt : PySem.W.keepIn K (.ref f__law_doubt) = true)
 (a__law_right : PySem.W.nsIn K mainGlobals "_law_right" = some (some (.ref f__law_right)))
 (l__law_right : K.lookup f__law_right = some ⟨oc__law_right, od__law_right, .func (PySem.W.fnOf "_law_right" "_law_right" (defArgs s__law_right) (defBody s__law_right) (defScope s__law_right) .none kV__law_right dc__law_right pm__law_right an__law_right cd__law_right ct__law_right), sl__law_right⟩)
 (e__law_right : PySem.W.codeIn K cd__law_right "_law_right" = true)
 (k__law_right : PySem.W.keepIn K (.ref f__law_right) = true)
 (a_law : PySem.W.nsIn K mainGlobals "law" = some (some (.ref f_law)))
 (l_law : K.lookup f_law = some ⟨oc_law, od_law, .func (PySem.W.fnOf "law" "law" (defArgs s_law) (defBody s_law) (defScope s_law) .none kV_law dc_law pm_law an_law cd_law ct_law), sl_law⟩)
 (e_law : PySem.W.codeIn K cd_law "law" = true)
 (k_law : PySem.W.keepIn K (.ref f_law) = true)
 (x_isinstance : PySem.W.nsIn K mainGlobals "isinstance" = some none)
 (x_int : PySem.W.nsIn K mainGlobals "int" = some none)
 (x_bool : PySem.W.nsIn K mainGlobals "bool" = some none)
 (x_tuple : PySem.W.nsIn K mainGlobals "tuple" = some none)
 (x_len : PySem.W.nsIn K mainGlobals "len" = some none)
 (x_gcd : PySem.W.nsIn K mainGlobals "gcd" = some (some (.builtin "math.gcd")))
 (x_abs : PySem.W.nsIn K mainGlobals "abs" = some none)
 (x_max : PySem.W.nsIn K mainGlobals "max" = some none)
 (x_min : PySem.W.nsIn K mainGlobals "min" = some none)
 (x_range : PySem.W.nsIn K mainGlobals "range" = some none)
 (x_sum : PySem.W.nsIn K mainGlobals "sum" = some none)
 (x_divmod : PySem.W.nsIn K mainGlobals "divmod" = some none)
 (x_list : PySem.W.nsIn K mainGlobals "list" = some none)
 (x_repr : PySem.W.nsIn K mainGlobals "repr" = some none)
 (x_all : PySem.W.nsIn K mainGlobals "all" = some none)
 (x_MOST_UNDER : PySem.W.nsIn K mainGlobals "MOST_UNDER" = some (some u_MOST_UNDER))
 (y_MOST_UNDER : RelV (.int 999999) u_MOST_UNDER)
 (x_MOST_FAR : PySem.W.nsIn K mainGlobals "MOST_FAR" = some (some u_MOST_FAR))
 (y_MOST_FAR : RelV (.int 99) u_MOST_FAR)
 (x_LAST_MONTH : PySem.W.nsIn K mainGlobals "LAST_MONTH" = some (some u_LAST_MONTH))
 (y_LAST_MONTH : RelV (.int 99999) u_LAST_MONTH) :
 ∃ fd : FuncData, (∀ (s : Shared) (v : Value), BindsTo s fd ⟨[v], []⟩ [("script", v)]) ∧ ∀ base : Heap, K.In base → base.Ns mainGlobals mg → FnG l.prog w K mg base 11 fa fd ["script"] (spD K 1 m_law) := by
 have e := hfa.symm.trans (PySem.W.mg_of X G a_law)
 cases e
 refine ⟨PySem.W.fnOf "law" "law" (defArgs s_law) (defBody s_law) (defScope s_law) .none kV_law dc_law pm_law an_law cd_law ct_law, fun s v => .of_eq rfl, fun base _ _ => ?_⟩
 have z_isinstance := PySem.W.mg_none_of X G x_isinstance
 have z_int := PySem.W.mg_none_of X G x_int
 have z_bool := PySem.W.mg_none_of X G x_bool
 have z_tuple := PySem.W.mg_none_of X G x_tuple
 have z_len := PySem.W.mg_none_of X G x_len
 have z_gcd := PySem.W.mg_of X G x_gcd
 have z_abs := PySem.W.mg_none_of X G x_abs
 have z_max := PySem.W.mg_none_of X G x_max
 have z_min := PySem.W.mg_none_of X G x_min
 have z_range := PySem.W.mg_none_of X G x_range
 have z_sum := PySem.W.mg_none_of X G x_sum
 have z_divmod := PySem.W.mg_none_of X G x_divmod
 have z_list := PySem.W.mg_none_of X G x_list
 have z_repr := PySem.W.mg_none_of X G x_repr
 have z_all := PySem.W.mg_none_of X G x_all
 have v_MOST_UNDER := And.intro (PySem.W.mg_of X G x_MOST_UNDER) y_MOST_UNDER
 have v_MOST_FAR := And.intro (PySem.W.mg_of X G x_MOST_FAR) y_MOST_FAR
 have v_LAST_MONTH := And.intro (PySem.W.mg_of X G x_LAST_MONTH) y_LAST_MONTH
 have h_is_whole := fn_den (P := l.prog) (w := w) (mg := mg) (base := base) finV_ok l_is_whole e_is_whole n_is_whole (b_is_whole z_isinstance z_int z_bool)
 have c_is_whole_1 : Callee l.prog w K mg base "is_whole" 1 1 [] [0] [] m_is_whole := callee_mk h_is_whole (PySem.W.mg_of X G a_is_whole) k_is_whole (fun us ws h1 h2 => match us, ws, h1, h2 with | [_], [], _, _ => rfl) rfl
 have h_is_number := fn_den (P := l.prog) (w := w) (mg := mg) (base := base) finV_ok l_is_number e_is_number n_is_number (b_is_number c_is_whole_1)
 have c_is_number_1 : Callee l.prog w K mg base "is_number" 2 1 [] [0, 1, 2] [.int 0, .non] m_is_number := callee_dfl (d := 0) (dvs := [.int 0, .non]) h_is_number (PySem.W.mg_of X G a_is_number) k_is_number g_is_number w_is_number (fun _ _ => RpL.cons (by rw [Rp]) (RpL.cons (by rw [Rp]) (RpL.nil))) (fun us ws h1 h2 => match ti_is_number, w_is_number.length, us, ws, h1, h2 with | [_, _], _, [_], [], _, _ => ⟨_, rfl, rfl⟩) rfl
 have h_is_between := fn_den (P := l.prog) (w := w) (mg := mg) (base := base) finV_ok l_is_between e_is_between n_is_between (b_is_between c_is_whole_1)
 have c_is_between_3 : Callee l.prog w K mg base "is_between" 2 3 [] [0, 1, 2] [] m_is_between := callee_mk h_is_between (PySem.W.mg_of X G a_is_between) k_is_between (fun us ws h1 h2 => match us, ws, h1, h2 with | [_, _, _], [], _, _ => rfl) rfl
 have h_is_tuple_of := fn_den (P := l.prog) (w := w) (mg := mg) (base := base) finV_ok l_is_tuple_of e_is_tuple_of n_is_tuple_of (b_is_tuple_of z_isinstance z_tuple z_len)
 have c_is_tuple_of_2 : Callee l.prog w K mg base "is_tuple_of" 1 2 [] [0, 1] [] m_is_tuple_of := callee_mk h_is_tuple_of (PySem.W.mg_of X G a_is_tuple_of) k_is_tuple_of (fun us ws h1 h2 => match us, ws, h1, h2 with | [_, _], [], _, _ => rfl) rfl
 have h_is_fraction := fn_den (P := l.prog) (w := w) (mg := mg) (base := base) finV_ok l_is_fraction e_is_fraction n_is_fraction (b_is_fraction c_is_tuple_of_2 c_is_number_1 c_is_between_3 z_gcd v_MOST_UNDER)
 have c_is_fraction_1 : Callee l.prog w K mg base "is_fraction" 3 1 [] [0] [] m_is_fraction := callee_mk h_is_fraction (PySem.W.mg_of X G a_is_fraction) k_is_fraction (fun us ws h1 h2 => match us, ws, h1, h2 with | [_], [], _, _ => rfl) rfl
 have h_is_pace := fn_den (P := l.prog) (w := w) (mg := mg) (base := base) finV_ok l_is_pace e_is_pace n_is_pace (b_is_pace c_is_fraction_1)
 have c_is_pace_1 : Callee l.prog w K mg base "is_pace" 4 1 [] [0] [] m_is_pace := callee_mk h_is_pace (PySem.W.mg_of X G a_is_pace) k_is_pace (fun us ws h1 h2 => match us, ws, h1, h2 with | [_], [], _, _ => rfl) rfl
 have h_is_phase := fn_den (P := l.prog) (w := w) (mg := mg) (base := base) finV_ok l_is_phase e_is_phase n_is_phase (b_is_phase c_is_fraction_1)
 have c_is_phase_1 : Callee l.prog w K mg base "is_phase" 4 1 [] [0] [] m_is_phase := callee_mk h_is_phase (PySem.W.mg_of X G a_is_phase) k_is_phase (fun us ws h1 h2 => match us, ws, h1, h2 with | [_], [], _, _ => rfl) rfl
 have h_sum_by := fn_den (P := l.prog) (w := w) (mg := mg) (base := base) finV_ok l_sum_by e_sum_by n_sum_by (b_sum_by)
 have c_sum_by_3 : Callee l.prog w K mg base "sum_by" 1 3 [] [0, 1, 2] [] m_sum_by := callee_mk h_sum_by (PySem.W.mg_of X G a_sum_by) k_sum_by (fun us ws h1 h2 => match us, ws, h1, h2 with | [_, _, _], [], _, _ => rfl) rfl
 have h_is_calendar := fn_den (P := l.prog) (w := w) (mg := mg) (base := base) finV_ok l_is_calendar e_is_calendar n_is_calendar (b_is_calendar c_is_tuple_of_2 c_is_pace_1 c_is_phase_1)
 have c_is_calendar_1 : Callee l.prog w K mg base "is_calendar" 5 1 [] [0] [] m_is_calendar := callee_mk h_is_calendar (PySem.W.mg_of X G a_is_calendar) k_is_calendar (fun us ws h1 h2 => match us, ws, h1, h2 with | [_], [], _, _ => rfl) rfl
 have h_check_calendar := fn_den (P := l.prog) (w := w) (mg := mg) (base := base) finV_ok l_check_calendar e_check_calendar n_check_calendar (b_check_calendar c_is_calendar_1)
 have c_check_calendar_1 : Callee l.prog w K mg base "check_calendar" 6 1 [] [0] [] m_check_calendar := callee_mk h_check_calendar (PySem.W.mg_of X G a_check_calendar) k_check_calendar (fun us ws h1 h2 => match us, ws, h1, h2 with | [_], [], _, _ => rfl) rfl
 have h_is_far := fn_den (P := l.prog) (w := w) (mg := mg) (base := base) finV_ok l_is_far e_is_far n_is_far (b_is_far c_is_between_3 v_MOST_FAR)
 have c_is_far_1 : Callee l.prog w K mg base "is_far" 3 1 [] [0] [] m_is_far := callee_mk h_is_far (PySem.W.mg_of X G a_is_far) k_is_far (fun us ws h1 h2 => match us, ws, h1, h2 with | [_], [], _, _ => rfl) rfl
 have h_parting_by := fn_den (P := l.prog) (w := w) (mg := mg) (base := base) finV_ok l_parting_by e_parting_by n_parting_by (b_parting_by c_sum_by_3)
 have c_parting_by_3 : Callee l.prog w K mg base "parting_by" 2 3 [] [0, 1, 2] [] m_parting_by := callee_mk h_parting_by (PySem.W.mg_of X G a_parting_by) k_parting_by (fun us ws h1 h2 => match us, ws, h1, h2 with | [_, _, _], [], _, _ => rfl) rfl
 have h_drift := fn_den (P := l.prog) (w := w) (mg := mg) (base := base) finV_ok l_drift e_drift n_drift (b_drift z_abs)
 have c_drift_2 : Callee l.prog w K mg base "drift" 1 2 [] [0, 1] [] m_drift := callee_mk h_drift (PySem.W.mg_of X G a_drift) k_drift (fun us ws h1 h2 => match us, ws, h1, h2 with | [_, _], [], _, _ => rfl) rfl
 have h_doubt_by := fn_den (P := l.prog) (w := w) (mg := mg) (base := base) finV_ok l_doubt_by e_doubt_by n_doubt_by (b_doubt_by c_drift_2 c_parting_by_3 z_max z_min z_range z_abs v_LAST_MONTH)
 have c_doubt_by_3 : Callee l.prog w K mg base "doubt_by" 3 3 [] [0, 1, 2] [] m_doubt_by := callee_mk h_doubt_by (PySem.W.mg_of X G a_doubt_by) k_doubt_by (fun us ws h1 h2 => match us, ws, h1, h2 with | [_, _, _], [], _, _ => rfl) rfl
 have h_check_calendars := fn_den (P := l.prog) (w := w) (mg := mg) (base := base) finV_ok l_check_calendars e_check_calendars n_check_calendars (b_check_calendars c_check_calendar_1)
 have c_check_calendars_2 : Callee l.prog w K mg base "check_calendars" 7 2 [] [0, 1] [] m_check_calendars := callee_mk h_check_calendars (PySem.W.mg_of X G a_check_calendars) k_check_calendars (fun us ws h1 h2 => match us, ws, h1, h2 with | [_, _], [], _, _ => rfl) rfl
 have h_check_far := fn_den (P := l.prog) (w := w) (mg := mg) (base := base) finV_ok l_check_far e_check_far n_check_far (b_check_far c_check_calendars_2 c_is_far_1)
 have c_check_far_3 : Callee l.prog w K mg base "check_far" 8 3 [] [0, 1, 2] [] m_check_far := callee_mk h_check_far (PySem.W.mg_of X G a_check_far) k_check_far (fun us ws h1 h2 => match us, ws, h1, h2 with | [_, _, _], [], _, _ => rfl) rfl
 have h_day_of_doubt := fn_den (P := l.prog) (w := w) (mg := mg) (base := base) finV_ok l_day_of_doubt e_day_of_doubt n_day_of_doubt (b_day_of_doubt c_check_far_3 c_doubt_by_3)
 have c_day_of_doubt_3 : Callee l.prog w K mg base "day_of_doubt" 9 3 [] [0, 1, 2] [] m_day_of_doubt := callee_mk h_day_of_doubt (PySem.W.mg_of X G a_day_of_doubt) k_day_of_doubt (fun us ws h1 h2 => match us, ws, h1, h2 with | [_, _, _], [], _, _ => rfl) rfl
 have c_day_of_doubt_0_far_other_one : Callee l.prog w K mg base "day_of_doubt" 9 0 ["far", "other", "one"] [2, 1, 0] [] m_day_of_doubt := callee_mk h_day_of_doubt (PySem.W.mg_of X G a_day_of_doubt) k_day_of_doubt (fun us ws h1 h2 => match us, ws, h1, h2 with | [], [_, _, _], _, _ => rfl) rfl
 have h__law_pool := fn_den (P := l.prog) (w := w) (mg := mg) (base := base) finR_ok l__law_pool e__law_pool n__law_pool (b__law_pool z_sum z_abs)
 have c__law_pool_2 : Callee l.prog w K mg base "_law_pool" 1 2 [] [0, 1] [] m__law_pool := callee_mk h__law_pool (PySem.W.mg_of X G a__law_pool) k__law_pool (fun us ws h1 h2 => match us, ws, h1, h2 with | [_, _], [], _, _ => rfl) rfl
 have h__law_take := fn_den (P := l.prog) (w := w) (mg := mg) (base := base) finV_ok l__law_take e__law_take n__law_take (b__law_take z_divmod)
 have c__law_take_2 : Callee l.prog w K mg base "_law_take" 1 2 [] [0, 1] [] m__law_take := callee_mk h__law_take (PySem.W.mg_of X G a__law_take) k__law_take (fun us ws h1 h2 => match us, ws, h1, h2 with | [_, _], [], _, _ => rfl) rfl
 have h__law_of := fn_den (P := l.prog) (w := w) (mg := mg) (base := base) finV_ok l__law_of e__law_of n__law_of (b__law_of c__law_take_2 z_len)
 have c__law_of_2 : Callee l.prog w K mg base "_law_of" 2 2 [] [0, 1] [] m__law_of := callee_mk h__law_of (PySem.W.mg_of X G a__law_of) k__law_of (fun us ws h1 h2 => match us, ws, h1, h2 with | [_, _], [], _, _ => rfl) rfl
 have h__law_lowest := fn_den (P := l.prog) (w := w) (mg := mg) (base := base) finV_ok l__law_lowest e__law_lowest n__law_lowest (b__law_lowest)
 have c__law_lowest_2 : Callee l.prog w K mg base "_law_lowest" 1 2 [] [0, 1] [] m__law_lowest := callee_mk h__law_lowest (PySem.W.mg_of X G a__law_lowest) k__law_lowest (fun us ws h1 h2 => match us, ws, h1, h2 with | [_, _], [], _, _ => rfl) rfl
 have h__law_pace := fn_den (P := l.prog) (w := w) (mg := mg) (base := base) finV_ok l__law_pace e__law_pace n__law_pace (b__law_pace c__law_of_2 c__law_lowest_2 c__law_take_2)
 have c__law_pace_1 : Callee l.prog w K mg base "_law_pace" 3 1 [] [0] [] m__law_pace := callee_mk h__law_pace (PySem.W.mg_of X G a__law_pace) k__law_pace (fun us ws h1 h2 => match us, ws, h1, h2 with | [_], [], _, _ => rfl) rfl
 have h__law_phase := fn_den (P := l.prog) (w := w) (mg := mg) (base := base) finV_ok l__law_phase e__law_phase n__law_phase (b__law_phase c__law_of_2 c__law_lowest_2 c__law_take_2)
 have c__law_phase_1 : Callee l.prog w K mg base "_law_phase" 3 1 [] [0] [] m__law_phase := callee_mk h__law_phase (PySem.W.mg_of X G a__law_phase) k__law_phase (fun us ws h1 h2 => match us, ws, h1, h2 with | [_], [], _, _ => rfl) rfl
 have h__law_sum := fn_den (P := l.prog) (w := w) (mg := mg) (base := base) finV_ok l__law_sum e__law_sum n__law_sum (b__law_sum)
 have c__law_sum_3 : Callee l.prog w K mg base "_law_sum" 1 3 [] [0, 1, 2] [] m__law_sum := callee_mk h__law_sum (PySem.W.mg_of X G a__law_sum) k__law_sum (fun us ws h1 h2 => match us, ws, h1, h2 with | [_, _, _], [], _, _ => rfl) rfl
 have h__law_parted := fn_den (P := l.prog) (w := w) (mg := mg) (base := base) finV_ok l__law_parted e__law_parted n__law_parted (b__law_parted c__law_sum_3)
 have c__law_parted_3 : Callee l.prog w K mg base "_law_parted" 2 3 [] [0, 1, 2] [] m__law_parted := callee_mk h__law_parted (PySem.W.mg_of X G a__law_parted) k__law_parted (fun us ws h1 h2 => match us, ws, h1, h2 with | [_, _, _], [], _, _ => rfl) rfl
 have h__law_two := fn_den (P := l.prog) (w := w) (mg := mg) (base := base) finV_ok l__law_two e__law_two n__law_two (b__law_two c__law_phase_1 c__law_pace_1 c__law_take_2)
 have c__law_two_1 : Callee l.prog w K mg base "_law_two" 4 1 [] [0] [] m__law_two := callee_mk h__law_two (PySem.W.mg_of X G a__law_two) k__law_two (fun us ws h1 h2 => match us, ws, h1, h2 with | [_], [], _, _ => rfl) rfl
 have h__law_doubt := fn_den (P := l.prog) (w := w) (mg := mg) (base := base) finV_ok l__law_doubt e__law_doubt n__law_doubt (b__law_doubt c__law_parted_3 z_abs z_list z_range)
 have c__law_doubt_3 : Callee l.prog w K mg base "_law_doubt" 3 3 [] [0, 1, 2] [] m__law_doubt := callee_mk h__law_doubt (PySem.W.mg_of X G a__law_doubt) k__law_doubt (fun us ws h1 h2 => match us, ws, h1, h2 with | [_, _, _], [], _, _ => rfl) rfl
 have h__law_right := fn_den (P := l.prog) (w := w) (mg := mg) (base := base) finV_ok l__law_right e__law_right n__law_right (b__law_right c__law_two_1 c__law_lowest_2 c__law_take_2 c__law_doubt_3 c_day_of_doubt_3 c_day_of_doubt_0_far_other_one z_repr)
 have c__law_right_1 : Callee l.prog w K mg base "_law_right" 10 1 [] [0] [] m__law_right := callee_mk h__law_right (PySem.W.mg_of X G a__law_right) k__law_right (fun us ws h1 h2 => match us, ws, h1, h2 with | [_], [], _, _ => rfl) rfl
 exact fn_den finV_ok l_law e_law n_law (b_law c__law_pool_2 c__law_right_1 z_len z_min z_max z_range z_all)
end DL
open PySem PySem.W PyProof.Rows in
set_option maxHeartbeats 0 in
theorem PySem.Challenge.cw_moonmonths_k42_days_of_doubt_holds : PySem.Challenge.rw_moonmonths_k42_days_of_doubt.Holds := by
 w_on; o_law; k_head; (case hw => w_witness2)
 k_fill
 refine DL.enter (l := PySem.Challenge.rw_moonmonths_k42_days_of_doubt) (n := 63) (k := 11) (x := "script") (mf := DL.m_law) rfl (by decide) rfl ⟨rfl, by decide, by decide⟩ (fun w h Y => PySem.W.kIn_of Y) DL.law_true ?F
 case F =>
  intro w mg fa h KX G hmg
  refine' DL.all_mk KX G hmg ?a_is_whole ?l_is_whole ?e_is_whole ?k_is_whole ?a_is_number ?l_is_number ?e_is_number ?k_is_number ?g_is_number ?w_is_number ?a_is_between ?l_is_between ?e_is_between ?k_is_between ?a_is_tuple_of ?l_is_tuple_of ?e_is_tuple_of ?k_is_tuple_of ?a_is_fraction ?l_is_fraction ?e_is_fraction ?k_is_fraction ?a_is_pace ?l_is_pace ?e_is_pace ?k_is_pace ?a_is_phase ?l_is_phase ?e_is_phase ?k_is_phase ?a_sum_by ?l_sum_by ?e_sum_by ?k_sum_by ?a_is_calendar ?l_is_calendar ?e_is_calendar ?k_is_calendar ?a_check_calendar ?l_check_calendar ?e_check_calendar ?k_check_calendar ?a_is_far ?l_is_far ?e_is_far ?k_is_far ?a_parting_by ?l_parting_by ?e_parting_by ?k_parting_by ?a_drift ?l_drift ?e_drift ?k_drift ?a_doubt_by ?l_doubt_by ?e_doubt_by ?k_doubt_by ?a_check_calendars ?l_check_calendars ?e_check_calendars ?k_check_calendars ?a_check_far ?l_check_far ?e_check_far ?k_check_far ?a_day_of_doubt ?l_day_of_doubt ?e_day_of_doubt ?k_day_of_doubt ?a__law_pool ?l__law_pool ?e__law_pool ?k__law_pool ?a__law_take ?l__law_take ?e__law_take ?k__law_take ?a__law_of ?l__law_of ?e__law_of ?k__law_of ?a__law_lowest ?l__law_lowest ?e__law_lowest ?k__law_lowest ?a__law_pace ?l__law_pace ?e__law_pace ?k__law_pace ?a__law_phase ?l__law_phase ?e__law_phase ?k__law_phase ?a__law_sum ?l__law_sum ?e__law_sum ?k__law_sum ?a__law_parted ?l__law_parted ?e__law_parted ?k__law_parted ?a__law_two ?l__law_two ?e__law_two ?k__law_two ?a__law_doubt ?l__law_doubt ?e__law_doubt ?k__law_doubt ?a__law_right ?l__law_right ?e__law_right ?k__law_right ?a_law ?l_law ?e_law ?k_law ?x_isinstance ?x_int ?x_bool ?x_tuple ?x_len ?x_gcd ?x_abs ?x_max ?x_min ?x_range ?x_sum ?x_divmod ?x_list ?x_repr ?x_all ?x_MOST_UNDER ?y_MOST_UNDER ?x_MOST_FAR ?y_MOST_FAR ?x_LAST_MONTH ?y_LAST_MONTH
  (case a_is_whole => k_is)
  (case l_is_whole => k_is)
  (case e_is_whole => k_is)
  (case k_is_whole => k_is)
  (case a_is_number => k_is)
  (case l_is_number => k_is)
  (case e_is_number => k_is)
  (case k_is_number => k_is)
  (case g_is_number => k_is)
  (case w_is_number => exact .cons ⟨_, rfl⟩ (.cons rfl (.nil)))
  (case a_is_between => k_is)
  (case l_is_between => k_is)
  (case e_is_between => k_is)
  (case k_is_between => k_is)
  (case a_is_tuple_of => k_is)
  (case l_is_tuple_of => k_is)
  (case e_is_tuple_of => k_is)
  (case k_is_tuple_of => k_is)
  (case a_is_fraction => k_is)
  (case l_is_fraction => k_is)
  (case e_is_fraction => k_is)
  (case k_is_fraction => k_is)
  (case a_is_pace => k_is)
  (case l_is_pace => k_is)
  (case e_is_pace => k_is)
  (case k_is_pace => k_is)
  (case a_is_phase => k_is)
  (case l_is_phase => k_is)
  (case e_is_phase => k_is)
  (case k_is_phase => k_is)
  (case a_sum_by => k_is)
  (case l_sum_by => k_is)
  (case e_sum_by => k_is)
  (case k_sum_by => k_is)
  (case a_is_calendar => k_is)
  (case l_is_calendar => k_is)
  (case e_is_calendar => k_is)
  (case k_is_calendar => k_is)
  (case a_check_calendar => k_is)
  (case l_check_calendar => k_is)
  (case e_check_calendar => k_is)
  (case k_check_calendar => k_is)
  (case a_is_far => k_is)
  (case l_is_far => k_is)
  (case e_is_far => k_is)
  (case k_is_far => k_is)
  (case a_parting_by => k_is)
  (case l_parting_by => k_is)
  (case e_parting_by => k_is)
  (case k_parting_by => k_is)
  (case a_drift => k_is)
  (case l_drift => k_is)
  (case e_drift => k_is)
  (case k_drift => k_is)
  (case a_doubt_by => k_is)
  (case l_doubt_by => k_is)
  (case e_doubt_by => k_is)
  (case k_doubt_by => k_is)
  (case a_check_calendars => k_is)
  (case l_check_calendars => k_is)
  (case e_check_calendars => k_is)
  (case k_check_calendars => k_is)
  (case a_check_far => k_is)
  (case l_check_far => k_is)
  (case e_check_far => k_is)
  (case k_check_far => k_is)
  (case a_day_of_doubt => k_is)
  (case l_day_of_doubt => k_is)
  (case e_day_of_doubt => k_is)
  (case k_day_of_doubt => k_is)
  (case a__law_pool => k_is)
  (case l__law_pool => k_is)
  (case e__law_pool => k_is)
  (case k__law_pool => k_is)
  (case a__law_take => k_is)
  (case l__law_take => k_is)
  (case e__law_take => k_is)
  (case k__law_take => k_is)
  (case a__law_of => k_is)
  (case l__law_of => k_is)
  (case e__law_of => k_is)
  (case k__law_of => k_is)
  (case a__law_lowest => k_is)
  (case l__law_lowest => k_is)
  (case e__law_lowest => k_is)
  (case k__law_lowest => k_is)
  (case a__law_pace => k_is)
  (case l__law_pace => k_is)
  (case e__law_pace => k_is)
  (case k__law_pace => k_is)
  (case a__law_phase => k_is)
  (case l__law_phase => k_is)
  (case e__law_phase => k_is)
  (case k__law_phase => k_is)
  (case a__law_sum => k_is)
  (case l__law_sum => k_is)
  (case e__law_sum => k_is)
  (case k__law_sum => k_is)
  (case a__law_parted => k_is)
  (case l__law_parted => k_is)
  (case e__law_parted => k_is)
  (case k__law_parted => k_is)
  (case a__law_two => k_is)
  (case l__law_two => k_is)
  (case e__law_two => k_is)
  (case k__law_two => k_is)
  (case a__law_doubt => k_is)
  (case l__law_doubt => k_is)
  (case e__law_doubt => k_is)
  (case k__law_doubt => k_is)
  (case a__law_right => k_is)
  (case l__law_right => k_is)
  (case e__law_right => k_is)
  (case k__law_right => k_is)
  (case a_law => k_is)
  (case l_law => k_is)
  (case e_law => k_is)
  (case k_law => k_is)
  (case x_isinstance => k_is)
  (case x_int => k_is)
  (case x_bool => k_is)
  (case x_tuple => k_is)
  (case x_len => k_is)
  (case x_gcd => k_is)
  (case x_abs => k_is)
  (case x_max => k_is)
  (case x_min => k_is)
  (case x_range => k_is)
  (case x_sum => k_is)
  (case x_divmod => k_is)
  (case x_list => k_is)
  (case x_repr => k_is)
  (case x_all => k_is)
  (case x_MOST_UNDER => k_is)
  (case y_MOST_UNDER => exact ⟨_, rfl⟩)
  (case x_MOST_FAR => k_is)
  (case y_MOST_FAR => exact ⟨_, rfl⟩)
  (case x_LAST_MONTH => k_is)
  (case y_LAST_MONTH => exact ⟨_, rfl⟩)
