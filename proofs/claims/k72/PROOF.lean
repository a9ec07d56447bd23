import PyProof.Rows.All
import Wide.All
import OpenK.AllK
import Wide.FinOn
import HandS.ForMost
import HandS.ForExc
import HandS.Flow
import HandS.More
import HandS.Wide
import HandS.TupAny
import HandS.TupMul
import HandS.Style
import HandS.OwnEq
import HandS.Zip
import HandS.FStr
import HandS.ExcInit
import HandS.TryMany
import HandS.Lambda
import HandS.Defaults
import HandS.Head0
import HandS.Head1
import HandS.Head2
import HandS.HeadEnd
import HandS.HeadHook1
import HandS.HeadHook2
import HandS.HeadHook4
import HandS.EndBits
import KE.KStateDown
import HandS.ExcField
import KE.DataEq
import PyProof.StrOps2
import HandS.Codes
import HandS.Text
import HandS.Dict
import HandS.RaiseMore
import PyProof.InstNe
import HandS.HeadWalk
import HandS.Conv
import KE.GoesEnum
import KE.GoesRaise
import HandS.SetFor
import HandS.SortInts
import HandS.SortRule
import HandS.Strs
import HandS.TupSets
import HandS.WordsDict
import PySem.Challenge.RW_lateststore_k72_program_texts_refused
section
set_option Elab.async false
set_option linter.all false
set_option maxRecDepth 100000
set_option maxHeartbeats 4000000
/-! DL0: pure data, mutable cells, outcomes, what they stand for in the abstract heap. -/
namespace DL
open PySem L2

/-- pure data; cell n: a mutable thing with identity; exc: a caught exception -/
inductive D where
  | non | bl (b : Bool) | int (i : Int) | str (s : PySem.Str)
  | tup (xs : List D) | lst (xs : List D) | obj (c : Nat) (fs : List D)
  | dic (ks : List Key) (vs : List D)
  | cell (n : Nat) | exc (c : Nat) (ks : List Nat) (fs : List D)
inductive Cell where
  | lst (xs : List D) | ins (c : Nat) (ks : List Nat) (fs : List D) | dic (ks : List Key) (vs : List D) | gone
/-- names of attributes, addresses of classes, the attributes of a frozen object in order; the exception that a suite holds -/
structure Tab where
  nm : Nat → PySem.Str
  ca : Nat → Addr
  od : Nat → List Nat
  xi : Option (Addr × Value × Option Addr) := none
  tb : List (Addr × PySem.Str) := []

/-- a list that is read, its object known to the slots -/
def SqX (K : PySem.W.Frag) (H : Hp) (a : Addr) (xs : List V) : Prop :=
  Rd H a (.lst xs) ∨ ∃ (its : Array Value) (n : Nat), K.lookup a = some { cls := .type "list", data := .seq its n } ∧ its.size ≤ sizeLine ∧ Vals xs its.toList
theorem SqX.l {K : PySem.W.Frag} {H : Hp} {a : Addr} {xs : List V} (h : SqX K H a xs) : SqL K H a xs := by
  rcases h with h | ⟨its, n, h1, h2, h3⟩
  · exact .inl h
  · exact .inr ⟨_, its, n, h1, rfl, rfl, rfl, h2, h3⟩
theorem SqX.of {K : PySem.W.Frag} {H : Hp} {a : Addr} {xs : List V} (h : H a = some (.lst xs)) : SqX K H a xs := .inl (.inl h)
theorem SqX.same {K : PySem.W.Frag} {I I' : Hp} {a : Addr} {vs : List V} (s : Same I I') (h : SqX K I a vs) : SqX K I' a vs := by
  rcases h with (h | ⟨o, h⟩) | h
  · exact .inl (.inl (s _ _ h))
  · exact .inl (.inr ⟨o, s _ _ h⟩)
  · exact .inr h
theorem SqX.lst {X : Cx} {pins : List (Addr × Obj)} {σ : St} {H : Hp} {s : Shared} {a : Addr} {xs : List V} (I : Inv X pins σ H s) (h : SqX X.K H a xs) :
    xs.length ≤ sizeLine ∧ ∃ (its : List Value) (n : Nat), Vals xs its ∧ xs.length = its.length ∧ s.heap.get? a = some { cls := .type "list", data := .seq its.toArray n } := by
  rcases h with h | ⟨its, n, h1, h2, h3⟩
  · obtain ⟨z, its, n, r, e⟩ := h.ok I.hok
    exact ⟨z, its, n, r, r.length, e⟩
  · refine ⟨?_, its.toList, n, h3, h3.length, ?_⟩
    · have e := h3.length
      simp only [Array.length_toList] at e
      omega
    · have e := I.kIn a _ h1
      simpa using e

mutual
def Rp (T : Tab) (K : PySem.W.Frag) (I : Hp) (m : List Addr) : D → V → Prop
  | .non, v => v = .non
  | .bl b, v => v = .bl b
  | .int i, v => v = .int i
  | .str s, v => v = .str s
  | .tup ds, v => ∃ a vs, v = .ref a ∧ SqT K I a vs ∧ RpL T K I m ds vs
  | .lst ds, v => ∃ a vs, v = .ref a ∧ SqX K I a vs ∧ RpL T K I m ds vs
  | .obj c ds, v => ∃ (a dx : Addr) (gs : List (PySem.Str × V)), v = .ref a ∧ I a = some (.ins (T.ca c) dx gs) ∧ gs.map (·.1) = (T.od c).map T.nm ∧ RpL T K I m ds (gs.map (·.2))
  | .dic ks ds, v => ∃ (a : Addr) (kvs : List (Key × V)), v = .ref a ∧ I a = some (.dK kvs) ∧ kvs.map (·.1) = ks ∧ RpL T K I m ds (kvs.map (·.2))
  | .cell n, v => ∃ a, m[n]? = some a ∧ v = .ref a
  | .exc c ks ds, v => ∃ (a : Addr) (od : Option Addr), T.xi = some (a, .ref (T.ca c), od) ∧ v = .ref a ∧
      ((od = none ∧ ks = [] ∧ ds = []) ∨ ∃ (d : Addr) (gs : List (PySem.Str × V)), od = some d ∧ I d = some (.xd gs) ∧ gs.map (·.1) = ks.map T.nm ∧ RpL T K I m ds (gs.map (·.2)))
def RpL (T : Tab) (K : PySem.W.Frag) (I : Hp) (m : List Addr) : List D → List V → Prop
  | [], vs => vs = []
  | d :: ds, vs => ∃ v r, vs = v :: r ∧ Rp T K I m d v ∧ RpL T K I m ds r
end

/-! ### limits, as words that nothing computes -/
def fits (n : Nat) : Prop := n ≤ sizeLine
def fitsL (n : Nat) : Prop := n < sizeLine
def in63 (k : Int) : Prop := -(2 ^ 63) ≤ k ∧ k < 2 ^ 63
def in63F (k : Int) (n : Nat) : Prop := -(2 ^ 63) ≤ k ∧ k < 2 ^ 63 ∧ n ≤ sizeLine
def in62 (i : Int) : Prop := -(2 ^ 62) ≤ i ∧ i < 2 ^ 62
def lo63 (k : Int) : Prop := -(2 ^ 63) ≤ k
def hi63 (k : Int) : Prop := k < 2 ^ 63
def hi63F (k : Int) (n : Nat) : Prop := k < 2 ^ 63 ∧ n ≤ sizeLine
def repOk (xs : List D) (k : Int) : Prop := xs ≠ [] ∧ 2 ≤ k ∧ k ≤ 1000 ∧ xs.length ≤ 1000
def few (n : Nat) : Prop := n < 1000
def le640 (n : Nat) : Prop := n ≤ 640
theorem limBig : (sizeLine : Nat) = 16777216 := by decide
theorem fits_of {n : Nat} (h : n ≤ 1000000) : fits n := by unfold fits; rw [limBig]; omega
theorem fitsL_of {n : Nat} (h : n ≤ 1000000) : fitsL n := by unfold fitsL; rw [limBig]; omega
theorem in63_of {k : Int} (h1 : -1000000000000 ≤ k) (h2 : k ≤ 1000000000000) : in63 k := by unfold in63; omega
theorem in63F_of {k : Int} {n : Nat} (h1 : -1000000000000 ≤ k) (h2 : k ≤ 1000000000000) (h3 : n ≤ 1000000) : in63F k n := by unfold in63F; rw [limBig]; omega
theorem in62_of {k : Int} (h1 : -1000000000000 ≤ k) (h2 : k ≤ 1000000000000) : in62 k := by unfold in62; omega
theorem lo63_of {k : Int} (h1 : -1000000000000 ≤ k) : lo63 k := by unfold lo63; omega
theorem hi63_of {k : Int} (h1 : k ≤ 1000000000000) : hi63 k := by unfold hi63; omega
theorem hi63F_of {k : Int} {n : Nat} (h1 : k ≤ 1000000000000) (h3 : n ≤ 1000000) : hi63F k n := by unfold hi63F; rw [limBig]; omega
theorem few_of {n : Nat} (h : n ≤ 900) : few n := by unfold few; omega
theorem le640_of {n : Nat} (h : n ≤ 640) : le640 n := h
section
variable {T : Tab} {K : PySem.W.Frag} {I I' H H' : Hp} {m m' : List Addr}
theorem SqT.same {a : Addr} {vs : List V} (s : Same I I') (h : SqT K I a vs) : SqT K I' a vs := by
  rcases h with (h | ⟨o, h⟩) | h
  · exact .inl (.inl (s _ _ h))
  · exact .inl (.inr ⟨o, s _ _ h⟩)
  · exact .inr h
theorem Rd.same {a : Addr} {u : HO} (s : Same I I') (h : Rd I a u) : Rd I' a u := by
  rcases h with h | ⟨o, h⟩
  · exact .inl (s _ _ h)
  · exact .inr ⟨o, s _ _ h⟩
theorem pre_get {m m' : List Addr} {n : Nat} {a : Addr} (p : m <+: m') (h : m[n]? = some a) : m'[n]? = some a := by
  obtain ⟨r, rfl⟩ := p
  have hn : n < m.length := (List.getElem?_eq_some_iff.mp h).1
  rw [List.getElem?_append_left hn]; exact h
mutual
theorem Rp.mono (s : Same I I') (p : m <+: m') : ∀ {d : D} {v : V}, Rp T K I m d v → Rp T K I' m' d v
  | .non, _, h => h
  | .bl _, _, h => h
  | .int _, _, h => h
  | .str _, _, h => h
  | .tup ds, v, h => by
    unfold Rp at h ⊢
    obtain ⟨a, vs, e, q, r⟩ := h
    exact ⟨a, vs, e, SqT.same s q, RpL.mono s p r⟩
  | .lst ds, v, h => by
    unfold Rp at h ⊢
    obtain ⟨a, vs, e, q, r⟩ := h
    exact ⟨a, vs, e, SqX.same s q, RpL.mono s p r⟩
  | .obj c ds, v, h => by
    unfold Rp at h ⊢
    obtain ⟨a, dx, gs, e, q, k, r⟩ := h
    exact ⟨a, dx, gs, e, s _ _ q, k, RpL.mono s p r⟩
  | .dic ks ds, v, h => by
    unfold Rp at h ⊢
    obtain ⟨a, gs, e, q, k, r⟩ := h
    exact ⟨a, gs, e, s _ _ q, k, RpL.mono s p r⟩
  | .cell n, v, h => by
    unfold Rp at h ⊢
    obtain ⟨a, e, q⟩ := h
    exact ⟨a, pre_get p e, q⟩
  | .exc c ks ds, v, h => by
    unfold Rp at h ⊢
    obtain ⟨a, od, e, q, r⟩ := h
    refine ⟨a, od, e, q, ?_⟩
    rcases r with r | ⟨d, gs, r1, r2, r3, r4⟩
    · exact .inl r
    · exact .inr ⟨d, gs, r1, s _ _ r2, r3, RpL.mono s p r4⟩
theorem RpL.mono (s : Same I I') (p : m <+: m') : ∀ {ds : List D} {vs : List V}, RpL T K I m ds vs → RpL T K I' m' ds vs
  | [], _, h => h
  | d :: ds, vs, h => by
    unfold RpL at h ⊢
    obtain ⟨v, r, e, q, k⟩ := h
    exact ⟨v, r, e, Rp.mono s p q, RpL.mono s p k⟩
end
end
end DL
end

section
set_option Elab.async false
set_option linter.all false
set_option maxRecDepth 100000
set_option maxHeartbeats 4000000
namespace DL
open PySem L2

section
variable {T : Tab} {K : PySem.W.Frag} {I I' H H' : Hp} {m m' : List Addr}
/-! ### lists of data -/
theorem RpL.length : ∀ {ds : List D} {vs : List V}, RpL T K I m ds vs → ds.length = vs.length
  | [], _, h => by unfold RpL at h; subst h; rfl
  | d :: ds, vs, h => by
    unfold RpL at h
    obtain ⟨v, r, rfl, _, k⟩ := h
    simp [RpL.length k]
theorem RpL.nil : RpL T K I m [] [] := by unfold RpL; rfl
theorem RpL.cons {d : D} {v : V} {ds : List D} {vs : List V} (h : Rp T K I m d v) (r : RpL T K I m ds vs) : RpL T K I m (d :: ds) (v :: vs) := by
  unfold RpL; exact ⟨v, vs, rfl, h, r⟩
theorem RpL.inv {d : D} {ds : List D} {vs : List V} (h : RpL T K I m (d :: ds) vs) : ∃ v r, vs = v :: r ∧ Rp T K I m d v ∧ RpL T K I m ds r := by
  unfold RpL at h; exact h
theorem RpL.inil {vs : List V} (h : RpL T K I m [] vs) : vs = [] := by unfold RpL at h; exact h
theorem RpL.get : ∀ {ds : List D} {vs : List V} {i : Nat} {d : D}, RpL T K I m ds vs → ds[i]? = some d → ∃ v, vs[i]? = some v ∧ Rp T K I m d v
  | [], _, _, _, _, e => by simp at e
  | d :: ds, vs, 0, x, h, e => by
    obtain ⟨v, r, rfl, q, k⟩ := h.inv
    simp at e; subst e
    exact ⟨v, rfl, q⟩
  | d :: ds, vs, i + 1, x, h, e => by
    obtain ⟨v, r, rfl, q, k⟩ := h.inv
    simpa using RpL.get (i := i) k (by simpa using e)
theorem RpL.getV {ds : List D} {vs : List V} {i : Nat} {v : V} (h : RpL T K I m ds vs) (e : vs[i]? = some v) : ∃ d, ds[i]? = some d ∧ Rp T K I m d v := by
  have hl := h.length
  have hi : i < vs.length := (List.getElem?_eq_some_iff.mp e).1
  have hd : ds[i]? = some (ds[i]'(by omega)) := by simp [hl, hi]
  obtain ⟨v', e', r⟩ := h.get hd
  rw [e] at e'; cases e'
  exact ⟨_, hd, r⟩
theorem RpL.append : ∀ {ds es : List D} {vs ws : List V}, RpL T K I m ds vs → RpL T K I m es ws → RpL T K I m (ds ++ es) (vs ++ ws)
  | [], _, _, _, h, k => by have e := h.inil; subst e; exact k
  | d :: ds, _, vs, _, h, k => by
    obtain ⟨v, r, rfl, q, h'⟩ := h.inv
    exact RpL.cons q (RpL.append h' k)
theorem RpL.one {d : D} {v : V} (h : Rp T K I m d v) : RpL T K I m [d] [v] := RpL.cons h RpL.nil
theorem RpL.set : ∀ {ds : List D} {vs : List V} {i : Nat} {d : D} {v : V}, RpL T K I m ds vs → Rp T K I m d v → RpL T K I m (ds.set i d) (vs.set i v)
  | [], _, _, _, _, h, _ => by have e := h.inil; subst e; exact h
  | x :: ds, vs, 0, d, v, h, k => by
    obtain ⟨w, r, rfl, q, h'⟩ := h.inv
    exact RpL.cons k h'
  | x :: ds, vs, i + 1, d, v, h, k => by
    obtain ⟨w, r, rfl, q, h'⟩ := h.inv
    exact RpL.cons q (RpL.set h' k)
theorem RpL.take : ∀ {ds : List D} {vs : List V} {n : Nat}, RpL T K I m ds vs → RpL T K I m (ds.take n) (vs.take n)
  | [], vs, n, h => by have e := h.inil; subst e; simp; exact h
  | x :: ds, vs, 0, h => by simp; exact RpL.nil
  | x :: ds, vs, n + 1, h => by
    obtain ⟨w, r, rfl, q, h'⟩ := h.inv
    exact RpL.cons q (RpL.take h')
theorem RpL.drop : ∀ {ds : List D} {vs : List V} {n : Nat}, RpL T K I m ds vs → RpL T K I m (ds.drop n) (vs.drop n)
  | [], vs, n, h => by have e := h.inil; subst e; simp; exact h
  | x :: ds, vs, 0, h => by simp; exact h
  | x :: ds, vs, n + 1, h => by
    obtain ⟨w, r, rfl, q, h'⟩ := h.inv
    simpa using RpL.drop (n := n) h'
theorem RpL.reverse {ds : List D} : ∀ {vs : List V}, RpL T K I m ds vs → RpL T K I m ds.reverse vs.reverse := by
  induction ds with
  | nil => intro vs h; have e := h.inil; subst e; exact h
  | cons d ds ih =>
    intro vs h
    obtain ⟨w, r, rfl, q, h'⟩ := h.inv
    simp only [List.reverse_cons]
    exact (ih h').append (RpL.one q)

/-! ### cells and states -/
def CellR (T : Tab) (K : PySem.W.Frag) (I : Hp) (m : List Addr) : Cell → HO → Prop
  | .lst ds, .lst vs => RpL T K I m ds vs
  | .ins c ks ds, .ins C _ gs => C = T.ca c ∧ gs.map (·.1) = ks.map T.nm ∧ RpL T K I m ds (gs.map (·.2))
  | .dic ks ds, .dK kvs => kvs.map (·.1) = ks ∧ RpL T K I m ds (kvs.map (·.2))
  | _, _ => False
theorem CellR.mono (s : Same I I') (p : m <+: m') {c : Cell} {o : HO} (h : CellR T K I m c o) : CellR T K I' m' c o := by
  cases c <;> cases o <;> first | exact h.elim | exact RpL.mono s p h | exact ⟨h.1, h.2.1, RpL.mono s p h.2.2⟩ | exact ⟨h.1, RpL.mono s p h.2⟩

/-- the state: I, the part that stays; m, where the cells stand -/
structure SR (T : Tab) (K : PySem.W.Frag) (I : Hp) (m : List Addr) (cs : List Cell) (H : Hp) : Prop where
  same : Same I H
  len : m.length = cs.length
  at_ : ∀ (n : Nat) (c : Cell), cs[n]? = some c → c ≠ .gone → ∃ a o, m[n]? = some a ∧ I a = none ∧ H a = some o ∧ CellR T K I m c o
  inj : ∀ (n n' : Nat) (c c' : Cell) (a : Addr), cs[n]? = some c → c ≠ .gone → cs[n']? = some c' → c' ≠ .gone → m[n]? = some a → m[n']? = some a → n = n'
  tabs : LamX.Tabs T.tb H
  ntb : T.tb ≠ [] → ∀ (a : Addr) (ps : Array Value), I a ≠ some (.tbl ps)
theorem CellR.plain {c : Cell} {o : HO} (h : CellR T K I m c o) : (∀ ps, o ≠ .tbl ps) ∧ ∀ f, o ≠ .ext f := by
  cases c <;> cases o <;> first | exact h.elim | exact ⟨(fun _ z => nomatch z), (fun _ z => nomatch z)⟩
theorem tabs_upd {tb : List (Addr × PySem.Str)} {p : Addr} {o o0 : HO} (t : LamX.Tabs tb H) (e : H p = some o0) (h1 : ∀ ps, o0 ≠ .tbl ps) (h2 : ∀ f, o0 ≠ .ext f) : LamX.Tabs tb (L2.upd H p o) := fun q hq => by
  obtain ⟨ps, a1, a2, a3⟩ := t q hq
  have ne : ∀ {b : Addr} {u : HO}, H b = some u → u ≠ o0 → b ≠ p := fun {b u} eb d z => by
    rw [z, e] at eb
    exact d (Option.some.inj eb).symm
  refine ⟨ps, by rw [upd_ne (ne a1 fun z => h1 ps z.symm)]; exact a1, a2, fun pos cv hc => ?_⟩
  obtain ⟨c, e1, e2⟩ := a3 pos cv hc
  exact ⟨c, e1, by rw [upd_ne (ne e2 fun z => h2 _ z.symm)]; exact e2⟩
/-- the slots -/
structure ER (T : Tab) (K : PySem.W.Frag) (I : Hp) (m : List Addr) (env : List (Option D)) (σ : St) : Prop where
  len : env.length = σ.length
  at_ : ∀ (i : Nat) (d : D), env[i]? = some (some d) → ∃ v, σ[i]? = some (some v) ∧ Rp T K I m d v
theorem ER.mono (s : Same I I') (p : m <+: m') {env : List (Option D)} {σ : St} (h : ER T K I m env σ) : ER T K I' m' env σ :=
  ⟨h.len, fun i d e => let ⟨v, e', r⟩ := h.at_ i d e; ⟨v, e', r.mono s p⟩⟩
theorem ER.set {env : List (Option D)} {σ : St} (h : ER T K I m env σ) {i : Nat} {d : D} {v : V} (r : Rp T K I m d v) : ER T K I m (env.set i (some d)) (σ.set i (some v)) := by
  refine ⟨by simp [h.len], fun j x e => ?_⟩
  by_cases hj : i = j
  · subst hj
    by_cases hi : i < env.length
    · rw [List.getElem?_set_self hi] at e
      cases e
      exact ⟨v, List.getElem?_set_self (by rw [← h.len]; exact hi), r⟩
    · rw [List.getElem?_eq_none (by simpa using hi)] at e; cases e
  · rw [List.getElem?_set_ne hj] at e
    rw [List.getElem?_set_ne hj]
    exact h.at_ j x e
theorem ER.forget {env : List (Option D)} {σ : St} (h : ER T K I m env σ) {i : Nat} : ER T K I m (env.set i none) σ := by
  refine ⟨by simp [h.len], fun j x e => ?_⟩
  by_cases hj : i = j
  · subst hj
    by_cases hi : i < env.length
    · rw [List.getElem?_set_self hi] at e; cases e
    · rw [List.getElem?_eq_none (by simpa using hi)] at e; cases e
  · rw [List.getElem?_set_ne hj] at e
    exact h.at_ j x e
theorem ER.setN {env : List (Option D)} {σ : St} (h : ER T K I m env σ) {i : Nat} {w : Option V} : ER T K I m (env.set i none) (σ.set i w) := by
  refine ⟨by simp [h.len], fun j x e => ?_⟩
  by_cases hj : i = j
  · subst hj
    by_cases hi : i < env.length
    · rw [List.getElem?_set_self hi] at e; cases e
    · rw [List.getElem?_eq_none (by simpa using hi)] at e; cases e
  · rw [List.getElem?_set_ne hj] at e
    rw [List.getElem?_set_ne hj]
    exact h.at_ j x e

theorem Same.upd {p : Addr} {o : HO} (s : Same I H) (h : H p = none) : Same (upd I p o) (upd H p o) := fun b u e => by
  by_cases hb : b = p
  · subst hb; rw [upd_same] at e ⊢; exact e
  · rw [upd_ne hb] at e ⊢; exact s b u e
theorem Same.updR {p : Addr} {o : HO} (s : Same I H) (h : I p = none) : Same I (L2.upd H p o) := fun b u e => by
  have hb : b ≠ p := ne_of_none e h
  rw [upd_ne hb]; exact s b u e
theorem Same.updI {p : Addr} {o : HO} (h : I p = none) : Same I (L2.upd I p o) := fun b u e => by
  have hb : b ≠ p := ne_of_none e h
  rw [upd_ne hb]; exact e
/-- a new thing that stays -/
theorem SR.newI {cs : List Cell} {p : Addr} {o : HO} (s : SR T K I m cs H) (h : H p = none) (ho : ∀ ps, o ≠ .tbl ps := by intro _ z; cases z) : SR T K (L2.upd I p o) m cs (L2.upd H p o) ∧ Same I (L2.upd I p o) := by
  have hI : I p = none := s.same.free h
  refine ⟨⟨Same.upd s.same h, s.len, fun n c e l => ?_, s.inj, s.tabs.ext fun b u e => by rw [upd_ne (ne_of_none e h)]; exact e, fun ht b ps e => ?_⟩, Same.updI hI⟩
  rotate_left
  · by_cases hb : b = p
    · subst hb; rw [upd_same] at e; exact ho ps (Option.some.inj e)
    · rw [upd_ne hb] at e; exact s.ntb ht b ps e
  obtain ⟨a, u, e1, e2, e3, e4⟩ := s.at_ n c e l
  have hb : a ≠ p := ne_of_none e3 h
  exact ⟨a, u, e1, by rw [upd_ne hb]; exact e2, by rw [upd_ne hb]; exact e3, e4.mono (Same.updI hI) (List.prefix_refl _)⟩
theorem live_len {cs : List Cell} {n : Nat} {c : Cell} (e : cs[n]? = some c) : n < cs.length := (List.getElem?_eq_some_iff.mp e).1
/-- a new cell -/
theorem SR.newC {cs : List Cell} {p : Addr} {o : HO} {c : Cell} (s : SR T K I m cs H) (h : H p = none) (r : CellR T K I m c o) : SR T K I (m ++ [p]) (cs ++ [c]) (L2.upd H p o) := by
  have hI : I p = none := s.same.free h
  have old : ∀ {n : Nat} {x : Cell}, (cs ++ [c])[n]? = some x → n < cs.length → cs[n]? = some x := fun {n x} e hn => by rw [List.getElem?_append_left hn] at e; exact e
  have notP : ∀ {n : Nat} {x : Cell} {a : Addr}, cs[n]? = some x → x ≠ .gone → m[n]? = some a → a ≠ p := fun {n x a} e l ea q => by
    obtain ⟨a', u, e1, e2, e3, e4⟩ := s.at_ n x e l
    rw [ea] at e1; cases e1
    rw [q, h] at e3; cases e3
  have mold : ∀ {n : Nat}, n < cs.length → (m ++ [p])[n]? = m[n]? := fun {n} hn => List.getElem?_append_left (by rw [s.len]; exact hn)
  have mnew : (m ++ [p])[cs.length]? = some p := by rw [← s.len]; simp
  have new : ∀ {n : Nat} {x : Cell}, (cs ++ [c])[n]? = some x → ¬ n < cs.length → n = cs.length ∧ x = c := fun {n x} e hn => by
    have hn' := live_len e
    simp at hn'
    have : n = cs.length := by omega
    subst this
    simp at e
    exact ⟨rfl, e.symm⟩
  refine ⟨Same.updR s.same hI, by simp [s.len], fun n x e l => ?_, fun n n' x x' a e l e' l' ea ea' => ?_, s.tabs.ext fun b u e => by rw [upd_ne (ne_of_none e h)]; exact e, s.ntb⟩
  · by_cases hn : n < cs.length
    · obtain ⟨a, u, e1, e2, e3, e4⟩ := s.at_ n x (old e hn) l
      have hb : a ≠ p := notP (old e hn) l e1
      exact ⟨a, u, by rw [mold hn]; exact e1, e2, by rw [upd_ne hb]; exact e3, e4.mono (Same.refl I) (List.prefix_append _ _)⟩
    · obtain ⟨rfl, rfl⟩ := new e hn
      exact ⟨p, o, mnew, hI, upd_same, r.mono (Same.refl I) (List.prefix_append _ _)⟩
  · by_cases hn : n < cs.length
    · by_cases hn' : n' < cs.length
      · rw [mold hn] at ea; rw [mold hn'] at ea'
        exact s.inj n n' x x' a (old e hn) l (old e' hn') l' ea ea'
      · obtain ⟨rfl, rfl⟩ := new e' hn'
        rw [mold hn] at ea
        rw [mnew] at ea'
        cases ea'
        exact absurd rfl (notP (old e hn) l ea)
    · obtain ⟨rfl, rfl⟩ := new e hn
      by_cases hn' : n' < cs.length
      · rw [mold hn'] at ea'
        rw [mnew] at ea
        cases ea
        exact absurd rfl (notP (old e' hn') l' ea')
      · exact (new e' hn').1.symm
/-- a cell is written -/
theorem SR.setC {cs : List Cell} {n : Nat} {p : Addr} {o : HO} {c c0 : Cell} (s : SR T K I m cs H) (e0 : cs[n]? = some c0) (l0 : c0 ≠ .gone) (hp : m[n]? = some p) (r : CellR T K I m c o) : SR T K I m (cs.set n c) (L2.upd H p o) := by
  obtain ⟨p', u0, q1, q2, q3, q4⟩ := s.at_ n c0 e0 l0
  rw [hp] at q1; cases q1
  have hn : n < cs.length := live_len e0
  have at' : ∀ {k : Nat} {x : Cell}, (cs.set n c)[k]? = some x → (k = n ∧ x = c) ∨ (k ≠ n ∧ cs[k]? = some x) := fun {k x} e => by
    by_cases hk : n = k
    · subst hk
      rw [List.getElem?_set_self hn] at e; cases e
      exact .inl ⟨rfl, rfl⟩
    · rw [List.getElem?_set_ne hk] at e
      exact .inr ⟨fun q => hk q.symm, e⟩
  refine ⟨Same.updR s.same q2, by simp [s.len], fun k x e l => ?_, fun k k' x x' a e l e' l' ea ea' => ?_, tabs_upd s.tabs q3 q4.plain.1 q4.plain.2, s.ntb⟩
  · rcases at' e with ⟨rfl, rfl⟩ | ⟨hk, e⟩
    · exact ⟨p, o, hp, q2, upd_same, r⟩
    · obtain ⟨a, u, e1, e2, e3, e4⟩ := s.at_ k x e l
      have hb : a ≠ p := fun q => hk (s.inj k n x c0 p e l e0 l0 (q ▸ e1) hp)
      exact ⟨a, u, e1, e2, by rw [upd_ne hb]; exact e3, e4⟩
  · have liv : ∀ {k : Nat} {x : Cell}, (cs.set n c)[k]? = some x → x ≠ .gone → ∃ y, cs[k]? = some y ∧ y ≠ .gone := fun {k x} e l => by
      rcases at' e with ⟨rfl, rfl⟩ | ⟨_, e⟩
      · exact ⟨_, e0, l0⟩
      · exact ⟨_, e, l⟩
    obtain ⟨y, h1, h2⟩ := liv e l
    obtain ⟨y', h3, h4⟩ := liv e' l'
    exact s.inj k k' y y' a h1 h2 h3 h4 ea ea'
/-- a cell is frozen: its object joins what stays -/
theorem SR.frz {cs : List Cell} {n : Nat} {p : Addr} {o : HO} {c0 : Cell} (s : SR T K I m cs H) (e0 : cs[n]? = some c0) (l0 : c0 ≠ .gone) (hp : m[n]? = some p) (ho : H p = some o) : SR T K (L2.upd I p o) m (cs.set n .gone) H ∧ Same I (L2.upd I p o) := by
  obtain ⟨p', u0, q1, q2, q3, q4⟩ := s.at_ n c0 e0 l0
  rw [hp] at q1; cases q1
  have hn : n < cs.length := live_len e0
  have at' : ∀ {k : Nat} {x : Cell}, (cs.set n .gone)[k]? = some x → x ≠ .gone → k ≠ n ∧ cs[k]? = some x := fun {k x} e l => by
    by_cases hk : n = k
    · subst hk
      rw [List.getElem?_set_self hn] at e; cases e
      exact absurd rfl l
    · rw [List.getElem?_set_ne hk] at e
      exact ⟨fun q => hk q.symm, e⟩
  refine ⟨⟨fun b u e => ?_, by simp [s.len], fun k x e l => ?_, fun k k' x x' a e l e' l' ea ea' => ?_, s.tabs, fun ht b ps e => ?_⟩, Same.updI q2⟩
  rotate_left 3
  · by_cases hb : b = p
    · subst hb; rw [upd_same] at e
      rw [q3] at ho
      cases ho
      exact q4.plain.1 ps (Option.some.inj e)
    · rw [upd_ne hb] at e; exact s.ntb ht b ps e
  · by_cases hb : b = p
    · subst hb; rw [upd_same] at e; rw [← e]; exact ho
    · rw [upd_ne hb] at e; exact s.same b u e
  · obtain ⟨hk, e⟩ := at' e l
    obtain ⟨a, u, e1, e2, e3, e4⟩ := s.at_ k x e l
    have hb : a ≠ p := fun q => hk (s.inj k n x c0 p e l e0 l0 (q ▸ e1) hp)
    exact ⟨a, u, e1, by rw [upd_ne hb]; exact e2, e3, e4.mono (Same.updI q2) (List.prefix_refl _)⟩
  · obtain ⟨hk, e⟩ := at' e l
    obtain ⟨hk', e'⟩ := at' e' l'
    exact s.inj k k' x x' a e l e' l' ea ea'
/-- a cell is let go -/
theorem SR.drop1 {cs : List Cell} {n : Nat} (s : SR T K I m cs H) : SR T K I m (cs.set n .gone) H := by
  have at' : ∀ {k : Nat} {x : Cell}, (cs.set n .gone)[k]? = some x → x ≠ .gone → cs[k]? = some x := fun {k x} e l => by
    by_cases hk : n = k
    · subst hk
      by_cases hn : n < cs.length
      · rw [List.getElem?_set_self hn] at e; cases e
        exact absurd rfl l
      · rw [List.getElem?_eq_none (by simpa using hn)] at e; cases e
    · rw [List.getElem?_set_ne hk] at e
      exact e
  exact ⟨s.same, by simp [s.len], fun k x e l => s.at_ k x (at' e l) l, fun k k' x x' a e l e' l' ea ea' => s.inj k k' x x' a (at' e l) l (at' e' l') l' ea ea', s.tabs, s.ntb⟩

/-! ### data without cells from n on; cells let go at a call's end -/
mutual
def D.lt (n : Nat) : D → Bool
  | .tup ds => D.ltL n ds
  | .lst ds => D.ltL n ds
  | .obj _ ds => D.ltL n ds
  | .dic _ ds => D.ltL n ds
  | .cell k => decide (k < n)
  | .exc _ _ ds => D.ltL n ds
  | _ => true
def D.ltL (n : Nat) : List D → Bool
  | [] => true
  | d :: ds => D.lt n d && D.ltL n ds
end
mutual
theorem Rp.cut {n : Nat} : ∀ {d : D} {v : V}, D.lt n d = true → Rp T K I m d v → Rp T K I (m.take n) d v
  | .non, _, _, h => h
  | .bl _, _, _, h => h
  | .int _, _, _, h => h
  | .str _, _, _, h => h
  | .tup ds, v, l, h => by
    unfold Rp at h ⊢; unfold D.lt at l
    obtain ⟨a, vs, e, q, r⟩ := h
    exact ⟨a, vs, e, q, RpL.cut l r⟩
  | .lst ds, v, l, h => by
    unfold Rp at h ⊢; unfold D.lt at l
    obtain ⟨a, vs, e, q, r⟩ := h
    exact ⟨a, vs, e, q, RpL.cut l r⟩
  | .obj c ds, v, l, h => by
    unfold Rp at h ⊢; unfold D.lt at l
    obtain ⟨a, dx, gs, e, q, k, r⟩ := h
    exact ⟨a, dx, gs, e, q, k, RpL.cut l r⟩
  | .dic ks ds, v, l, h => by
    unfold Rp at h ⊢; unfold D.lt at l
    obtain ⟨a, gs, e, q, k, r⟩ := h
    exact ⟨a, gs, e, q, k, RpL.cut l r⟩
  | .cell k, v, l, h => by
    unfold Rp at h ⊢
    obtain ⟨a, e, q⟩ := h
    unfold D.lt at l
    have hk : k < n := of_decide_eq_true l
    exact ⟨a, by rw [List.getElem?_take_of_lt hk]; exact e, q⟩
  | .exc c ks ds, v, l, h => by
    unfold Rp at h ⊢; unfold D.lt at l
    obtain ⟨a, od, e, q, r⟩ := h
    refine ⟨a, od, e, q, ?_⟩
    rcases r with r | ⟨d, gs, r1, r2, r3, r4⟩
    · exact .inl r
    · exact .inr ⟨d, gs, r1, r2, r3, RpL.cut l r4⟩
theorem RpL.cut {n : Nat} : ∀ {ds : List D} {vs : List V}, D.ltL n ds = true → RpL T K I m ds vs → RpL T K I (m.take n) ds vs
  | [], _, _, h => by have e := h.inil; subst e; exact RpL.nil
  | d :: ds, vs, l, h => by
    unfold D.ltL at l
    obtain ⟨l1, l2⟩ := Bool.and_eq_true_iff.mp l
    obtain ⟨v, r, rfl, q, k⟩ := h.inv
    exact RpL.cons (Rp.cut l1 q) (RpL.cut l2 k)
end
/-- every live cell below n speaks of cells below n alone -/
def Cell.lt (n : Nat) : Cell → Bool
  | .lst ds => D.ltL n ds
  | .ins _ _ ds => D.ltL n ds
  | .dic _ ds => D.ltL n ds
  | .gone => true
theorem CellR.cut {n : Nat} {c : Cell} {o : HO} (l : c.lt n = true) (h : CellR T K I m c o) : CellR T K I (m.take n) c o := by
  cases c <;> cases o <;> first | exact h.elim | exact RpL.cut l h | exact ⟨h.1, h.2.1, RpL.cut l h.2.2⟩ | exact ⟨h.1, RpL.cut l h.2⟩
theorem SR.cut {cs : List Cell} {n : Nat} (s : SR T K I m cs H) (l : ((cs.take n).all (Cell.lt n)) = true) : SR T K I (m.take n) (cs.take n) H := by
  have at' : ∀ {k : Nat} {x : Cell}, (cs.take n)[k]? = some x → k < n ∧ cs[k]? = some x := fun {k x} e => by
    have hk := live_len e
    rw [List.length_take] at hk
    have hk : k < n := by omega
    rw [List.getElem?_take_of_lt hk] at e
    exact ⟨hk, e⟩
  refine ⟨s.same, by simp [s.len], fun k x e l' => ?_, fun k k' x x' a e l1 e' l2 ea ea' => ?_, s.tabs, s.ntb⟩
  · obtain ⟨hk, e'⟩ := at' e
    obtain ⟨a, u, e1, e2, e3, e4⟩ := s.at_ k x e' l'
    exact ⟨a, u, by rw [List.getElem?_take_of_lt hk]; exact e1, e2, e3, e4.cut (List.all_eq_true.mp l x (List.mem_of_getElem? e))⟩
  · obtain ⟨hk, e1⟩ := at' e
    obtain ⟨hk', e2⟩ := at' e'
    rw [List.getElem?_take_of_lt hk] at ea
    rw [List.getElem?_take_of_lt hk'] at ea'
    exact s.inj k k' x x' a e1 l1 e2 l2 ea ea'
end

/-! ### outcomes -/
inductive Out (α : Type) where
  | ok (a : α) (cs : List Cell)
  | exn (c : Nat) (ks : List Nat) (fs : List D) (cs : List Cell)
  | no
def Out.bind {α β : Type} (x : Out α) (k : α → List Cell → Out β) : Out β := match x with
  | .ok a cs => k a cs
  | .exn c ks fs cs => .exn c ks fs cs
  | .no => .no
def ExR (T : Tab) (K : PySem.W.Frag) (I : Hp) (m : List Addr) (c : Nat) (ks : List Nat) (fs : List D) (cls : Value) (od : Option Addr) : Prop :=
  cls = .ref (T.ca c) ∧ ((od = none ∧ ks = [] ∧ fs = []) ∨ ∃ (d : Addr) (gs : List (PySem.Str × V)), od = some d ∧ I d = some (.xd gs) ∧ gs.map (·.1) = ks.map T.nm ∧ RpL T K I m fs (gs.map (·.2)))
theorem ExR.mono {T : Tab} {K : PySem.W.Frag} {I I' : Hp} {m m' : List Addr} (s : Same I I') (p : m <+: m') {c : Nat} {ks : List Nat} {fs : List D} {cls : Value} {od : Option Addr} (h : ExR T K I m c ks fs cls od) : ExR T K I' m' c ks fs cls od := by
  refine ⟨h.1, ?_⟩
  rcases h.2 with r | ⟨d, gs, r1, r2, r3, r4⟩
  · exact .inl r
  · exact .inr ⟨d, gs, r1, s _ _ r2, r3, RpL.mono s p r4⟩
/-- what is wanted of an outcome -/
def OutG {α β : Type} (T : Tab) (K : PySem.W.Frag) (R : Hp → List Addr → α → β → Prop) (I : Hp) (m : List Addr) (o : Out α) (Q : β → Hp → Prop) (E : XK) : Prop := match o with
  | .ok d cs => ∀ v H' I' m', Same I I' → m <+: m' → SR T K I' m' cs H' → R I' m' d v → Q v H'
  | .exn c ks fs cs => ∀ cls od H' I' m', Same I I' → m <+: m' → SR T K I' m' cs H' → ExR T K I' m' c ks fs cls od → E cls od H'
  | .no => False
section
variable {T : Tab} {K : PySem.W.Frag} {I I' H H' : Hp} {m m' : List Addr} {α β γ δ : Type} {R : Hp → List Addr → α → β → Prop} {R2 : Hp → List Addr → γ → δ → Prop} {Q : δ → Hp → Prop} {E : XK}
theorem OutG.up {o : Out γ} (s : Same I I') (p : m <+: m') (h : OutG T K R2 I m o Q E) : OutG T K R2 I' m' o Q E := by
  cases o with
  | ok d cs => exact fun v H' I2 m2 s2 p2 => h v H' I2 m2 (s.trans s2) (p.trans p2)
  | exn c ks fs cs => exact fun cls od H' I2 m2 s2 p2 => h cls od H' I2 m2 (s.trans s2) (p.trans p2)
  | no => exact h
/-- the first of two steps -/
theorem OutG.bindI {x : Out α} {k : α → List Cell → Out γ} {Q1 : β → Hp → Prop} (h : OutG T K R2 I m (x.bind k) Q E)
    (hk : ∀ a cs v H1 I1 m1, Same I I1 → m <+: m1 → SR T K I1 m1 cs H1 → R I1 m1 a v → OutG T K R2 I1 m1 (k a cs) Q E → Q1 v H1) : OutG T K R I m x Q1 E := by
  cases x with
  | ok d cs => exact fun v H' I2 m2 s2 p2 sr r => hk d cs v H' I2 m2 s2 p2 sr r (OutG.up s2 p2 h)
  | exn c ks fs cs => exact h
  | no => exact h
/-- the last step -/
theorem OutG.okI {a : γ} {cs : List Cell} {v : δ} (h : OutG T K R2 I m (.ok a cs) Q E) (sr : SR T K I m cs H) (r : R2 I m a v) : Q v H := h v H I m (Same.refl I) (List.prefix_refl _) sr r
theorem OutG.ok1 {a : γ} {cs : List Cell} {v : δ} (h : OutG T K R2 I m (.ok a cs) Q E) (s : Same I I') (sr : SR T K I' m cs H) (r : R2 I' m a v) : Q v H := h v H I' m s (List.prefix_refl _) sr r
end
abbrev Env := List (Option D)
abbrev Den (α : Type) := Env → List Cell → Out α
/-- the one reading -/
def tG {α β : Type} (T : Tab) (K : PySem.W.Frag) (W : WX) (R : Hp → List Addr → α → β → Prop) (f : Den α) : St → Hp → (β → Hp → Prop) → Prop := fun σ H Q =>
  ∃ I m cs env, ER T K I m env σ ∧ SR T K I m cs H ∧ OutG T K R I m (f env cs) Q (fun cls od H' => W cls od σ H')
abbrev RD (T : Tab) (K : PySem.W.Frag) : Hp → List Addr → D → V → Prop := fun I m => Rp T K I m
abbrev RL (T : Tab) (K : PySem.W.Frag) : Hp → List Addr → List D → List V → Prop := fun I m => RpL T K I m
abbrev RB : Hp → List Addr → Bool → Bool → Prop := fun _ _ a b => a = b
def DE (X : Cx) (T : Tab) (W : WX) (e : Expr) (f : Den D) : Prop := PE X e (tG T X.K W (RD T X.K) f)
def DA (X : Cx) (T : Tab) (W : WX) (es : List Expr) (f : Den (List D)) : Prop := PA X es (tG T X.K W (RL T X.K) f)
def DT (X : Cx) (T : Tab) (W : WX) (e : Expr) (f : Den Bool) : Prop := PT X e (tG T X.K W RB f)
def DW (X : Cx) (T : Tab) (W : WX) (e : Expr) (f : Den Bool) : Prop := PW X e (tG T X.K W RB f)

theorem PE.imp {X : Cx} {e : Expr} {t t' : TE} (h : PE X e t) (i : ∀ σ H Q, t' σ H Q → t σ H Q) : PE X e t' := ⟨fun pins s σ H Q I q => h.run pins s σ H Q I (i σ H Q q)⟩
theorem PT.imp {X : Cx} {e : Expr} {t t' : TT} (h : PT X e t) (i : ∀ σ H Q, t' σ H Q → t σ H Q) : PT X e t' := ⟨fun pins s σ H Q I q => h.run pins s σ H Q I (i σ H Q q)⟩
theorem PW.imp {X : Cx} {e : Expr} {t t' : TT} (h : PW X e t) (i : ∀ σ H Q, t' σ H Q → t σ H Q) : PW X e t' := ⟨fun wh pins s σ H Q I q => h.run wh pins s σ H Q I (i σ H Q q)⟩
theorem PA.imp {X : Cx} {es : List Expr} {t t' : TA} (h : PA X es t) (i : ∀ σ H Q, t' σ H Q → t σ H Q) : PA X es t' := ⟨fun pos pins s σ H Q I q => h.run pos pins s σ H Q I (i σ H Q q)⟩
theorem PS.imp {X : Cx} {st : Stmt} {t t' : TS} (h : PS X st t) (i : ∀ D σ H, t' D σ H → t D σ H) : PS X st t' := ⟨fun pins s σ H D I q => h.run pins s σ H D I (i D σ H q)⟩
theorem PSs.imp {X : Cx} {st : List Stmt} {t t' : TS} (h : PSs X st t) (i : ∀ D σ H, t' D σ H → t D σ H) : PSs X st t' := ⟨fun pins s σ H D I q => h.run pins s σ H D I (i D σ H q)⟩
end DL
end

section
set_option Elab.async false
set_option linter.all false
set_option maxRecDepth 100000
set_option maxHeartbeats 4000000
namespace DL
open PySem L2
open Classical
noncomputable section

/-! ### ints whose size an operation minds -/
def smallI (i : Int) : Prop := -(2 ^ 64) < i ∧ i < 2 ^ 64
def CMulX (i j : Int) : Prop := CMul i j ∨ CMulW i j
theorem op_mulX {X : Cx} : OpR X (binaryOp .Mult) (fun x y H Q => ∃ i j, x = .int i ∧ y = .int j ∧ CMulX i j ∧ Q (.int (i * j)) H) := by
  intro pins s σ H x y v u Q I rx ry h
  obtain ⟨i, j, rfl, rfl, hc, q⟩ := h
  rcases hc with hc | hc
  · exact op_mul pins s σ H _ _ v u Q I rx ry ⟨i, j, rfl, rfl, hc, q⟩
  · exact op_mulW pins s σ H _ _ v u Q I rx ry ⟨i, j, rfl, rfl, hc, q⟩
def CDivX (i j : Int) : Prop := CDiv i j ∨ CDivW i j
theorem op_fdivX {X : Cx} : OpR X (binaryOp .FloorDiv) (fun x y H Q => ∃ i j, x = .int i ∧ y = .int j ∧ CDivX i j ∧ Q (.int (i / j)) H) := by
  intro pins s σ H x y v u Q I rx ry h
  obtain ⟨i, j, rfl, rfl, hc, q⟩ := h
  rcases hc with hc | hc
  · exact op_fdiv pins s σ H _ _ v u Q I rx ry ⟨i, j, rfl, rfl, hc, q⟩
  · exact op_fdivW pins s σ H _ _ v u Q I rx ry ⟨i, j, rfl, rfl, hc, q⟩

section
variable {X : Cx} {T : Tab} {W : WX} {a b c e : Expr} {es : List Expr} {pos : Pos}

/-! ### names, constants -/
def dVar (i : Nat) : Den D := fun env cs => match env[i]? with
  | some (some d) => .ok d cs
  | _ => .no
theorem de_var {i : Nat} {x : Str} (h : PE X (.Name x pos) (tVar i)) : DE X T W (.Name x pos) (dVar i) := by
  refine PE.imp h fun σ H Q ⟨I, m, cs, env, er, sr, h⟩ => ?_
  unfold dVar at h
  cases he : env[i]? with
  | none => rw [he] at h; exact h.elim
  | some o =>
    cases o with
    | none => rw [he] at h; exact h.elim
    | some d =>
      rw [he] at h
      obtain ⟨v, e, r⟩ := er.at_ i d he
      exact ⟨v, e, OutG.okI h sr r⟩
def dC (d : D) : Den D := fun _ cs => .ok d cs
theorem de_c {e : Expr} {v : V} {d : D} (h : PE X e (tC v)) (r : ∀ I m, Rp T X.K I m d v) : DE X T W e (dC d) :=
  PE.imp h fun σ H Q ⟨I, m, cs, env, er, sr, h⟩ => OutG.okI h sr (r I m)
theorem de_int {i : Int} {j} : DE X T W (.Constant (.int i) j pos) (dC (.int i)) := de_c pe_int fun I m => by unfold Rp; rfl
theorem de_bl {i : Bool} {j} : DE X T W (.Constant (.bool i) j pos) (dC (.bl i)) := de_c pe_bl fun I m => by unfold Rp; rfl
theorem de_str {i : Str} {j} : DE X T W (.Constant (.str i) j pos) (dC (.str i)) := de_c pe_str fun I m => by unfold Rp; rfl
theorem de_non {j} : DE X T W (.Constant .none j pos) (dC .non) := de_c pe_non fun I m => by unfold Rp; rfl
/-- a module's constant -/
theorem de_gint {x : Str} {i : Int} (hg : Gl X x) (hm : ∃ t, X.mg x = some (.int i t)) (hd : (x == ("__debug__" : Str)) = false := by decide) : DE X T W (.Name x pos) (dC (.int i)) := by
  obtain ⟨t, hm⟩ := hm
  exact de_c (pe_glob hg hm (v := .int i) ⟨t, rfl⟩ hd) fun I m => by unfold Rp; rfl
theorem de_gstr {x : Str} {i : Str} (hg : Gl X x) (hm : ∃ t, X.mg x = some (.str i t)) (hd : (x == ("__debug__" : Str)) = false := by decide) : DE X T W (.Name x pos) (dC (.str i)) := by
  obtain ⟨t, hm⟩ := hm
  exact de_c (pe_glob hg hm (v := .str i) ⟨t, rfl⟩ hd) fun I m => by unfold Rp; rfl

/-! ### operators -/
def d2 (f g : Den D) (k : D → D → List Cell → Out D) : Den D := fun env cs => (f env cs).bind fun x cs => (g env cs).bind fun y cs => k x y cs
def d1 (f : Den D) (k : D → List Cell → Out D) : Den D := fun env cs => (f env cs).bind fun x cs => k x cs
/-- what an operation on data promises -/
abbrev Hk2 (T : Tab) (K : PySem.W.Frag) (r : R2) (k : D → D → List Cell → Out D) : Prop :=
  ∀ (I : Hp) (m : List Addr) (cs : List Cell) (H : Hp) (x y : D) (v u : V) (Q : VK) (E : XK), SR T K I m cs H → Rp T K I m x v → Rp T K I m y u → OutG T K (RD T K) I m (k x y cs) Q E → r v u H Q
theorem tOp_of {f g : Den D} {k : D → D → List Cell → Out D} {r : R2} (hk : Hk2 T X.K r k) {ta tb : TE} (ha : ta = tG T X.K W (RD T X.K) f) (hb : tb = tG T X.K W (RD T X.K) g) :
    ∀ σ H Q, tG T X.K W (RD T X.K) (d2 f g k) σ H Q → tOp r ta tb σ H Q := by
  subst ha hb
  rintro σ H Q ⟨I, m, cs, env, er, sr, h⟩
  refine ⟨I, m, cs, env, er, sr, OutG.bindI h fun x cs1 v H1 I1 m1 s1 p1 sr1 r1 h1 => ?_⟩
  refine ⟨I1, m1, cs1, env, er.mono s1 p1, sr1, OutG.bindI h1 fun y cs2 u H2 I2 m2 s2 p2 sr2 r2 h2 => ?_⟩
  exact hk I2 m2 cs2 H2 x y v u Q _ sr2 (r1.mono s2 p2) r2 h2
theorem de_op {op : Operator} {r : R2} {f g : Den D} {k : D → D → List Cell → Out D} (ho : OpR X (binaryOp op) r) (hk : Hk2 T X.K r k) (ha : DE X T W a f) (hb : DE X T W b g) : DE X T W (.BinOp a op b pos) (d2 f g k) :=
  PE.imp (pe_op ho ha hb) (tOp_of hk rfl rfl)
/-- a comparison: as a value (DC.e), as a test (DC.t) -/
def DC (X : Cx) (T : Tab) (W : WX) (op : CmpOp) (a b : Expr) (f : Den D) : Prop := PC X op a b (tG T X.K W (RD T X.K) f)
theorem PC.imp {op : CmpOp} {t t' : TE} (h : PC X op a b t) (i : ∀ σ H Q, t' σ H Q → t σ H Q) : PC X op a b t' := ⟨fun pins s σ H Q I q => h.run pins s σ H Q I (i σ H Q q)⟩
theorem dc_op {op : CmpOp} {r : R2} {f g : Den D} {k : D → D → List Cell → Out D} (ho : OpR X (compareOp op) r) (hk : Hk2 T X.K r k) (ha : DE X T W a f) (hb : DE X T W b g) : DC X T W op a b (d2 f g k) := by
  refine ⟨fun pins s σ H Q J h => ?_⟩
  exact bin (R := fun x y H2 => r x y H2 Q) ha hb J (tOp_of hk rfl rfl σ H Q h) fun v u s2 x y H2 I2 rx ry q => ho pins s2 σ H2 x y v u Q I2 rx ry q
theorem DC.ex {op : CmpOp} {f : Den D} (h : DC X T W op a b f) (hm : behindInMarks op b = false := by first | exact nomark _ | rfl) : DE X T W (.Compare a [op] [b] pos) f := pe_cmp h hm
def qB (f : Den D) : Den Bool := fun env cs => (f env cs).bind fun x cs => match x with
  | .bl b => .ok b cs
  | _ => .no
theorem rp_int {K : PySem.W.Frag} {I : Hp} {m : List Addr} {i : Int} {v : V} : Rp T K I m (.int i) v ↔ v = .int i := by unfold Rp; exact Iff.rfl
theorem rp_bl {K : PySem.W.Frag} {I : Hp} {m : List Addr} {i : Bool} {v : V} : Rp T K I m (.bl i) v ↔ v = .bl i := by unfold Rp; exact Iff.rfl
theorem rp_str {K : PySem.W.Frag} {I : Hp} {m : List Addr} {i : Str} {v : V} : Rp T K I m (.str i) v ↔ v = .str i := by unfold Rp; exact Iff.rfl
theorem rp_non {K : PySem.W.Frag} {I : Hp} {m : List Addr} {v : V} : Rp T K I m .non v ↔ v = .non := by unfold Rp; exact Iff.rfl
theorem rp_tup {K : PySem.W.Frag} {I : Hp} {m : List Addr} {ds : List D} {v : V} : Rp T K I m (.tup ds) v ↔ ∃ a vs, v = .ref a ∧ SqT K I a vs ∧ RpL T K I m ds vs := by unfold Rp; exact Iff.rfl
theorem rp_lst {K : PySem.W.Frag} {I : Hp} {m : List Addr} {ds : List D} {v : V} : Rp T K I m (.lst ds) v ↔ ∃ a vs, v = .ref a ∧ SqX K I a vs ∧ RpL T K I m ds vs := by unfold Rp; exact Iff.rfl
theorem rp_cell {K : PySem.W.Frag} {I : Hp} {m : List Addr} {n : Nat} {v : V} : Rp T K I m (.cell n) v ↔ ∃ a, m[n]? = some a ∧ v = .ref a := by unfold Rp; exact Iff.rfl

theorem DC.tt {op : CmpOp} {f : Den D} (h : DC X T W op a b f) (hm : behindInMarks op b = false := by first | exact nomark _ | rfl) : DT X T W (.Compare a [op] [b] pos) (qB f) := by
  refine PT.imp (pt_cmp h hm) ?_
  rintro σ H Q ⟨I, m, cs, env, er, sr, h⟩
  refine ⟨I, m, cs, env, er, sr, OutG.bindI h fun x cs1 v H1 I1 m1 s1 p1 sr1 r1 h1 => ?_⟩
  cases x with
  | bl b => exact ⟨b, rp_bl.mp r1, OutG.okI h1 sr1 rfl⟩
  | _ => exact h1.elim

/-- the items of a list or a tuple: of data, of a cell -/
def itemsL (cs : List Cell) : D → Option (List D)
  | .lst xs => some xs
  | .cell n => match cs[n]? with
    | some (.lst xs) => some xs
    | _ => none
  | _ => none
theorem itemsL_ok {K : PySem.W.Frag} {I H : Hp} {m : List Addr} {cs : List Cell} {d : D} {xs : List D} {v : V} (sr : SR T K I m cs H) (r : Rp T K I m d v) (h : itemsL cs d = some xs) : ∃ a vs, v = .ref a ∧ SqX K H a vs ∧ RpL T K I m xs vs := by
  cases d with
  | lst ds =>
    have e : ds = xs := Option.some.inj h
    subst e
    obtain ⟨a, vs, e, q, rl⟩ := rp_lst.mp r
    exact ⟨a, vs, e, SqX.same sr.same q, rl⟩
  | cell n =>
    obtain ⟨a, e1, e2⟩ := rp_cell.mp r
    unfold itemsL at h
    cases hc : cs[n]? with
    | none => simp [hc] at h
    | some c =>
      cases c with
      | lst ys =>
        simp only [hc] at h
        have e : ys = xs := Option.some.inj h
        subst e
        obtain ⟨a', o, q1, q2, q3, q4⟩ := sr.at_ n _ hc (by intro z; cases z)
        rw [e1] at q1; cases q1
        cases o with
        | lst vs => exact ⟨a, vs, e2, SqX.of q3, q4⟩
        | _ => exact q4.elim
      | _ => simp [hc] at h
  | _ => cases h
def itemsT : D → Option (List D)
  | .tup xs => some xs
  | _ => none
def itemsS (cs : List Cell) (d : D) : Option (List D) := match d with
  | .tup xs => some xs
  | d => itemsL cs d
theorem itemsS_ok {K : PySem.W.Frag} {I H : Hp} {m : List Addr} {cs : List Cell} {d : D} {xs : List D} {v : V} (sr : SR T K I m cs H) (r : Rp T K I m d v) (h : itemsS cs d = some xs) : ∃ a vs, v = .ref a ∧ (SqX K H a vs ∨ SqT K H a vs) ∧ RpL T K I m xs vs := by
  cases d with
  | tup ds =>
    have e : ds = xs := Option.some.inj h
    subst e
    obtain ⟨a, vs, e, q, rl⟩ := rp_tup.mp r
    exact ⟨a, vs, e, .inr (SqT.same sr.same q), rl⟩
  | _ =>
    obtain ⟨a, vs, e, q, rl⟩ := itemsL_ok sr r h
    exact ⟨a, vs, e, .inl q, rl⟩
theorem itemsL_S {cs : List Cell} {d : D} {xs : List D} (h : itemsL cs d = some xs) : itemsS cs d = some xs := by
  cases d <;> first | exact h | cases h

def asI : D → Option Int
  | .int i => some i
  | _ => none
def asS : D → Option Str
  | .str i => some i
  | _ => none
def asB : D → Option Bool
  | .bl i => some i
  | _ => none
theorem asI_ok {d : D} {i : Int} (h : asI d = some i) : d = .int i := by cases d <;> cases h; rfl
theorem asS_ok {d : D} {i : Str} (h : asS d = some i) : d = .str i := by cases d <;> cases h; rfl
theorem asB_ok {d : D} {i : Bool} (h : asB d = some i) : d = .bl i := by cases d <;> cases h; rfl
theorem itemsT_eq {d : D} {i : List D} (h : itemsT d = some i) : d = .tup i := by cases d <;> cases h; rfl
def both {α β : Type} (a : Option α) (b : Option β) : Option (α × β) := match a, b with
  | some x, some y => some (x, y)
  | _, _ => none
theorem both_ok {α β : Type} {a : Option α} {b : Option β} {p : α × β} (h : both a b = some p) : a = some p.1 ∧ b = some p.2 := by
  cases a <;> cases b <;> cases h
  exact ⟨rfl, rfl⟩
/-- + -/
def addD (x y : D) (cs : List Cell) : Out D := match both (asI x) (asI y) with
  | some (i, j) => .ok (.int (i + j)) cs
  | none => match both (asS x) (asS y) with
    | some (i, j) => if fits (i.length + j.length) then .ok (.str (i ++ j)) cs else .no
    | none => match both (itemsT x) (itemsT y) with
      | some (i, j) => if fits (i.length + j.length) then .ok (.tup (i ++ j)) cs else .no
      | none => match both (itemsL cs x) (itemsL cs y) with
        | some (i, j) => if fits (i.length + j.length) then .ok (.lst (i ++ j)) cs else .no
        | none => .no
end

/-- list + list, whatever kind of list may be read -/
theorem op_catL {X : Cx} : OpR X (binaryOp .Add) (fun x y H Q => ∃ l b xs zs, x = .ref l ∧ y = .ref b ∧ SqX X.K H l xs ∧ SqX X.K H b zs ∧ xs.length + zs.length ≤ sizeLine ∧ ∀ p, H p = none → Q (.ref p) (upd H p (.lst (xs ++ zs)))) := by
  intro pins s σ H x y v u Q I rx ry h
  obtain ⟨l, b, xs, zs, rfl, rfl, hH, hB, hz, q⟩ := h
  cases rx
  cases ry
  obtain ⟨z, its, n, r, hl, e⟩ := SqX.lst I hH
  obtain ⟨z2, its2, n2, r2, hl2, e2⟩ := SqX.lst I hB
  refine PySem.P.add_list e e2 ?_ (by rw [List.size_toArray, List.size_toArray]; omega)
  have ea : its.toArray ++ its2.toArray = (its ++ its2).toArray := by simp
  rw [ea]
  exact ⟨.ref _, _, I.lnew (t' := s.toks) (r.append r2) (by rw [List.length_append]; omega), rfl, q _ I.fresh⟩
section
variable {X : Cx} {T : Tab} {W : WX} {a b c e : Expr} {es : List Expr} {pos : Pos}
theorem rp_newL {K : PySem.W.Frag} {I H : Hp} {m : List Addr} {cs : List Cell} {ds : List D} {vs : List V} {p : Addr} {Q : VK} {E : XK} (sr : SR T K I m cs H) (hp : H p = none) (r : RpL T K I m ds vs) (h : OutG T K (RD T K) I m (.ok (.lst ds) cs) Q E) : Q (.ref p) (upd H p (.lst vs)) := by
  obtain ⟨s1, s2⟩ := sr.newI (o := .lst vs) hp
  exact h.ok1 s2 s1 (rp_lst.mpr ⟨p, vs, rfl, SqX.of upd_same, RpL.mono s2 (List.prefix_refl _) r⟩)
theorem rp_newT {K : PySem.W.Frag} {I H : Hp} {m : List Addr} {cs : List Cell} {ds : List D} {vs : List V} {p : Addr} {Q : VK} {E : XK} (sr : SR T K I m cs H) (hp : H p = none) (r : RpL T K I m ds vs) (h : OutG T K (RD T K) I m (.ok (.tup ds) cs) Q E) : Q (.ref p) (upd H p (.tup vs)) := by
  obtain ⟨s1, s2⟩ := sr.newI (o := .tup vs) hp
  exact h.ok1 s2 s1 (rp_tup.mpr ⟨p, vs, rfl, SqT.of upd_same, RpL.mono s2 (List.prefix_refl _) r⟩)
/-- the reading of + -/
def rAddX (K : PySem.W.Frag) : R2 := fun x y H Q => (∃ i j, x = .int i ∧ y = .int j ∧ Q (.int (i + j)) H) ∨ (∃ i j, x = .str i ∧ y = .str j ∧ i.length + j.length ≤ sizeLine ∧ Q (.str (i ++ j)) H) ∨ rCatA K x y H Q ∨
  (∃ l b xs zs, x = .ref l ∧ y = .ref b ∧ SqX K H l xs ∧ SqX K H b zs ∧ xs.length + zs.length ≤ sizeLine ∧ ∀ p, H p = none → Q (.ref p) (upd H p (.lst (xs ++ zs))))
theorem op_addX : OpR X (binaryOp .Add) (rAddX X.K) := op_add.or (op_add_str.or (op_catA.or op_catL))
theorem hk_add {K : PySem.W.Frag} : Hk2 T K (rAddX K) addD := by
  intro I m cs H x y v u Q E sr rx ry h
  unfold addD at h
  cases e1 : both (asI x) (asI y) with
  | some p =>
    obtain ⟨h1, h2⟩ := both_ok e1
    have e := asI_ok h1; subst e; have e := asI_ok h2; subst e
    simp only [e1] at h
    exact .inl ⟨_, _, rp_int.mp rx, rp_int.mp ry, h.okI sr (rp_int.mpr rfl)⟩
  | none =>
    simp only [e1] at h
    cases e2 : both (asS x) (asS y) with
    | some p =>
      obtain ⟨h1, h2⟩ := both_ok e2
      have e := asS_ok h1; subst e; have e := asS_ok h2; subst e
      simp only [e2] at h
      split at h
      · rename_i hz
        exact .inr (.inl ⟨_, _, rp_str.mp rx, rp_str.mp ry, hz, h.okI sr (rp_str.mpr rfl)⟩)
      · exact h.elim
    | none =>
      simp only [e2] at h
      cases e3 : both (itemsT x) (itemsT y) with
      | some p =>
        obtain ⟨xs, ys⟩ := p
        obtain ⟨h1, h2⟩ := both_ok e3
        have e := itemsT_eq h1; subst e; have e := itemsT_eq h2; subst e
        simp only [e3] at h
        split at h
        · rename_i hz
          obtain ⟨a1, vs, rfl, q1, r1⟩ := rp_tup.mp rx
          obtain ⟨b1, ws, rfl, q2, r2⟩ := rp_tup.mp ry
          have q1' := SqT.same sr.same q1
          have q2' := SqT.same sr.same q2
          have l1 := r1.length
          have l2 := r2.length
          simp only at hz l1 l2
          refine .inr (.inr (.inl ⟨a1, b1, vs, ws, rfl, rfl, q1', q2', by rw [← l1, ← l2]; exact hz, fun e0 => ?_, fun _ e0 => ?_, fun _ _ p hp => rp_newT sr hp (r1.append r2) h⟩))
          · subst e0
            have : xs = [] := List.eq_nil_of_length_eq_zero l1
            subst this
            exact h.okI sr ry
          · subst e0
            have : ys = [] := List.eq_nil_of_length_eq_zero l2
            subst this
            simp only [List.append_nil] at h
            exact h.okI sr rx
        · exact h.elim
      | none =>
        simp only [e3] at h
        cases e4 : both (itemsL cs x) (itemsL cs y) with
        | some p =>
          obtain ⟨xs, ys⟩ := p
          obtain ⟨h1, h2⟩ := both_ok e4
          simp only [e4] at h
          split at h
          · rename_i hz
            obtain ⟨a1, vs, rfl, q1, r1⟩ := itemsL_ok sr rx h1
            obtain ⟨b1, ws, rfl, q2, r2⟩ := itemsL_ok sr ry h2
            have l1 := r1.length
            have l2 := r2.length
            simp only at hz l1 l2
            exact .inr (.inr (.inr ⟨a1, b1, vs, ws, rfl, rfl, q1, q2, by rw [← l1, ← l2]; exact hz, fun p hp => rp_newL sr hp (r1.append r2) h⟩))
          · exact h.elim
        | none => simp only [e4] at h; exact h.elim
theorem de_add {f g : Den D} (ha : DE X T W a f) (hb : DE X T W b g) : DE X T W (.BinOp a .Add b pos) (d2 f g addD) := de_op op_addX hk_add ha hb
end
end
end DL
end

section
set_option Elab.async false
set_option linter.all false
set_option maxRecDepth 100000
set_option maxHeartbeats 4000000
namespace L2
open PySem PySem.Spec PyProof.Rows
theorem tuple_mulOne (l : Addr) (items : Array Value) (n : Nat) (dd : Option Addr) (sl : Array (Option Value)) (u : Tok) :
    Meets (Builtin.«tuple.__mul__» ⟨[.ref l, .int 1 u], []⟩) (fun _ R s => s.heap.get? l = some { cls := .type "tuple", dict := dd, data := .seq items n, slots := sl } ∧ R (.ok (.ret (Value.ref l))) s) :=
  .of_wp fun prog w A R s h => by
    obtain ⟨hp, g, d, tk, os⟩ := s
    obtain ⟨hl, h⟩ := h
    have f1 := AutoSeq1.idx_int
    have c0 : (decide ((1 : Int) < -(2 ^ 63)) || decide ((1 : Int) ≥ 2 ^ 63)) = false := by decide
    have c1 : (items.isEmpty || (1 : Int) == 1) = true := by simp
    wp_walk using wpAny_loadPart' hl
    repeat (first
      | (refine wpAny_ite_false (decide_eq_false (by rw [c0]; exact Bool.false_ne_true)) ?_; wp_walk using wpAny_loadPart' hl)
      | (refine wpAny_ite_true (decide_eq_true (by rw [c1])) ?_; wp_walk using wpAny_loadPart' hl))
    all_goals first | exact ⟨_, rfl, h⟩ | exact h
section
variable {X : Cx}
theorem op_repT1 : OpR X (binaryOp .Mult) (fun x y H Q => ∃ l xs, x = .ref l ∧ y = .int 1 ∧ SqT X.K H l xs ∧ Q (.ref l) H) := by
  intro pins s σ H x y v u Q I rx ry h
  obtain ⟨l, xs, rfl, rfl, hT, q⟩ := h
  cases rx
  obtain ⟨t, rfl⟩ := ry
  obtain ⟨its, r, ⟨⟨cls, dd, data, sl⟩, ho, hc, n, hd⟩, hs⟩ := I.tuple hT
  simp only at hc hd
  subst hc hd
  exact wpAny_binaryOp_repeat_ref (T := "tuple") (U := "int") (by decide) ⟨_, ho, rfl⟩ (fun s' => typeIs_int s' 1 t) noFill_tuple_mul F.fills_int_mul F.slot_int_rmul repeat_tuple F.slot_int_index.lookup
    (call_meets F.slot_int_rmul (typeIs_int s 1 t) F.entry_int_rmul (F.args_int_rmul_2 _ _) (int_rmul_tuple 1 t l its.toArray n dd sl)
      ⟨ho, rfl, ⟨_, ho, rfl⟩, call_meets F.slot_tuple_mul ⟨_, ho, rfl⟩ F.entry_tuple_mul (F.args_tuple_mul_2 _ _) (tuple_mulOne l its.toArray n dd sl t) ⟨ho, ⟨.ref l, H, I, rfl, q⟩⟩⟩)
theorem op_repX : OpR X (binaryOp .Mult) (fun x y H Q => ∃ l k xs, x = .ref l ∧ y = .int k ∧ DL.SqX X.K H l xs ∧ -(2 ^ 63) ≤ k ∧ k < 2 ^ 63 ∧ xs.length * k.toNat ≤ sizeLine ∧ ∀ p, H p = none → Q (.ref p) (upd H p (.lst (List.replicate k.toNat xs).flatten))) := by
  intro pins s σ H x y v u Q I rx ry h
  obtain ⟨l, k, xs, rfl, rfl, hH, h1, h2, hz, q⟩ := h
  cases rx
  obtain ⟨t, rfl⟩ := ry
  obtain ⟨z, its, n, r, hl, e⟩ := DL.SqX.lst I hH
  have hlen : its.toArray.size * k.toNat ≤ sizeLine := by rw [List.size_toArray, ← hl]; exact hz
  have hcap : ¬ its.toArray.size * k.toNat > (2 ^ 63 - 1) / 8 := by
    have : (sizeLine : Nat) ≤ (2 ^ 63 - 1) / 8 := by decide
    omega
  have hfit : ¬ (!Builtin.List.listFitsIndex k) = true := by
    rw [fitsIndex_both h1 h2]
    exact Bool.false_ne_true
  have hlong : ¬ Builtin.List.listTooLong (its.toArray.size * k.toNat) = true := by
    rw [notLongL hlen]
    exact Bool.false_ne_true
  have hnew : List.foldl (fun x1 x2 => x1 ++ x2) #[] (List.replicate (if its.toArray.isEmpty = true then 0 else k.toNat) its.toArray) = (List.replicate k.toNat its).flatten.toArray := by
    have f0 : ∀ m : Nat, List.foldl (fun x1 x2 => x1 ++ x2) #[] (List.replicate m its.toArray) = (List.replicate m its).flatten.toArray := fun m => by
      have := foldl_rep its m []
      rw [List.nil_append] at this
      exact this
    rw [f0]
    cases its with
    | nil => simp
    | cons a r' => rw [if_neg (by simp)]
  refine wpAny_binaryOp_repeat_ref (T := "list") (U := "int") (by decide) ⟨_, e, rfl⟩ (fun s' => typeIs_int s' k t) noFill_list_mul F.fills_int_mul F.slot_int_rmul repeat_list F.slot_int_index.lookup
    (call_meets F.slot_int_rmul (typeIs_int s k t) F.entry_int_rmul (F.args_int_rmul_2 _ _) (int___rmul___int_list k t l its.toArray n)
      ⟨e, rfl, ⟨_, e, rfl⟩, call_meets F.slot_list_mul ⟨_, e, rfl⟩ F.entry_list_mul (F.args_list_mul_2 _ _) (AutoListH.list___mul___list_int_3 l its.toArray n k t hfit hcap hlong) ⟨e, ?_⟩⟩)
  rw [hnew]
  exact ⟨.ref _, _, I.lnew (t' := s.toks) (r.rep k.toNat) (by rw [PyProof.Rows.lm_len_rep_flat, Nat.mul_comm]; exact hz), rfl, q _ I.fresh⟩
end
end L2
namespace DL
open PySem L2
open Classical
noncomputable section
theorem RpL.rep {T : Tab} {K : PySem.W.Frag} {I : Hp} {m : List Addr} {ds : List D} {vs : List V} (r : RpL T K I m ds vs) : ∀ k : Nat, RpL T K I m (List.replicate k ds).flatten (List.replicate k vs).flatten
  | 0 => by simp; exact RpL.nil
  | k + 1 => by simp only [List.replicate_succ, List.flatten_cons]; exact r.append (RpL.rep r k)
section
variable {X : Cx} {T : Tab} {W : WX} {a b c e : Expr} {es : List Expr} {pos : Pos} {f g : Den D}
def subD (x y : D) (cs : List Cell) : Out D := match both (asI x) (asI y) with
  | some (i, j) => .ok (.int (i - j)) cs
  | none => .no
theorem hk_sub {K : PySem.W.Frag} : Hk2 T K (rI0 fun i j => .int (i - j)) subD := by
  intro I m cs H x y v u Q E sr rx ry h
  unfold subD at h
  cases e1 : both (asI x) (asI y) with
  | some p =>
    obtain ⟨h1, h2⟩ := both_ok e1
    have e := asI_ok h1; subst e; have e := asI_ok h2; subst e
    simp only [e1] at h
    exact ⟨_, _, rp_int.mp rx, rp_int.mp ry, h.okI sr (rp_int.mpr rfl)⟩
  | none => simp only [e1] at h; exact h.elim
theorem de_sub (ha : DE X T W a f) (hb : DE X T W b g) : DE X T W (.BinOp a .Sub b pos) (d2 f g subD) := de_op op_sub hk_sub ha hb
/-- * : ints, list * int, tuple * int -/
def mulD (x y : D) (cs : List Cell) : Out D := match both (asI x) (asI y) with
  | some (i, j) => if CMulX i j then .ok (.int (i * j)) cs else .no
  | none => match both (itemsT x) (asI y) with
    | some (xs, k) => if k = 1 then .ok (.tup xs) cs else if repOk xs k then .ok (.tup (List.replicate k.toNat xs).flatten) cs else .no
    | none => match both (itemsL cs x) (asI y) with
      | some (xs, k) => if in63F k (xs.length * k.toNat) then .ok (.lst (List.replicate k.toNat xs).flatten) cs else .no
      | none => .no
def rMulX (K : PySem.W.Frag) : R2 := fun x y H Q => (∃ i j, x = .int i ∧ y = .int j ∧ CMulX i j ∧ Q (.int (i * j)) H) ∨ (∃ l xs, x = .ref l ∧ y = .int 1 ∧ SqT K H l xs ∧ Q (.ref l) H) ∨ rRepT K x y H Q ∨
  (∃ l k xs, x = .ref l ∧ y = .int k ∧ SqX K H l xs ∧ -(2 ^ 63) ≤ k ∧ k < 2 ^ 63 ∧ xs.length * k.toNat ≤ sizeLine ∧ ∀ p, H p = none → Q (.ref p) (upd H p (.lst (List.replicate k.toNat xs).flatten)))
theorem op_mulAll : OpR X (binaryOp .Mult) (rMulX X.K) := op_mulX.or (op_repT1.or (op_repT.or op_repX))
theorem hk_mul {K : PySem.W.Frag} : Hk2 T K (rMulX K) mulD := by
  intro I m cs H x y v u Q E sr rx ry h
  unfold mulD at h
  cases e1 : both (asI x) (asI y) with
  | some p =>
    obtain ⟨h1, h2⟩ := both_ok e1
    have e := asI_ok h1; subst e; have e := asI_ok h2; subst e
    simp only [e1] at h
    split at h
    · rename_i hc
      exact .inl ⟨_, _, rp_int.mp rx, rp_int.mp ry, hc, h.okI sr (rp_int.mpr rfl)⟩
    · exact h.elim
  | none =>
    simp only [e1] at h
    cases e2 : both (itemsT x) (asI y) with
    | some p =>
      obtain ⟨xs, k⟩ := p
      obtain ⟨h1, h2⟩ := both_ok e2
      have e := itemsT_eq h1; subst e; have e := asI_ok h2; subst e
      simp only [e2] at h
      obtain ⟨a1, vs, rfl, q1, r1⟩ := rp_tup.mp rx
      have q1' := SqT.same sr.same q1
      have l1 := r1.length
      split at h
      · rename_i hk
        subst hk
        exact .inr (.inl ⟨a1, vs, rfl, rp_int.mp ry, q1', h.okI sr rx⟩)
      · split at h
        · rename_i hk
          obtain ⟨k1, k2, k3, k4⟩ := hk
          refine .inr (.inr (.inl ⟨a1, k, vs, rfl, rp_int.mp ry, q1', fun z => k1 ?_, k2, k3, by rw [← l1]; exact k4, fun p hp => rp_newT sr hp (r1.rep _) h⟩))
          subst z
          exact List.eq_nil_of_length_eq_zero l1
        · exact h.elim
    | none =>
      simp only [e2] at h
      cases e3 : both (itemsL cs x) (asI y) with
      | some p =>
        obtain ⟨xs, k⟩ := p
        obtain ⟨h1, h2⟩ := both_ok e3
        have e := asI_ok h2; subst e
        simp only [e3] at h
        split at h
        · rename_i hk
          obtain ⟨k1, k2, k3⟩ := hk
          obtain ⟨a1, vs, rfl, q1, r1⟩ := itemsL_ok sr rx h1
          have l1 := r1.length
          exact .inr (.inr (.inr ⟨a1, k, vs, rfl, rp_int.mp ry, q1, k1, k2, by rw [← l1]; exact k3, fun p hp => rp_newL sr hp (r1.rep _) h⟩))
        · exact h.elim
      | none => simp only [e3] at h; exact h.elim
theorem de_mul (ha : DE X T W a f) (hb : DE X T W b g) : DE X T W (.BinOp a .Mult b pos) (d2 f g mulD) := de_op op_mulAll hk_mul ha hb
def fdivD (x y : D) (cs : List Cell) : Out D := match both (asI x) (asI y) with
  | some (i, j) => if CDivX i j then .ok (.int (i / j)) cs else .no
  | none => .no
theorem hk_fdiv {K : PySem.W.Frag} : Hk2 T K (fun x y H Q => ∃ i j, x = .int i ∧ y = .int j ∧ CDivX i j ∧ Q (.int (i / j)) H) fdivD := by
  intro I m cs H x y v u Q E sr rx ry h
  unfold fdivD at h
  cases e1 : both (asI x) (asI y) with
  | some p =>
    obtain ⟨h1, h2⟩ := both_ok e1
    have e := asI_ok h1; subst e; have e := asI_ok h2; subst e
    simp only [e1] at h
    split at h
    · rename_i hc
      exact ⟨_, _, rp_int.mp rx, rp_int.mp ry, hc, h.okI sr (rp_int.mpr rfl)⟩
    · exact h.elim
  | none => simp only [e1] at h; exact h.elim
theorem de_fdiv (ha : DE X T W a f) (hb : DE X T W b g) : DE X T W (.BinOp a .FloorDiv b pos) (d2 f g fdivD) := de_op op_fdivX hk_fdiv ha hb
def modD (x y : D) (cs : List Cell) : Out D := match both (asI x) (asI y) with
  | some (i, j) => if 0 < j then .ok (.int (i % j)) cs else .no
  | none => .no
theorem hk_mod {K : PySem.W.Frag} : Hk2 T K (rI (fun _ j => 0 < j) fun i j => .int (i % j)) modD := by
  intro I m cs H x y v u Q E sr rx ry h
  unfold modD at h
  cases e1 : both (asI x) (asI y) with
  | some p =>
    obtain ⟨h1, h2⟩ := both_ok e1
    have e := asI_ok h1; subst e; have e := asI_ok h2; subst e
    simp only [e1] at h
    split at h
    · rename_i hc
      exact ⟨_, _, rp_int.mp rx, rp_int.mp ry, hc, h.okI sr (rp_int.mpr rfl)⟩
    · exact h.elim
  | none => simp only [e1] at h; exact h.elim
theorem de_mod (ha : DE X T W a f) (hb : DE X T W b g) : DE X T W (.BinOp a .Mod b pos) (d2 f g modD) := de_op op_mod hk_mod ha hb
def powD (x y : D) (cs : List Cell) : Out D := match both (asI x) (asI y) with
  | some (i, j) => if CPow i j then .ok (.int (i ^ j.toNat)) cs else .no
  | none => .no
theorem hk_pow {K : PySem.W.Frag} : Hk2 T K (rI CPow fun i j => .int (i ^ j.toNat)) powD := by
  intro I m cs H x y v u Q E sr rx ry h
  unfold powD at h
  cases e1 : both (asI x) (asI y) with
  | some p =>
    obtain ⟨h1, h2⟩ := both_ok e1
    have e := asI_ok h1; subst e; have e := asI_ok h2; subst e
    simp only [e1] at h
    split at h
    · rename_i hc
      exact ⟨_, _, rp_int.mp rx, rp_int.mp ry, hc, h.okI sr (rp_int.mpr rfl)⟩
    · exact h.elim
  | none => simp only [e1] at h; exact h.elim
theorem de_pow (ha : DE X T W a f) (hb : DE X T W b g) : DE X T W (.BinOp a .Pow b pos) (d2 f g powD) := de_op op_pow hk_pow ha hb
/-- -x -/
def negD (x : D) (cs : List Cell) : Out D := match asI x with
  | some i => .ok (.int (-i)) cs
  | none => .no
theorem de_neg (ha : DE X T W a f) : DE X T W (.UnaryOp .USub a pos) (d1 f negD) := by
  refine PE.imp (pe_un un_neg ha) ?_
  rintro σ H Q ⟨I, m, cs, env, er, sr, h⟩
  refine ⟨I, m, cs, env, er, sr, OutG.bindI h fun x cs1 v H1 I1 m1 s1 p1 sr1 r1 h1 => ?_⟩
  unfold negD at h1
  cases e1 : asI x with
  | some i =>
    have e := asI_ok e1; subst e
    simp only [e1] at h1
    exact ⟨i, rp_int.mp r1, h1.okI sr1 (rp_int.mpr rfl)⟩
  | none => simp only [e1] at h1; exact h1.elim

/-! ### comparisons of ints -/
def cmpD (p : Int → Int → Bool) (x y : D) (cs : List Cell) : Out D := match both (asI x) (asI y) with
  | some (i, j) => .ok (.bl (p i j)) cs
  | none => .no
theorem hk_cmp {K : PySem.W.Frag} {p : Int → Int → Bool} : Hk2 T K (rI0 fun i j => .bl (p i j)) (cmpD p) := by
  intro I m cs H x y v u Q E sr rx ry h
  unfold cmpD at h
  cases e1 : both (asI x) (asI y) with
  | some p =>
    obtain ⟨h1, h2⟩ := both_ok e1
    have e := asI_ok h1; subst e; have e := asI_ok h2; subst e
    simp only [e1] at h
    exact ⟨_, _, rp_int.mp rx, rp_int.mp ry, h.okI sr (rp_bl.mpr rfl)⟩
  | none => simp only [e1] at h; exact h.elim
abbrev ltD := cmpD fun i j => decide (i < j)
abbrev leD := cmpD fun i j => decide (i ≤ j)
abbrev gtD := cmpD fun i j => decide (j < i)
abbrev geD := cmpD fun i j => decide (j ≤ i)
theorem dc_lt (ha : DE X T W a f) (hb : DE X T W b g) : DC X T W .Lt a b (d2 f g ltD) := dc_op op_lt hk_cmp ha hb
theorem dc_le (ha : DE X T W a f) (hb : DE X T W b g) : DC X T W .LtE a b (d2 f g leD) := dc_op op_le hk_cmp ha hb
theorem dc_gt (ha : DE X T W a f) (hb : DE X T W b g) : DC X T W .Gt a b (d2 f g gtD) := dc_op op_gt hk_cmp ha hb
theorem dc_ge (ha : DE X T W a f) (hb : DE X T W b g) : DC X T W .GtE a b (d2 f g geD) := dc_op op_ge hk_cmp ha hb
/-- a < b < c and its like, on ints -/
def chainD (f g k : Den D) (p q : Int → Int → Bool) : Den D := fun env cs => (f env cs).bind fun x cs => (g env cs).bind fun y cs => match both (asI x) (asI y) with
  | some (i, j) => if p i j = true then (k env cs).bind fun z cs => cmpD q y z cs else .ok (.bl false) cs
  | none => .no
theorem chain_rd {p q : Int → Int → Bool} {k : Den D} {ta tb tc : TE} (e1 : ta = tG T X.K W (RD T X.K) f) (e2 : tb = tG T X.K W (RD T X.K) g) (e3 : tc = tG T X.K W (RD T X.K) k) :
    ∀ σ H Q, tG T X.K W (RD T X.K) (chainD f g k p q) σ H Q → tChain (rI0 fun i j => .bl (p i j)) (rI0 fun i j => .bl (q i j)) ta tb tc σ H Q := by
  subst e1 e2 e3
  rintro σ H Q ⟨I, m, cs, env, er, sr, h⟩
  refine ⟨I, m, cs, env, er, sr, OutG.bindI h fun x cs1 v H1 I1 m1 s1 p1 sr1 r1 h1 => ?_⟩
  refine ⟨I1, m1, cs1, env, er.mono s1 p1, sr1, OutG.bindI h1 fun y cs2 u H2 I2 m2 s2 p2 sr2 r2 h2 => ?_⟩
  cases e1 : both (asI x) (asI y) with
  | none => simp only [e1] at h2; exact h2.elim
  | some w =>
    obtain ⟨i, j⟩ := w
    obtain ⟨g1, g2⟩ := both_ok e1
    have e := asI_ok g1; subst e; have e := asI_ok g2; subst e
    simp only [e1] at h2
    refine ⟨i, j, rp_int.mp r1, rp_int.mp r2, p i j, rfl, ?_⟩
    split at h2
    · rename_i hp
      rw [if_pos hp]
      refine ⟨I2, m2, cs2, env, (er.mono s1 p1).mono s2 p2, sr2, OutG.bindI h2 fun z cs3 w H3 I3 m3 s3 p3 sr3 r3 h3 => ?_⟩
      exact hk_cmp I3 m3 cs3 H3 _ _ _ _ _ _ sr3 (r2.mono s3 p3) r3 h3
    · rename_i hp
      rw [if_neg hp]
      exact h2.okI sr2 (rp_bl.mpr rfl)
theorem de_chain {op op' : CmpOp} {p q : Int → Int → Bool} {k : Den D} (ho : OpR X (compareOp op) (rI0 fun i j => .bl (p i j))) (ho' : OpR X (compareOp op') (rI0 fun i j => .bl (q i j))) (ha : DE X T W a f) (hb : DE X T W b g) (hc : DE X T W c k)
    (hm : lastMarks [op, op'] [b, c] = false := by with_unfolding_all rfl) : DE X T W (.Compare a [op, op'] [b, c] pos) (chainD f g k p q) :=
  PE.imp (pe_chain ho ho' ha hb hc hm) (chain_rd rfl rfl rfl)
theorem dt_chain {op op' : CmpOp} {p q : Int → Int → Bool} {k : Den D} (ho : OpR X (compareOp op) (rI0 fun i j => .bl (p i j))) (ho' : OpR X (compareOp op') (rI0 fun i j => .bl (q i j))) (ha : DE X T W a f) (hb : DE X T W b g) (hc : DE X T W c k)
    (hm : lastMarks [op, op'] [b, c] = false := by with_unfolding_all rfl) : DT X T W (.Compare a [op, op'] [b, c] pos) (qB (chainD f g k p q)) := by
  refine PT.imp (pt_chain ho ho' ha hb hc hm) ?_
  rintro σ H Q ⟨I, m, cs, env, er, sr, h⟩
  refine chain_rd rfl rfl rfl σ H _ ⟨I, m, cs, env, er, sr, OutG.bindI h fun x cs1 v H1 I1 m1 s1 p1 sr1 r1 h1 => ?_⟩
  cases x with
  | bl b => exact ⟨b, rp_bl.mp r1, OutG.okI h1 sr1 rfl⟩
  | _ => exact h1.elim
end
end
end DL
end

section
set_option Elab.async false
set_option linter.all false
set_option maxRecDepth 100000
set_option maxHeartbeats 4000000
namespace DL
open PySem L2
open Classical
noncomputable section

/-! ### == of data -/
mutual
/-- data that == is said of: n levels at most; ob: objects too -/
def D.okE (ob : List Nat) : D → Nat → Bool
  | .non, _ => true
  | .bl _, _ => true
  | .int _, _ => true
  | .str _, _ => true
  | .tup xs, n + 1 => D.okL ob xs n
  | .lst xs, n + 1 => D.okL ob xs n
  | .obj c xs, n + 2 => decide (c ∈ ob) && D.okL ob xs n
  | _, _ => false
def D.okL (ob : List Nat) : List D → Nat → Bool
  | [], _ => true
  | x :: xs, n => D.okE ob x n && D.okL ob xs n
end
mutual
/-- structural equality; none: nothing is said -/
def eqD : D → D → Option Bool
  | .non, b => match b with
    | .non => some true
    | .bl _ => some false
    | .int _ => some false
    | .str _ => some false
    | .tup _ => some false
    | .lst _ => some false
    | .obj _ _ => some false
    | _ => none
  | .bl a, b => match b with
    | .bl b => some (a == b)
    | .non => some false
    | .str _ => some false
    | .tup _ => some false
    | .lst _ => some false
    | _ => none
  | .int a, b => match b with
    | .int b => some (a == b)
    | .non => some false
    | .str _ => some false
    | .tup _ => some false
    | .lst _ => some false
    | _ => none
  | .str a, b => match b with
    | .str b => some (a == b)
    | .non => some false
    | .bl _ => some false
    | .int _ => some false
    | .tup _ => some false
    | .lst _ => some false
    | _ => none
  | .tup xs, b => match b with
    | .tup ys => eqL xs ys
    | .non => some false
    | .bl _ => some false
    | .int _ => some false
    | .str _ => some false
    | .lst _ => some false
    | _ => none
  | .lst xs, b => match b with
    | .lst ys => eqL xs ys
    | .non => some false
    | .bl _ => some false
    | .int _ => some false
    | .str _ => some false
    | .tup _ => some false
    | _ => none
  | .obj c xs, b => match b with
    | .obj c' ys => if c = c' then eqL xs ys else some false
    | .non => some false
    | _ => none
  | _, _ => none
/-- item by item, up to the first that differ; other lengths: unlike -/
def eqL : List D → List D → Option Bool
  | [], [] => some true
  | [], _ :: _ => some false
  | _ :: _, [] => some false
  | x :: xs, y :: ys => match eqD x y, eqL xs ys with
    | some a, some b => some (a && b)
    | _, _ => none
end
/-- the heap has grown, but for the tables -/
def ExtT (T : Tab) (H H' : Hp) : Prop := (∀ a o, H a = some o → (T.tb = [] ∨ ∀ ps, o ≠ .tbl ps) → H' a = some o) ∧ LamX.Tabs T.tb H'
theorem SR.extT {T : Tab} {K : PySem.W.Frag} {I H H' : Hp} {m : List Addr} {cs : List Cell} (s : SR T K I m cs H) (e : ExtT T H H') : SR T K I m cs H' := by
  have np : ∀ b o, I b = some o → (T.tb = [] ∨ ∀ ps, o ≠ .tbl ps) := fun b o q => by
    by_cases ht : T.tb = []
    · exact .inl ht
    · exact .inr fun ps z => s.ntb ht b ps (z ▸ q)
  exact ⟨fun b o q => e.1 b o (s.same b o q) (np b o q), s.len, fun n c h l => let ⟨a, o, q1, q2, q3, q4⟩ := s.at_ n c h l; ⟨a, o, q1, q2, e.1 a o q3 (.inr q4.plain.1), q4⟩, s.inj, e.2, s.ntb⟩
theorem ExtT.of {T : Tab} {K : PySem.W.Frag} {I H : Hp} {m : List Addr} {cs : List Cell} (s : SR T K I m cs H) : ExtT T H H := ⟨fun _ _ h _ => h, s.tabs⟩
theorem ExtT.trans {T : Tab} {H H1 H2 : Hp} (a : ExtT T H H1) (b : ExtT T H1 H2) : ExtT T H H2 := ⟨fun c o h q => b.1 c o (a.1 c o h q) q, b.2⟩
/-- == on data, somewhere below the running body X, with room n -/
structure EqB (X : Cx) (T : Tab) (n : Nat) (ob : List Nat) (h : Nat) : Prop where
  eqb : ∀ (A : Around) (pins : List (Addr × Obj)) (s : Shared) (σ : St) (H : Hp) (x y : V) (v u : Value) (I : Hp) (m : List Addr) (a b : D) (r : Bool), Sub X n A → Inv X pins σ H s → SR T X.K I [] [] H → Rp T X.K I m a x → Rp T X.K I m b y → RelV x v → RelV y u → a.okE ob h = true → b.okE ob h = true → eqD a b = some r →
    wpAny (model X.prog X.w) A (eqBool v u) (fun r' s' => r' = r ∧ ∃ H', Inv X pins σ H' s' ∧ ExtT T H H') X.xe s
  rce : ∀ (A : Around) (pins : List (Addr × Obj)) (s : Shared) (σ : St) (H : Hp) (x y : V) (v u : Value) (I : Hp) (m : List Addr) (a b : D) (r : Bool), Sub X n A → Inv X pins σ H s → SR T X.K I [] [] H → Rp T X.K I m a x → Rp T X.K I m b y → RelV x v → RelV y u → a.okE ob h = true → b.okE ob h = true → eqD a b = some r →
    wpAny (model X.prog X.w) A (richCompare .Eq v u) (fun r' s' => r' = .bool r ∧ ∃ H', Inv X pins σ H' s' ∧ ExtT T H H') X.xe s
  rcn : ∀ (A : Around) (pins : List (Addr × Obj)) (s : Shared) (σ : St) (H : Hp) (x y : V) (v u : Value) (I : Hp) (m : List Addr) (a b : D) (r : Bool), Sub X n A → Inv X pins σ H s → SR T X.K I [] [] H → Rp T X.K I m a x → Rp T X.K I m b y → RelV x v → RelV y u → a.okE ob h = true → b.okE ob h = true → eqD a b = some r →
    wpAny (model X.prog X.w) A (richCompare .NotEq v u) (fun r' s' => r' = .bool (!r) ∧ ∃ H', Inv X pins σ H' s' ∧ ExtT T H H') X.xe s
  inl : ∀ (A : Around) (pins : List (Addr × Obj)) (s : Shared) (σ : St) (H : Hp) (x y : V) (v u : Value) (I : Hp) (m : List Addr) (a : D) (bs : List D) (r : Bool) (p : Addr) (ys : List V), Sub X n A → Inv X pins σ H s → SR T X.K I [] [] H → Rp T X.K I m a x → y = .ref p → (SqX X.K H p ys ∨ SqT X.K H p ys) → RpL T X.K I m bs ys → RelV x v → RelV y u →
    a.okE ob h = true → (∀ b ∈ bs, b.okE ob h = true ∧ ∃ r', eqD b a = some r') → (r = bs.any fun b => eqD b a == some true) →
    wpAny (model X.prog X.w) A (compareOp .In v u) (fun r' s' => r' = .bool r ∧ ∃ H', Inv X pins σ H' s' ∧ ExtT T H H') X.xe s ∧
    wpAny (model X.prog X.w) A (compareOp .NotIn v u) (fun r' s' => r' = .bool (!r) ∧ ∃ H', Inv X pins σ H' s' ∧ ExtT T H H') X.xe s
theorem SR.ext {T : Tab} {K : PySem.W.Frag} {I H H' : Hp} {m : List Addr} {cs : List Cell} (s : SR T K I m cs H) (e : Ext H H') : SR T K I m cs H' :=
  ⟨fun b o q => e b o (s.same b o q), s.len, fun n c h l => let ⟨a, o, q1, q2, q3, q4⟩ := s.at_ n c h l; ⟨a, o, q1, q2, e a o q3, q4⟩, s.inj, s.tabs.ext e, s.ntb⟩
/-- a cell's list read as data -/
def resL (cs : List Cell) (d : D) : D := match d with
  | .cell n => match cs[n]? with
    | some (.lst xs) => .lst xs
    | _ => d
  | _ => d
theorem SR.bare {T : Tab} {K : PySem.W.Frag} {I H : Hp} {m : List Addr} {cs : List Cell} (sr : SR T K I m cs H) : SR T K I [] [] H :=
  ⟨sr.same, rfl, fun n c e => by simp at e, fun n n' c c' a e => by simp at e, sr.tabs, sr.ntb⟩
theorem resL_ok {T : Tab} {K : PySem.W.Frag} {I H : Hp} {m : List Addr} {cs : List Cell} {d : D} {v : V} (sr : SR T K I m cs H) (r : Rp T K I m d v) : ∃ I', Same I I' ∧ SR T K I' [] [] H ∧ Rp T K I' m (resL cs d) v := by
  cases d with
  | cell n =>
    unfold resL
    simp only
    cases hc : cs[n]? with
    | none => exact ⟨I, Same.refl I, sr.bare, r⟩
    | some c =>
      cases c with
      | lst xs =>
        obtain ⟨a, e1, e2⟩ := rp_cell.mp r
        obtain ⟨a', o, q1, q2, q3, q4⟩ := sr.at_ n _ hc (by intro z; cases z)
        rw [e1] at q1; cases q1
        cases o with
        | lst vs =>
          refine ⟨L2.upd I a (.lst vs), Same.updI q2, ⟨fun b u e => ?_, rfl, fun n c e => by simp at e, fun n n' c c' a e => by simp at e, sr.tabs, fun ht b ps e => ?_⟩, rp_lst.mpr ⟨a, vs, e2, SqX.of upd_same, RpL.mono (Same.updI q2) (List.prefix_refl _) q4⟩⟩
          · by_cases hb : b = a
            · subst hb; rw [upd_same] at e; rw [← e]; exact q3
            · rw [upd_ne hb] at e; exact sr.same b u e
          · by_cases hb : b = a
            · subst hb; rw [upd_same] at e; cases e
            · rw [upd_ne hb] at e; exact sr.ntb ht b ps e
        | _ => exact q4.elim
      | _ => exact ⟨I, Same.refl I, sr.bare, r⟩
  | _ => exact ⟨I, Same.refl I, sr.bare, r⟩
def eqC (ob : List Nat) (h : Nat) (x y : D) (cs : List Cell) : Out D := if ((resL cs x).okE ob h && (resL cs y).okE ob h) = true then (match eqD (resL cs x) (resL cs y) with
  | some r => .ok (.bl r) cs
  | none => .no) else .no
def neC (ob : List Nat) (h : Nat) (x y : D) (cs : List Cell) : Out D := if ((resL cs x).okE ob h && (resL cs y).okE ob h) = true then (match eqD (resL cs x) (resL cs y) with
  | some r => .ok (.bl (!r)) cs
  | none => .no) else .no
/-- two data, read in one heap -/
theorem res2_ok {T : Tab} {K : PySem.W.Frag} {I H : Hp} {m : List Addr} {cs : List Cell} {d e : D} {v u : V} (sr : SR T K I m cs H) (r : Rp T K I m d v) (q : Rp T K I m e u) : ∃ I', Same I I' ∧ SR T K I' [] [] H ∧ Rp T K I' m (resL cs d) v ∧ Rp T K I' m (resL cs e) u := by
  obtain ⟨I1, a1, a2, a3⟩ := resL_ok sr r
  obtain ⟨I2, b1, b2, b3⟩ := resL_ok sr q
  -- both are below H: their union
  refine ⟨fun a => match I1 a with | some o => some o | none => I2 a, fun a o h => ?_, ⟨fun a o h => ?_, rfl, fun n c e => by simp at e, fun n n' c c' a e => by simp at e, sr.tabs, fun ht b ps e => ?_⟩, Rp.mono (fun a o h => ?_) (List.prefix_refl _) a3, Rp.mono (fun a o h => ?_) (List.prefix_refl _) b3⟩
  · simp only [a1 a o h]
  · cases h1 : I1 a with
    | some o' => simp only [h1] at h; cases h; exact a2.same a _ h1
    | none => simp only [h1] at h; exact b2.same a o h
  · cases h1 : I1 b with
    | some o' => simp only [h1] at e; cases e; exact a2.ntb ht b _ h1
    | none => simp only [h1] at e; exact b2.ntb ht b _ e
  · simp only [h]
  · cases h1 : I1 a with
    | some o' =>
      have := a2.same a _ h1
      rw [b2.same a o h] at this
      cases this
      rfl
    | none => simpa using h
section
variable {X : Cx} {T : Tab} {W : WX} {a b c e : Expr} {es : List Expr} {pos : Pos} {f g : Den D} {n h : Nat} {ob : List Nat}
theorem dc_cmp2 {op : CmpOp} {k : D → D → List Cell → Out D} (ha : DE X T W a f) (hb : DE X T W b g)
    (hk : ∀ (pins : List (Addr × Obj)) (s : Shared) (σ : St) (I : Hp) (m : List Addr) (cs : List Cell) (H : Hp) (x y : D) (v u : V) (v' u' : Value) (Q : VK) (E : XK), Inv X pins σ H s → RelV v v' → RelV u u' → SR T X.K I m cs H → Rp T X.K I m x v → Rp T X.K I m y u → OutG T X.K (RD T X.K) I m (k x y cs) Q E → wpAny (model X.prog X.w) X.A (compareOp op v' u') (EP X pins σ Q) X.xe s) :
    DC X T W op a b (d2 f g k) := by
  refine ⟨fun pins s σ H Q J ⟨I, m, cs, env, er, sr, h⟩ => ?_⟩
  refine bin (R := fun v u H2 => ∃ I m cs x y, SR T X.K I m cs H2 ∧ Rp T X.K I m x v ∧ Rp T X.K I m y u ∧ OutG T X.K (RD T X.K) I m (k x y cs) Q fun cls od H' => W cls od σ H') ha hb J ?_ fun v u s2 x y H2 I2 rx ry q => ?_
  · refine ⟨I, m, cs, env, er, sr, OutG.bindI h fun x cs1 v H1 I1 m1 s1 p1 sr1 r1 h1 => ?_⟩
    refine ⟨I1, m1, cs1, env, er.mono s1 p1, sr1, OutG.bindI h1 fun y cs2 u H2 I2 m2 s2 p2 sr2 r2 h2 => ?_⟩
    exact ⟨I2, m2, cs2, x, y, sr2, r1.mono s2 p2, r2, h2⟩
  · obtain ⟨I', m', cs', x', y', q1, q2, q3, q4⟩ := q
    exact hk pins s2 σ I' m' cs' H2 x' y' x y v u Q _ I2 rx ry q1 q2 q3 q4
theorem dc_eq (B : EqB X T n ob h) (hr : Room n X.A) (ha : DE X T W a f) (hb : DE X T W b g) : DC X T W .Eq a b (d2 f g (eqC ob h)) :=
  dc_cmp2 ha hb fun pins s σ I m cs H x y v u v' u' Q E J rv ru sr rx ry h => by
    unfold eqC at h
    split at h
    case isFalse => exact h.elim
    rename_i hok
    obtain ⟨hok1, hok2⟩ := Bool.and_eq_true_iff.mp hok
    obtain ⟨I', a1, a2, a3, a4⟩ := res2_ok sr rx ry
    cases hq : eqD (resL cs x) (resL cs y) with
    | none => simp only [hq] at h; exact h.elim
    | some r =>
      simp only [hq] at h
      refine wpAny_mono (B.rce X.A pins s σ H v u v' u' I' m _ _ r ⟨hr, rfl⟩ J a2 a3 a4 rv ru hok1 hok2 hq) (fun z s' q => ?_) fun _ _ x => x
      obtain ⟨rfl, H', J', ex⟩ := q
      exact ⟨.bl r, H', J', rfl, h.okI (sr.extT ex) (rp_bl.mpr rfl)⟩
theorem dc_ne (B : EqB X T n ob h) (hr : Room n X.A) (ha : DE X T W a f) (hb : DE X T W b g) : DC X T W .NotEq a b (d2 f g (neC ob h)) :=
  dc_cmp2 ha hb fun pins s σ I m cs H x y v u v' u' Q E J rv ru sr rx ry h => by
    unfold neC at h
    split at h
    case isFalse => exact h.elim
    rename_i hok
    obtain ⟨hok1, hok2⟩ := Bool.and_eq_true_iff.mp hok
    obtain ⟨I', a1, a2, a3, a4⟩ := res2_ok sr rx ry
    cases hq : eqD (resL cs x) (resL cs y) with
    | none => simp only [hq] at h; exact h.elim
    | some r =>
      simp only [hq] at h
      refine wpAny_mono (B.rcn X.A pins s σ H v u v' u' I' m _ _ r ⟨hr, rfl⟩ J a2 a3 a4 rv ru hok1 hok2 hq) (fun z s' q => ?_) fun _ _ x => x
      obtain ⟨rfl, H', J', ex⟩ := q
      exact ⟨.bl (!r), H', J', rfl, h.okI (sr.extT ex) (rp_bl.mpr rfl)⟩
/-- is None -/
def isNonD (d : D) : Option Bool := match d with
  | .non => some true
  | .exc _ _ _ => none
  | _ => some false
def isC (neg : Bool) (x : D) (cs : List Cell) : Out D := match isNonD x with
  | some r => .ok (.bl (if neg then !r else r)) cs
  | none => .no
theorem isNonD_ok {K : PySem.W.Frag} {I : Hp} {m : List Addr} {d : D} {v : V} {r : Bool} (h : Rp T K I m d v) (e : isNonD d = some r) : decide (v = .non) = r := by
  cases d <;> unfold Rp at h <;> cases e
  case non => simp [h]
  case bl => simp [h]
  case int => simp [h]
  case str => simp [h]
  case tup => obtain ⟨_, _, rfl, _⟩ := h; simp
  case lst => obtain ⟨_, _, rfl, _⟩ := h; simp
  case obj => obtain ⟨_, _, _, rfl, _⟩ := h; simp
  case dic => obtain ⟨_, _, rfl, _⟩ := h; simp
  case cell => obtain ⟨_, _, rfl⟩ := h; simp
theorem dc_isN {j p2} (ha : DE X T W a f) : DC X T W .Is a (.Constant .none j p2) (d1 f (isC false)) := by
  refine PC.imp (pc_isN ha) ?_
  rintro σ H Q ⟨I, m, cs, env, er, sr, h⟩
  refine ⟨I, m, cs, env, er, sr, OutG.bindI h fun x cs1 v H1 I1 m1 s1 p1 sr1 r1 h1 => ?_⟩
  unfold isC at h1
  cases e1 : isNonD x with
  | none => simp only [e1] at h1; exact h1.elim
  | some r =>
    simp only [e1] at h1
    rw [isNonD_ok r1 e1]
    exact h1.okI sr1 (rp_bl.mpr rfl)
theorem dc_notN {j p2} (ha : DE X T W a f) : DC X T W .IsNot a (.Constant .none j p2) (d1 f (isC true)) := by
  refine PC.imp (pc_notN ha) ?_
  rintro σ H Q ⟨I, m, cs, env, er, sr, h⟩
  refine ⟨I, m, cs, env, er, sr, OutG.bindI h fun x cs1 v H1 I1 m1 s1 p1 sr1 r1 h1 => ?_⟩
  unfold isC at h1
  cases e1 : isNonD x with
  | none => simp only [e1] at h1; exact h1.elim
  | some r =>
    simp only [e1] at h1
    rw [isNonD_ok r1 e1]
    exact h1.okI sr1 (rp_bl.mpr rfl)
/-- x in xs (a list, a tuple); one sign in a text -/
def inC (ob : List Nat) (h : Nat) (neg : Bool) (x y : D) (cs : List Cell) : Out D := match y with
  | .str z => match x with
    | .str ⟨⟨[c]⟩⟩ => .ok (.bl (if neg then !decide (c ∈ z.cps.toList) else decide (c ∈ z.cps.toList))) cs
    | _ => .no
  | y => match itemsS cs y with
    | some bs => if (D.okE ob (resL cs x) h && bs.all fun b => D.okE ob b h && (eqD b (resL cs x)).isSome) = true then .ok (.bl (if neg then !(bs.any fun b => eqD b (resL cs x) == some true) else bs.any fun b => eqD b (resL cs x) == some true)) cs else .no
    | none => .no
theorem rp_strc {K : PySem.W.Frag} {I : Hp} {m : List Addr} {ob : List Nat} {hh : Nat} {y : D} (h : ∀ z, y ≠ .str z) (neg : Bool) (x : D) (cs : List Cell) : inC ob hh neg x y cs = match itemsS cs y with
    | some bs => if (D.okE ob (resL cs x) hh && bs.all fun b => D.okE ob b hh && (eqD b (resL cs x)).isSome) = true then .ok (.bl (if neg then !(bs.any fun b => eqD b (resL cs x) == some true) else bs.any fun b => eqD b (resL cs x) == some true)) cs else .no
    | none => .no := by
  cases y <;> first | rfl | exact absurd rfl (h _)
theorem in_hk (B : EqB X T n ob h) (hr : Room n X.A) (neg : Bool) (op : CmpOp) (ho : op = if neg then .NotIn else .In) :
    ∀ (pins : List (Addr × Obj)) (s : Shared) (σ : St) (I : Hp) (m : List Addr) (cs : List Cell) (H : Hp) (x y : D) (v u : V) (v' u' : Value) (Q : VK) (E : XK), Inv X pins σ H s → RelV v v' → RelV u u' → SR T X.K I m cs H → Rp T X.K I m x v → Rp T X.K I m y u → OutG T X.K (RD T X.K) I m (inC ob h neg x y cs) Q E → wpAny (model X.prog X.w) X.A (compareOp op v' u') (EP X pins σ Q) X.xe s := by
  intro pins s σ I m cs H x y v u v' u' Q E J rv ru sr rx ry hh
  by_cases hy : ∃ z, y = .str z
  · obtain ⟨z, rfl⟩ := hy
    unfold inC at hh
    simp only at hh
    split at hh
    · rename_i c
      have e1 := rp_str.mp rx
      have e2 := rp_str.mp ry
      cases neg with
      | false =>
        subst ho
        exact op_in_sign pins s σ H v u v' u' Q J rv ru ⟨c, z, e1, e2, hh.okI sr (rp_bl.mpr rfl)⟩
      | true =>
        subst ho
        exact op_notIn_sign pins s σ H v u v' u' Q J rv ru ⟨c, z, e1, e2, hh.okI sr (rp_bl.mpr rfl)⟩
    · exact hh.elim
  · rw [rp_strc (K := X.K) (I := I) (m := m) (fun z e => hy ⟨z, e⟩)] at hh
    cases hb : itemsS cs y with
    | none => simp only [hb] at hh; exact hh.elim
    | some bs =>
      simp only [hb] at hh
      split at hh
      · rename_i hall
        obtain ⟨hall0, hall⟩ := Bool.and_eq_true_iff.mp hall
        obtain ⟨I', a1, a2, a3⟩ := resL_ok sr rx
        obtain ⟨p, ys, e, q1, q2⟩ := itemsS_ok sr ry hb


        have hB := B.inl X.A pins s σ H v u v' u' I' m (resL cs x) bs _ p ys ⟨hr, rfl⟩ J a2 a3 e q1 (RpL.mono a1 (List.prefix_refl _) q2) rv ru hall0 (fun b hb' => ⟨(Bool.and_eq_true_iff.mp (List.all_eq_true.mp hall b hb')).1, Option.isSome_iff_exists.mp (Bool.and_eq_true_iff.mp (List.all_eq_true.mp hall b hb')).2⟩) rfl
        cases neg with
        | false =>
          subst ho
          refine wpAny_mono hB.1 (fun z s' q => ?_) fun _ _ x => x
          obtain ⟨rfl, H', J', ex⟩ := q
          exact ⟨.bl _, H', J', rfl, hh.okI (sr.extT ex) (rp_bl.mpr rfl)⟩
        | true =>
          subst ho
          refine wpAny_mono hB.2 (fun z s' q => ?_) fun _ _ x => x
          obtain ⟨rfl, H', J', ex⟩ := q
          exact ⟨.bl _, H', J', rfl, hh.okI (sr.extT ex) (rp_bl.mpr rfl)⟩
      · exact hh.elim
theorem dc_in (B : EqB X T n ob h) (hr : Room n X.A) (ha : DE X T W a f) (hb : DE X T W b g) : DC X T W .In a b (d2 f g (inC ob h false)) :=
  dc_cmp2 ha hb (in_hk B hr false .In rfl)
theorem dc_nin (B : EqB X T n ob h) (hr : Room n X.A) (ha : DE X T W a f) (hb : DE X T W b g) : DC X T W .NotIn a b (d2 f g (inC ob h true)) :=
  dc_cmp2 ha hb (in_hk B hr true .NotIn rfl)
end
end
end DL
end

section
set_option Elab.async false
set_option linter.all false
set_option maxRecDepth 100000
set_option maxHeartbeats 4000000
namespace DL
open PySem L2
open Classical
noncomputable section
section
variable {X : Cx} {T : Tab} {W : WX} {a b c e : Expr} {es rest : List Expr} {pos : Pos} {f g k : Den D} {p q r : Den Bool} {n : Nat}

/-! ### tests -/
theorem dt_val (h : DE X T W e f) (he : ∀ whole, isTrue e X.env whole = (do let v ← whole; standAt e.pos; holding [v] (truthy v)) := by intro _; rfl) : DT X T W e (qB f) := by
  refine PT.imp (pt_val h he) ?_
  rintro σ H Q ⟨I, m, cs, env, er, sr, h⟩
  refine ⟨I, m, cs, env, er, sr, OutG.bindI h fun x cs1 v H1 I1 m1 s1 p1 sr1 r1 h1 => ?_⟩
  cases x with
  | bl b => exact ⟨b, rp_bl.mp r1, OutG.okI h1 sr1 rfl⟩
  | _ => exact h1.elim
/-- truth of a text, a list, a tuple, an int -/
def truD (cs : List Cell) (d : D) : Option Bool := match d with
  | .bl b => some b
  | .non => some false
  | .int i => some (i != 0)
  | .str s => if fits s.length then some ((s.length : Int) != 0) else none
  | d => (itemsS cs d).map fun xs => !xs.isEmpty
def qTru (f : Den D) : Den Bool := fun env cs => (f env cs).bind fun x cs => match truD cs x with
  | some b => .ok b cs
  | none => .no
theorem truD_ok {K : PySem.W.Frag} {I H : Hp} {m : List Addr} {cs : List Cell} {d : D} {v : V} {r : Bool} (sr : SR T K I m cs H) (h : Rp T K I m d v) (e : truD cs d = some r) : TruV K v H r := by
  have seq : (itemsS cs d).map (fun xs => !xs.isEmpty) = some r → TruV K v H r := fun e => by
    cases hi : itemsS cs d with
    | none => rw [hi] at e; cases e
    | some xs =>
      rw [hi] at e
      have e' : (!xs.isEmpty) = r := Option.some.inj e
      obtain ⟨a, vs, rfl, q1, q2⟩ := itemsS_ok sr h hi
      have l := q2.length
      have ee : r = !vs.isEmpty := by
        rw [← e']
        cases xs <;> cases vs <;> simp_all
      rcases q1 with q1 | q1
      · exact .inl ⟨vs, q1.l, ee⟩
      · exact .inr (.inl ⟨vs, q1, ee⟩)
  cases d with
  | non => cases e; rw [rp_non.mp h]; rfl
  | bl b => cases e; rw [rp_bl.mp h]; rfl
  | int i => cases e; rw [rp_int.mp h]; rfl
  | str s =>
    rw [rp_str.mp h]
    unfold truD at e
    simp only at e
    split at e
    · rename_i hz
      cases e
      exact ⟨hz, rfl⟩
    · cases e
  | _ => exact seq e
theorem dt_tru (h : DE X T W e f) (he : ∀ whole, isTrue e X.env whole = (do let v ← whole; standAt e.pos; holding [v] (truthy v)) := by intro _; rfl) : DT X T W e (qTru f) := by
  refine PT.imp (pt_truth h he) ?_
  rintro σ H Q ⟨I, m, cs, env, er, sr, h⟩
  refine ⟨I, m, cs, env, er, sr, OutG.bindI h fun x cs1 v H1 I1 m1 s1 p1 sr1 r1 h1 => ?_⟩
  cases e1 : truD cs1 x with
  | none => simp only [e1] at h1; exact h1.elim
  | some b =>
    simp only [e1] at h1
    exact ⟨b, truD_ok sr1 r1 e1, h1.okI sr1 rfl⟩
def qNot (p : Den Bool) : Den Bool := fun env cs => (p env cs).bind fun b cs => .ok (!b) cs
theorem dt_not (h : DT X T W e p) : DT X T W (.UnaryOp .Not e pos) (qNot p) := by
  refine PT.imp (pt_not h) ?_
  rintro σ H Q ⟨I, m, cs, env, er, sr, h⟩
  refine ⟨I, m, cs, env, er, sr, OutG.bindI h fun x cs1 v H1 I1 m1 s1 p1 sr1 r1 h1 => ?_⟩
  have e : x = v := r1
  subst e
  exact h1.okI sr1 rfl
def qAnd (p q : Den Bool) : Den Bool := fun env cs => (p env cs).bind fun b cs => if b = true then q env cs else .ok false cs
def qOr (p q : Den Bool) : Den Bool := fun env cs => (p env cs).bind fun b cs => if b = true then .ok true cs else q env cs
theorem dw_and1 (h : DT X T W e p) : DW X T W (.BoolOp .And [e] pos) p := PW.imp (pw_and1 h) fun _ _ _ q => q
theorem dw_or1 (h : DT X T W e p) : DW X T W (.BoolOp .Or [e] pos) p := PW.imp (pw_or1 h) fun _ _ _ q => q
theorem dw_and (ha : DT X T W a p) (hb : DW X T W (.BoolOp .And (b :: rest) pos) q) : DW X T W (.BoolOp .And (a :: b :: rest) pos) (qAnd p q) := by
  refine PW.imp (pw_and ha hb) ?_
  rintro σ H Q ⟨I, m, cs, env, er, sr, h⟩
  refine ⟨I, m, cs, env, er, sr, OutG.bindI h fun x cs1 v H1 I1 m1 s1 p1 sr1 r1 h1 => ?_⟩
  have e : x = v := r1
  subst e
  cases x with
  | true => exact ⟨I1, m1, cs1, env, er.mono s1 p1, sr1, h1⟩
  | false => exact h1.okI sr1 rfl
theorem dw_or (ha : DT X T W a p) (hb : DW X T W (.BoolOp .Or (b :: rest) pos) q) : DW X T W (.BoolOp .Or (a :: b :: rest) pos) (qOr p q) := by
  refine PW.imp (pw_or ha hb) ?_
  rintro σ H Q ⟨I, m, cs, env, er, sr, h⟩
  refine ⟨I, m, cs, env, er, sr, OutG.bindI h fun x cs1 v H1 I1 m1 s1 p1 sr1 r1 h1 => ?_⟩
  have e : x = v := r1
  subst e
  cases x with
  | false => exact ⟨I1, m1, cs1, env, er.mono s1 p1, sr1, h1⟩
  | true => exact h1.okI sr1 rfl
theorem DW.tt (h : DW X T W e p) : DT X T W e p := PW.pt h
/-- .. as values -/
def eAnd (f g : Den D) : Den D := fun env cs => (f env cs).bind fun x cs => match asB x with
  | some b => if b = true then g env cs else .ok (.bl false) cs
  | none => .no
def eOr (f g : Den D) : Den D := fun env cs => (f env cs).bind fun x cs => match asB x with
  | some b => if b = true then .ok (.bl true) cs else g env cs
  | none => .no
def eNot (f : Den D) : Den D := fun env cs => (f env cs).bind fun x cs => match asB x with
  | some b => .ok (.bl (!b)) cs
  | none => .no
theorem de_one {op} (h : DE X T W a f) : DE X T W (.BoolOp op [a] pos) f := PE.imp (pe_one h) fun _ _ _ q => q
theorem de_and (ha : DE X T W a f) (hb : DE X T W (.BoolOp .And (b :: rest) pos) g) : DE X T W (.BoolOp .And (a :: b :: rest) pos) (eAnd f g) := by
  refine PE.imp (pe_and ha hb) ?_
  rintro σ H Q ⟨I, m, cs, env, er, sr, h⟩
  refine ⟨I, m, cs, env, er, sr, OutG.bindI h fun x cs1 v H1 I1 m1 s1 p1 sr1 r1 h1 => ?_⟩
  cases e1 : asB x with
  | none => simp only [e1] at h1; exact h1.elim
  | some b =>
    have e := asB_ok e1; subst e
    simp only [e1] at h1
    refine ⟨b, rp_bl.mp r1, ?_⟩
    cases b with
    | true => exact ⟨I1, m1, cs1, env, er.mono s1 p1, sr1, h1⟩
    | false => exact h1.okI sr1 (rp_bl.mpr rfl)
theorem de_or (ha : DE X T W a f) (hb : DE X T W (.BoolOp .Or (b :: rest) pos) g) : DE X T W (.BoolOp .Or (a :: b :: rest) pos) (eOr f g) := by
  refine PE.imp (pe_or ha hb) ?_
  rintro σ H Q ⟨I, m, cs, env, er, sr, h⟩
  refine ⟨I, m, cs, env, er, sr, OutG.bindI h fun x cs1 v H1 I1 m1 s1 p1 sr1 r1 h1 => ?_⟩
  cases e1 : asB x with
  | none => simp only [e1] at h1; exact h1.elim
  | some b =>
    have e := asB_ok e1; subst e
    simp only [e1] at h1
    refine ⟨b, rp_bl.mp r1, ?_⟩
    cases b with
    | false => exact ⟨I1, m1, cs1, env, er.mono s1 p1, sr1, h1⟩
    | true => exact h1.okI sr1 (rp_bl.mpr rfl)
theorem de_not (ha : DE X T W a f) : DE X T W (.UnaryOp .Not a pos) (eNot f) := by
  refine PE.imp (pe_not ha) ?_
  rintro σ H Q ⟨I, m, cs, env, er, sr, h⟩
  refine ⟨I, m, cs, env, er, sr, OutG.bindI h fun x cs1 v H1 I1 m1 s1 p1 sr1 r1 h1 => ?_⟩
  cases e1 : asB x with
  | none => simp only [e1] at h1; exact h1.elim
  | some b =>
    have e := asB_ok e1; subst e
    simp only [e1] at h1
    exact ⟨b, rp_bl.mp r1, h1.okI sr1 (rp_bl.mpr rfl)⟩
/-- or by truth -/
def eOrT (f g : Den D) : Den D := fun env cs => (f env cs).bind fun x cs => match truD cs x with
  | some b => if b = true then .ok x cs else g env cs
  | none => .no
theorem de_orT (ha : DE X T W a f) (hb : DE X T W (.BoolOp .Or (b :: rest) pos) g) : DE X T W (.BoolOp .Or (a :: b :: rest) pos) (eOrT f g) := by
  refine PE.imp (pe_orT ha hb) ?_
  rintro σ H Q ⟨I, m, cs, env, er, sr, h⟩
  refine ⟨I, m, cs, env, er, sr, OutG.bindI h fun x cs1 v H1 I1 m1 s1 p1 sr1 r1 h1 => ?_⟩
  cases e1 : truD cs1 x with
  | none => simp only [e1] at h1; exact h1.elim
  | some b =>
    simp only [e1] at h1
    refine ⟨b, truD_ok sr1 r1 e1, ?_⟩
    cases b with
    | false => exact ⟨I1, m1, cs1, env, er.mono s1 p1, sr1, h1⟩
    | true => exact h1.okI sr1 r1
def dIf (p : Den Bool) (f g : Den D) : Den D := fun env cs => (p env cs).bind fun b cs => if b = true then f env cs else g env cs
theorem de_if (hc : DT X T W c p) (ha : DE X T W a f) (hb : DE X T W b g) : DE X T W (.IfExp c a b pos) (dIf p f g) := by
  refine PE.imp (pe_ifExp hc ha hb) ?_
  rintro σ H Q ⟨I, m, cs, env, er, sr, h⟩
  refine ⟨I, m, cs, env, er, sr, OutG.bindI h fun x cs1 v H1 I1 m1 s1 p1 sr1 r1 h1 => ?_⟩
  have e : x = v := r1
  subst e
  split at h1
  · rename_i hx
    rw [if_pos hx]
    exact ⟨I1, m1, cs1, env, er.mono s1 p1, sr1, h1⟩
  · rename_i hx
    rw [if_neg hx]
    exact ⟨I1, m1, cs1, env, er.mono s1 p1, sr1, h1⟩

/-! ### lists of expressions, displays -/
def dNil : Den (List D) := fun _ cs => .ok [] cs
def dCons (f : Den D) (g : Den (List D)) : Den (List D) := fun env cs => (f env cs).bind fun x cs => (g env cs).bind fun xs cs => .ok (x :: xs) cs
theorem da_nil : DA X T W [] dNil := PA.imp pa_nil fun σ H Q ⟨I, m, cs, env, er, sr, h⟩ => OutG.okI h sr RpL.nil
theorem da_cons {g : Den (List D)} (ha : DE X T W e f) (hb : DA X T W es g) (hs : starEach (e :: es) X.env = (false, eval e X.env) :: starEach es X.env := by rfl) : DA X T W (e :: es) (dCons f g) := by
  refine PA.imp (pa_cons ha hb hs) ?_
  rintro σ H Q ⟨I, m, cs, env, er, sr, h⟩
  refine ⟨I, m, cs, env, er, sr, OutG.bindI h fun x cs1 v H1 I1 m1 s1 p1 sr1 r1 h1 => ?_⟩
  refine ⟨I1, m1, cs1, env, er.mono s1 p1, sr1, OutG.bindI h1 fun y cs2 u H2 I2 m2 s2 p2 sr2 r2 h2 => ?_⟩
  exact h2.okI sr2 (RpL.cons (r1.mono s2 p2) r2)
def dTup (f : Den (List D)) : Den D := fun env cs => (f env cs).bind fun xs cs => if fits xs.length then .ok (.tup xs) cs else .no
/-- a list that is not changed any more -/
def dLst (f : Den (List D)) : Den D := fun env cs => (f env cs).bind fun xs cs => if fits xs.length then .ok (.lst xs) cs else .no
/-- a list that may be changed: a new cell -/
def dLstC (f : Den (List D)) : Den D := fun env cs => (f env cs).bind fun xs cs => if fits xs.length then .ok (.cell cs.length) (cs ++ [.lst xs]) else .no
theorem de_tup {g : Den (List D)} {j} (h : DA X T W es g) : DE X T W (.Tuple es j pos) (dTup g) := by
  refine PE.imp (pe_tup h) ?_
  rintro σ H Q ⟨I, m, cs, env, er, sr, h⟩
  refine ⟨I, m, cs, env, er, sr, OutG.bindI h fun x cs1 v H1 I1 m1 s1 p1 sr1 r1 h1 => ?_⟩
  split at h1
  · rename_i hz
    exact ⟨by rw [← RpL.length r1]; exact hz, fun p hp => rp_newT sr1 hp r1 h1⟩
  · exact h1.elim
theorem de_lst {g : Den (List D)} (h : DA X T W es g) : DE X T W (.List es pos) (dLst g) := by
  refine PE.imp (pe_lst h) ?_
  rintro σ H Q ⟨I, m, cs, env, er, sr, h⟩
  refine ⟨I, m, cs, env, er, sr, OutG.bindI h fun x cs1 v H1 I1 m1 s1 p1 sr1 r1 h1 => ?_⟩
  split at h1
  · rename_i hz
    exact ⟨by rw [← RpL.length r1]; exact hz, fun p hp => rp_newL sr1 hp r1 h1⟩
  · exact h1.elim
theorem rp_newC {K : PySem.W.Frag} {I H : Hp} {m : List Addr} {cs : List Cell} {c : Cell} {o : HO} {p : Addr} {Q : VK} {E : XK} (sr : SR T K I m cs H) (hp : H p = none) (r : CellR T K I m c o) (h : OutG T K (RD T K) I m (.ok (.cell cs.length) (cs ++ [c])) Q E) : Q (.ref p) (upd H p o) := by
  have s1 := sr.newC hp r
  exact h (.ref p) _ I (m ++ [p]) (Same.refl I) (List.prefix_append _ _) s1 (rp_cell.mpr ⟨p, by rw [← sr.len]; simp, rfl⟩)
theorem de_lstC {g : Den (List D)} (h : DA X T W es g) : DE X T W (.List es pos) (dLstC g) := by
  refine PE.imp (pe_lst h) ?_
  rintro σ H Q ⟨I, m, cs, env, er, sr, h⟩
  refine ⟨I, m, cs, env, er, sr, OutG.bindI h fun x cs1 v H1 I1 m1 s1 p1 sr1 r1 h1 => ?_⟩
  split at h1
  · rename_i hz
    exact ⟨by rw [← RpL.length r1]; exact hz, fun p hp => rp_newC (c := .lst x) sr1 hp r1 h1⟩
  · exact h1.elim
def dDicC : Den D := fun _ cs => .ok (.cell cs.length) (cs ++ [.dic [] []])
theorem de_dicC : DE X T W (.Dict [] [] pos) dDicC := by
  refine PE.imp pe_dnewK ?_
  rintro σ H Q ⟨I, m, cs, env, er, sr, h⟩
  exact fun p hp => rp_newC (c := .dic [] []) sr hp ⟨rfl, RpL.nil⟩ h
end
end
end DL
end

section
set_option Elab.async false
set_option linter.all false
set_option maxRecDepth 100000
set_option maxHeartbeats 4000000
namespace DL
open PySem L2
open Classical
noncomputable section
section
variable {X : Cx} {T : Tab} {W : WX} {a b c e o : Expr} {es rest : List Expr} {pos : Pos} {f g k : Den D} {p q r : Den Bool} {n : Nat}

/-! ### attributes -/
def atK (k : Nat) : List Nat → List D → Option D
  | k' :: ks, d :: ds => if k = k' then some d else atK k ks ds
  | _, _ => none
/-- what the table asks of the text's classes -/
def TabOk (K : PySem.W.Frag) (T : Tab) : Prop := ∀ c k, k ∈ T.od c → Cls K (T.ca c) ∧ NoAttr K (T.ca c) (T.nm k)
theorem atK_ok {K : PySem.W.Frag} {I : Hp} {m : List Addr} {k : Nat} (inj : ∀ i j, T.nm i = T.nm j → i = j) : ∀ {ks : List Nat} {ds : List D} {gs : List (Str × V)} {d : D}, gs.map (·.1) = ks.map T.nm → RpL T K I m ds (gs.map (·.2)) → atK k ks ds = some d →
    k ∈ ks ∧ ∃ v, gs.lookup (T.nm k) = some v ∧ Rp T K I m d v
  | [], _, _, _, _, _, h => by cases h
  | k' :: ks, [], gs, d, e, r, h => by cases h
  | k' :: ks, x :: ds, [], d, e, r, h => by simp at e
  | k' :: ks, x :: ds, (n, v) :: gs, d, e, r, h => by
    simp only [List.map_cons, List.cons.injEq] at e
    obtain ⟨v', r', e', q, r2⟩ := r.inv
    simp only [List.map_cons, List.cons.injEq] at e'
    obtain ⟨rfl, rfl⟩ := e'
    unfold atK at h
    split at h
    · rename_i hk
      subst hk
      cases h
      refine ⟨List.mem_cons_self, v, ?_, q⟩
      rw [e.1]
      simp [List.lookup]
    · rename_i hk
      obtain ⟨m1, w, h1, h2⟩ := atK_ok inj e.2 r2 h
      refine ⟨List.mem_cons_of_mem _ m1, w, ?_, h2⟩
      have hne : (T.nm k == n) = false := by
        rw [e.1]
        exact beq_eq_false_iff_ne.mpr fun z => hk (inj _ _ z)
      simp only [List.lookup, hne]
      exact h1
def getD (od : Nat → List Nat) (k : Nat) (x : D) (cs : List Cell) : Out D := match x with
  | .obj c ds => match atK k (od c) ds with
    | some d => .ok d cs
    | none => .no
  | .cell n => match cs[n]? with
    | some (.ins c ks ds) => if k ∈ od c then (match atK k ks ds with
      | some d => .ok d cs
      | none => .no) else .no
    | _ => .no
  | _ => .no
theorem de_get (TK : TabOk X.K T) (inj : ∀ i j, T.nm i = T.nm j → i = j) {od : Nat → List Nat} (hod : T.od = od) {k : Nat} {fn : Str} (hf : T.nm k = fn) (ha : DE X T W e f) (hb : attributeBase e fn X.env (eval e X.env) = eval e X.env := by rfl) : DE X T W (.Attribute e fn pos) (d1 f (getD od k)) := by
  subst hf hod
  refine PE.imp (pe_fld ha hb) ?_
  rintro σ H Q ⟨I, m, cs, env, er, sr, h⟩
  refine ⟨I, m, cs, env, er, sr, OutG.bindI h fun x cs1 v H1 I1 m1 s1 p1 sr1 r1 h1 => ?_⟩
  cases x with
  | obj c ds =>
    unfold getD at h1
    simp only at h1
    unfold Rp at r1
    obtain ⟨a, dx, gs, rfl, q1, q2, q3⟩ := r1
    cases hk : atK k (T.od c) ds with
    | none => simp only [hk] at h1; exact h1.elim
    | some d =>
      simp only [hk] at h1
      obtain ⟨mk, w, h2, h3⟩ := atK_ok inj q2 q3 hk
      obtain ⟨c1, c2⟩ := TK c k mk
      exact ⟨a, T.ca c, dx, gs, w, rfl, sr1.same _ _ q1, c1, c2, h2, h1.okI sr1 h3⟩
  | cell n =>
    unfold getD at h1
    simp only at h1
    obtain ⟨a, e1, rfl⟩ := rp_cell.mp r1
    cases hc : cs1[n]? with
    | none => simp only [hc] at h1; exact h1.elim
    | some cc =>
      cases cc with
      | ins c ks ds =>
        simp only [hc] at h1
        split at h1
        · rename_i mk
          obtain ⟨a', ob, q1, q2, q3, q4⟩ := sr1.at_ n _ hc (by intro z; cases z)
          rw [e1] at q1; cases q1
          cases ob with
          | ins C dx gs =>
            obtain ⟨rfl, q5, q6⟩ := q4
            cases hk : atK k ks ds with
            | none => simp only [hk] at h1; exact h1.elim
            | some d =>
              simp only [hk] at h1
              obtain ⟨_, w, h2, h3⟩ := atK_ok inj q5 q6 hk
              obtain ⟨c1, c2⟩ := TK c k mk
              exact ⟨a, T.ca c, dx, gs, w, rfl, q3, c1, c2, h2, h1.okI sr1 h3⟩
          | _ => exact q4.elim
        · exact h1.elim
      | _ => simp only [hc] at h1; exact h1.elim
  | _ => exact h1.elim

/-! ### items -/
def ixD (x y : D) (cs : List Cell) : Out D := match asI y with
  | some i => match x with
    | .str z => match atI z.cps.toList i with
      | some c => if fits z.length then .ok (.str ⟨#[c]⟩) cs else .no
      | none => .no
    | x => match itemsS cs x with
      | some xs => match atI xs i with
        | some d => .ok d cs
        | none => .no
      | none => .no
  | none => .no
theorem RpL.atI {K : PySem.W.Frag} {I : Hp} {m : List Addr} {ds : List D} {vs : List V} {i : Int} {d : D} (r : RpL T K I m ds vs) (h : L2.atI ds i = some d) : ∃ v, L2.atI vs i = some v ∧ Rp T K I m d v := by
  unfold L2.atI at h ⊢
  rw [← r.length]
  cases hx : ixN ds.length i with
  | none => rw [hx] at h; cases h
  | some j =>
    rw [hx] at h
    exact r.get h
theorem de_ix (ha : DE X T W a f) (hb : DE X T W b g) (hs : PlainIx b := by intro _ _; rfl) : DE X T W (.Subscript a b pos) (d2 f g ixD) := by
  refine PE.imp (pe_ix ix_seq ha hb hs) (tOp_of (fun I m cs H x y v u Q E sr rx ry h => ?_) rfl rfl)
  unfold ixD at h
  cases hy : asI y with
  | none => simp only [hy] at h; exact h.elim
  | some i =>
    have e := asI_ok hy; subst e
    have eu := rp_int.mp ry
    subst eu
    simp only [hy] at h
    by_cases hz : ∃ z, x = .str z
    · obtain ⟨z, rfl⟩ := hz
      simp only at h
      cases ha : atI z.cps.toList i with
      | none => simp only [ha] at h; exact h.elim
      | some c =>
        simp only [ha] at h
        split at h
        · rename_i hl
          exact .inr (.inr ⟨z, i, c, rp_str.mp rx, rfl, hl, ha, h.okI sr (rp_str.mpr rfl)⟩)
        · exact h.elim
    · have h' : OutG T X.K (RD T X.K) I m (match itemsS cs x with
          | some xs => match atI xs i with
            | some d => .ok d cs
            | none => .no
          | none => .no) Q E := by
        cases x <;> first | exact h | exact absurd ⟨_, rfl⟩ hz
      cases hi : itemsS cs x with
      | none => simp only [hi] at h'; exact h'.elim
      | some xs =>
        simp only [hi] at h'
        obtain ⟨p, vs, rfl, q1, q2⟩ := itemsS_ok sr rx hi
        cases ha : atI xs i with
        | none => simp only [ha] at h'; exact h'.elim
        | some d =>
          simp only [ha] at h'
          obtain ⟨w, h2, h3⟩ := q2.atI ha
          rcases q1 with q1 | q1
          · exact .inl ⟨p, vs, i, w, rfl, rfl, q1.l, h2, h'.okI sr h3⟩
          · exact .inr (.inl ⟨p, vs, i, w, rfl, rfl, q1, h2, h'.okI sr h3⟩)
/-! ### slices -/
def cutL {α : Type} (xs : List α) (lo hi : Option Int) : List α := (xs.drop (HT.sIx xs.length 0 lo)).take (HT.sIx xs.length xs.length hi - HT.sIx xs.length 0 lo)
theorem RpL.cutL {K : PySem.W.Frag} {I : Hp} {m : List Addr} {ds : List D} {vs : List V} (r : RpL T K I m ds vs) (lo hi : Option Int) : RpL T K I m (DL.cutL ds lo hi) (cutV vs lo hi) := by
  unfold DL.cutL cutV
  rw [← r.length]
  exact (r.drop).take
/-- the parts of a slice: none, or an int -/
abbrev DenO := Env → List Cell → Out (Option Int)
def oNone : DenO := fun _ cs => .ok none cs
def oSome (f : Den D) : DenO := fun env cs => (f env cs).bind fun x cs => match asI x with
  | some i => .ok (some i) cs
  | none => .no
def DO (X : Cx) (T : Tab) (W : WX) (e : Option Expr) (f : DenO) : Prop := PO X e (tG T X.K W (fun _ _ x y => x = y) f)
theorem PO.imp {e : Option Expr} {t t' : TO} (h : PO X e t) (i : ∀ σ H Q, t' σ H Q → t σ H Q) : PO X e t' := ⟨fun pins s σ H Q I q => h.run pins s σ H Q I (i σ H Q q)⟩
theorem do_none : DO X T W none oNone := PO.imp po_none fun σ H Q ⟨I, m, cs, env, er, sr, h⟩ => OutG.okI h sr rfl
theorem do_some (h : DE X T W e f) : DO X T W (some e) (oSome f) := by
  refine PO.imp (po_some h) ?_
  rintro σ H Q ⟨I, m, cs, env, er, sr, h⟩
  refine ⟨I, m, cs, env, er, sr, OutG.bindI h fun x cs1 v H1 I1 m1 s1 p1 sr1 r1 h1 => ?_⟩
  cases hx : asI x with
  | none => simp only [hx] at h1; exact h1.elim
  | some i =>
    have e := asI_ok hx; subst e
    simp only [hx] at h1
    exact ⟨i, rp_int.mp r1, h1.okI sr1 rfl⟩
def sliceD (x : D) (lo hi : Option Int) (cs : List Cell) : Out D := match x with
  | .str z => if fits z.length then .ok (.str (cutS z lo hi)) cs else .no
  | .tup xs => .ok (.tup (cutL xs lo hi)) cs
  | x => match itemsL cs x with
    | some xs => .ok (.lst (cutL xs lo hi)) cs
    | none => .no
def dSl (f : Den D) (l h : DenO) : Den D := fun env cs => (f env cs).bind fun x cs => (l env cs).bind fun lo cs => (h env cs).bind fun hi cs => sliceD x lo hi cs
theorem cutL_whole {α : Type} {xs : List α} {lo hi : Option Int} (h : HT.sIx xs.length 0 lo = 0 ∧ HT.sIx xs.length xs.length hi = xs.length) : cutL xs lo hi = xs := by
  unfold cutL
  rw [h.1, h.2]
  simp
theorem de_slice {lo hi : Option Expr} {l h : DenO} {p2 : Pos} (ha : DE X T W e f) (hl : DO X T W lo l) (hh : DO X T W hi h) : DE X T W (.Subscript e (.Slice lo hi none p2) pos) (dSl f l h) := by
  refine PE.imp (pe_slice (sl_str.or (sl_tupA.or sl_list)) ha hl hh) ?_
  rintro σ H Q ⟨I, m, cs, env, er, sr, h⟩
  refine ⟨I, m, cs, env, er, sr, OutG.bindI h fun x cs1 v H1 I1 m1 s1 p1 sr1 r1 h1 => ?_⟩
  refine ⟨I1, m1, cs1, env, er.mono s1 p1, sr1, OutG.bindI h1 fun lo' cs2 lo2 H2 I2 m2 s2 p2 sr2 r2 h2 => ?_⟩
  have e2 : lo' = lo2 := r2
  subst e2
  refine ⟨I2, m2, cs2, env, (er.mono s1 p1).mono s2 p2, sr2, OutG.bindI h2 fun hi' cs3 hi2 H3 I3 m3 s3 p3 sr3 r3 h3 => ?_⟩
  have e3 : hi' = hi2 := r3
  subst e3
  have rx := (r1.mono s2 p2).mono s3 p3
  by_cases hz : ∃ z, x = .str z
  · obtain ⟨z, rfl⟩ := hz
    unfold sliceD at h3
    simp only at h3
    split at h3
    · rename_i hl
      exact .inl ⟨z, rp_str.mp rx, hl, h3.okI sr3 (rp_str.mpr rfl)⟩
    · exact h3.elim
  · by_cases ht : ∃ z, x = .tup z
    · obtain ⟨xs, rfl⟩ := ht
      unfold sliceD at h3
      simp only at h3
      obtain ⟨p, vs, rfl, q1, q2⟩ := rp_tup.mp rx
      refine .inr (.inl ⟨p, vs, rfl, SqT.same sr3.same q1, fun hw => ?_, fun _ p hp => rp_newT sr3 hp (q2.cutL _ _) h3⟩)
      have hw' : HT.sIx xs.length 0 lo' = 0 ∧ HT.sIx xs.length xs.length hi' = xs.length := by rw [q2.length]; exact hw
      rw [cutL_whole hw'] at h3
      exact h3.okI sr3 rx
    · have h' : OutG T X.K (RD T X.K) I3 m3 (match itemsL cs3 x with
          | some xs => .ok (.lst (cutL xs lo' hi')) cs3
          | none => .no) Q (fun cls od H' => W cls od σ H') := by
        cases x <;> first | exact h3 | exact absurd ⟨_, rfl⟩ hz | exact absurd ⟨_, rfl⟩ ht
      cases hi : itemsL cs3 x with
      | none => simp only [hi] at h'; exact h'.elim
      | some xs =>
        simp only [hi] at h'
        obtain ⟨p, vs, rfl, q1, q2⟩ := itemsL_ok sr3 rx hi
        exact .inr (.inr ⟨p, vs, rfl, q1.l, fun p hp => rp_newL sr3 hp (q2.cutL _ _) h'⟩)
/-- xs[::-1] of a list -/
def revD (x : D) (cs : List Cell) : Out D := match itemsL cs x with
  | some xs => .ok (.lst xs.reverse) cs
  | none => .no
theorem de_rev {k : Nat} {p1 p2 p3 : Pos} (ha : DE X T W e f) : DE X T W (.Subscript e (.Slice none none (some (.UnaryOp .USub (.Constant (.int 1) k p1) p2)) p3) pos) (d1 f revD) := by
  refine PE.imp (pe_revL ha) ?_
  rintro σ H Q ⟨I, m, cs, env, er, sr, h⟩
  refine ⟨I, m, cs, env, er, sr, OutG.bindI h fun x cs1 v H1 I1 m1 s1 p1 sr1 r1 h1 => ?_⟩
  unfold revD at h1
  cases hi : itemsL cs1 x with
  | none => simp only [hi] at h1; exact h1.elim
  | some xs =>
    simp only [hi] at h1
    obtain ⟨p, vs, rfl, q1, q2⟩ := itemsL_ok sr1 r1 hi
    exact ⟨p, vs, rfl, q1.l, fun p hp => rp_newL sr1 hp q2.reverse h1⟩

/-! ### built-ins by their name, methods of built-in types -/
/-- what a call of a built-in promises on data -/
abbrev HkC (T : Tab) (K : PySem.W.Frag) (r : List V → Hp → VK → Prop) (k : List D → List Cell → Out D) : Prop :=
  ∀ (I : Hp) (m : List Addr) (cs : List Cell) (H : Hp) (xs : List D) (vs : List V) (Q : VK) (E : XK), SR T K I m cs H → RpL T K I m xs vs → OutG T K (RD T K) I m (k xs cs) Q E → r vs H Q
def dCall (g : Den (List D)) (k : List D → List Cell → Out D) : Den D := fun env cs => (g env cs).bind fun xs cs => k xs cs
theorem tCB_of {g : Den (List D)} {k : List D → List Cell → Out D} {r : List V → Hp → VK → Prop} (hk : HkC T X.K r k) {ta : TA} (e : ta = tG T X.K W (RL T X.K) g) : ∀ σ H Q, tG T X.K W (RD T X.K) (dCall g k) σ H Q → tCB r ta σ H Q := by
  subst e
  rintro σ H Q ⟨I, m, cs, env, er, sr, h⟩
  refine ⟨I, m, cs, env, er, sr, OutG.bindI h fun x cs1 v H1 I1 m1 s1 p1 sr1 r1 h1 => ?_⟩
  exact hk I1 m1 cs1 H1 x v Q _ sr1 r1 h1
theorem de_callB {x : Str} {id : String} {r : List V → Hp → VK → Prop} {p : Pos} {g : Den (List D)} {k : List D → List Cell → Out D} (hc : CallR X (.builtin id) r) (hk : HkC T X.K r k) (hm : X.mg x = none) (ha : DA X T W (e :: es) g)
    (hg : Gl X x := by rfl) (hv : bootBuiltins x = some (.builtin id) := by decide +kernel) (hn : x ≠ "__name__" := by decide) (hdb : (x == ("__debug__" : Str)) = false := by decide)
    (he : starEach (e :: es) X.env = (false, eval e X.env) :: starEach es X.env := by rfl) (hpl : (backTo pos (starEach es X.env)).any (·.1) = false := by rfl) : DE X T W (.Call (.Name x p) (e :: es) [] pos) (dCall g k) :=
  PE.imp (pe_callB hc hg hm hv ha hn hdb he hpl) (tCB_of hk rfl)
theorem de_callTy {x : Str} {id : String} {r : List V → Hp → VK → Prop} {p : Pos} {g : Den (List D)} {k : List D → List Cell → Out D} (hc : CallR X (.type id) r) (hk : HkC T X.K r k) (hm : X.mg x = none) (ha : DA X T W (e :: es) g)
    (hg : Gl X x := by rfl) (hv : bootBuiltins x = some (.type id) := by decide +kernel) (hn : x ≠ "__name__" := by decide) (hdb : (x == ("__debug__" : Str)) = false := by decide)
    (he : starEach (e :: es) X.env = (false, eval e X.env) :: starEach es X.env := by rfl) (hpl : (backTo pos (starEach es X.env)).any (·.1) = false := by rfl) : DE X T W (.Call (.Name x p) (e :: es) [] pos) (dCall g k) :=
  PE.imp (pe_callTy hc hg hm hv ha hn hdb he hpl) (tCB_of hk rfl)
theorem RpL.i1 {K : PySem.W.Frag} {I : Hp} {m : List Addr} {x : D} {vs : List V} (h : RpL T K I m [x] vs) : ∃ v, vs = [v] ∧ Rp T K I m x v := by
  obtain ⟨v, r, rfl, q, h'⟩ := h.inv
  have e := h'.inil
  subst e
  exact ⟨v, rfl, q⟩
theorem RpL.i2 {K : PySem.W.Frag} {I : Hp} {m : List Addr} {x y : D} {vs : List V} (h : RpL T K I m [x, y] vs) : ∃ v u, vs = [v, u] ∧ Rp T K I m x v ∧ Rp T K I m y u := by
  obtain ⟨v, r, rfl, q, h'⟩ := h.inv
  obtain ⟨u, rfl, q'⟩ := h'.i1
  exact ⟨v, u, rfl, q, q'⟩
/-- len -/
def lenD1 (x : D) (cs : List Cell) : Out D := match x with
  | .str z => if fits z.length then .ok (.int z.length) cs else .no
  | x => match itemsS cs x with
    | some ys => .ok (.int ys.length) cs
    | none => .no
def lenD (xs : List D) (cs : List Cell) : Out D := match xs with
  | [x] => lenD1 x cs
  | _ => .no
theorem hk_len {K : PySem.W.Frag} : HkC T K (fun xs H Q => (∃ p ys, xs = [.ref p] ∧ (SqL K H p ys ∨ SqT K H p ys) ∧ Q (.int ys.length) H) ∨ ∃ z, xs = [.str z] ∧ z.length ≤ sizeLine ∧ Q (.int z.length) H) lenD := by
  intro I m cs H xs vs Q E sr rx h
  match xs, rx, h with
  | [], _, h => exact h.elim
  | _ :: _ :: _, _, h => exact (by unfold lenD at h; exact h.elim)
  | [x], rx, h =>
    obtain ⟨v, rfl, r⟩ := rx.i1
    by_cases hz : ∃ z, x = .str z
    · obtain ⟨z, rfl⟩ := hz
      unfold lenD lenD1 at h
      simp only at h
      split at h
      · rename_i hl
        exact .inr ⟨z, by rw [rp_str.mp r], hl, h.okI sr (rp_int.mpr rfl)⟩
      · exact h.elim
    · have h' : OutG T K (RD T K) I m (match itemsS cs x with
          | some ys => .ok (.int ys.length) cs
          | none => .no) Q E := by
        cases x <;> first | exact h | exact absurd ⟨_, rfl⟩ hz
      cases hi : itemsS cs x with
      | none => simp only [hi] at h'; exact h'.elim
      | some ys =>
        simp only [hi] at h'
        obtain ⟨p, vs, rfl, q1, q2⟩ := itemsS_ok sr r hi
        refine .inl ⟨p, vs, rfl, q1.imp SqX.l id, ?_⟩
        rw [q2.length] at h'
        exact h'.okI sr (rp_int.mpr rfl)
theorem de_len {p : Pos} {g : Den (List D)} (hm : X.mg "len" = none) (ha : DA X T W [e] g) (hg : Gl X "len" := by rfl) (he : starEach [e] X.env = (false, eval e X.env) :: starEach [] X.env := by rfl) : DE X T W (.Call (.Name "len" p) [e] [] pos) (dCall g lenD) :=
  de_callB (call_len_seq.or call_len_str) hk_len hm ha (hg := hg) (he := he) (hpl := rfl)
/-- tuple(xs) -/
def tupleD (xs : List D) (cs : List Cell) : Out D := match xs with
  | [x] => match itemsS cs x with
    | some ys => .ok (.tup ys) cs
    | none => .no
  | _ => .no
theorem hk_tuple {K : PySem.W.Frag} : HkC T K (fun xs H Q => ∃ p ys, xs = [.ref p] ∧ ((SqL K H p ys ∧ ∀ l, H l = none → Q (.ref l) (upd H l (.tup ys))) ∨ (SqT K H p ys ∧ Q (.ref p) H))) tupleD := by
  intro I m cs H xs vs Q E sr rx h
  match xs, rx, h with
  | [], _, h => exact h.elim
  | _ :: _ :: _, _, h => exact (by unfold tupleD at h; exact h.elim)
  | [x], rx, h =>
    obtain ⟨v, rfl, r⟩ := rx.i1
    unfold tupleD at h
    simp only at h
    by_cases ht : ∃ z, x = .tup z
    · obtain ⟨ys, rfl⟩ := ht
      obtain ⟨p, vs, rfl, q1, q2⟩ := rp_tup.mp r
      exact ⟨p, vs, rfl, .inr ⟨SqT.same sr.same q1, h.okI sr r⟩⟩
    · have hS : itemsS cs x = itemsL cs x := by cases x <;> first | rfl | exact absurd ⟨_, rfl⟩ ht
      rw [hS] at h
      cases hi : itemsL cs x with
      | none => simp only [hi] at h; exact h.elim
      | some ys =>
        simp only [hi] at h
        obtain ⟨p, vs, rfl, q1, q2⟩ := itemsL_ok sr r hi
        exact ⟨p, vs, rfl, .inl ⟨q1.l, fun l hl => rp_newT sr hl q2 h⟩⟩
theorem de_tuple {p : Pos} {g : Den (List D)} (hm : X.mg "tuple" = none) (ha : DA X T W [e] g) (hg : Gl X "tuple" := by rfl) (he : starEach [e] X.env = (false, eval e X.env) :: starEach [] X.env := by rfl) : DE X T W (.Call (.Name "tuple" p) [e] [] pos) (dCall g tupleD) :=
  de_callTy call_tuple_of hk_tuple hm ha (hg := hg) (he := he) (hpl := rfl)
/-- list(xs): frozen, or a cell -/
def listD (xs : List D) (cs : List Cell) : Out D := match xs with
  | [x] => match itemsS cs x with
    | some ys => .ok (.lst ys) cs
    | none => .no
  | _ => .no
def listC (xs : List D) (cs : List Cell) : Out D := match xs with
  | [x] => match itemsS cs x with
    | some ys => .ok (.cell cs.length) (cs ++ [.lst ys])
    | none => .no
  | _ => .no
theorem hk_list {K : PySem.W.Frag} : HkC T K (fun xs H Q => ∃ p ys, xs = [.ref p] ∧ (SqL K H p ys ∨ SqT K H p ys) ∧ ∀ l, H l = none → Q (.ref l) (upd H l (.lst ys))) listD := by
  intro I m cs H xs vs Q E sr rx h
  match xs, rx, h with
  | [], _, h => exact h.elim
  | _ :: _ :: _, _, h => exact (by unfold listD at h; exact h.elim)
  | [x], rx, h =>
    obtain ⟨v, rfl, r⟩ := rx.i1
    unfold listD at h
    simp only at h
    cases hi : itemsS cs x with
    | none => simp only [hi] at h; exact h.elim
    | some ys =>
      simp only [hi] at h
      obtain ⟨p, vs, rfl, q1, q2⟩ := itemsS_ok sr r hi
      exact ⟨p, vs, rfl, q1.imp SqX.l id, fun l hl => rp_newL sr hl q2 h⟩
theorem hk_listC {K : PySem.W.Frag} : HkC T K (fun xs H Q => ∃ p ys, xs = [.ref p] ∧ (SqL K H p ys ∨ SqT K H p ys) ∧ ∀ l, H l = none → Q (.ref l) (upd H l (.lst ys))) listC := by
  intro I m cs H xs vs Q E sr rx h
  match xs, rx, h with
  | [], _, h => exact h.elim
  | _ :: _ :: _, _, h => exact (by unfold listC at h; exact h.elim)
  | [x], rx, h =>
    obtain ⟨v, rfl, r⟩ := rx.i1
    unfold listC at h
    simp only at h
    cases hi : itemsS cs x with
    | none => simp only [hi] at h; exact h.elim
    | some ys =>
      simp only [hi] at h
      obtain ⟨p, vs, rfl, q1, q2⟩ := itemsS_ok sr r hi
      exact ⟨p, vs, rfl, q1.imp SqX.l id, fun l hl => rp_newC (c := .lst ys) sr hl q2 h⟩
theorem de_list {p : Pos} {g : Den (List D)} (hm : X.mg "list" = none) (ha : DA X T W [e] g) (hg : Gl X "list" := by rfl) (he : starEach [e] X.env = (false, eval e X.env) :: starEach [] X.env := by rfl) : DE X T W (.Call (.Name "list" p) [e] [] pos) (dCall g listD) :=
  de_callTy call_list_of hk_list hm ha (hg := hg) (he := he) (hpl := rfl)
theorem de_listC {p : Pos} {g : Den (List D)} (hm : X.mg "list" = none) (ha : DA X T W [e] g) (hg : Gl X "list" := by rfl) (he : starEach [e] X.env = (false, eval e X.env) :: starEach [] X.env := by rfl) : DE X T W (.Call (.Name "list" p) [e] [] pos) (dCall g listC) :=
  de_callTy call_list_of hk_listC hm ha (hg := hg) (he := he) (hpl := rfl)
/-- abs, int -/
def absD (xs : List D) (cs : List Cell) : Out D := match xs with
  | [.int i] => .ok (.int (if i < 0 then -i else i)) cs
  | _ => .no
theorem hk_abs {K : PySem.W.Frag} : HkC T K (fun xs H Q => ∃ i, xs = [.int i] ∧ Q (.int (if i < 0 then -i else i)) H) absD := by
  intro I m cs H xs vs Q E sr rx h
  unfold absD at h
  split at h
  · obtain ⟨v, rfl, r⟩ := rx.i1
    exact ⟨_, by rw [rp_int.mp r], h.okI sr (rp_int.mpr rfl)⟩
  · exact h.elim
theorem de_abs {p : Pos} {g : Den (List D)} (hm : X.mg "abs" = none) (ha : DA X T W [e] g) (hg : Gl X "abs" := by rfl) (he : starEach [e] X.env = (false, eval e X.env) :: starEach [] X.env := by rfl) : DE X T W (.Call (.Name "abs" p) [e] [] pos) (dCall g absD) :=
  de_callB call_abs hk_abs hm ha (hg := hg) (he := he) (hpl := rfl)
def intD (xs : List D) (cs : List Cell) : Out D := match xs with
  | [.int i] => .ok (.int i) cs
  | [.bl k] => .ok (.int (if k then 1 else 0)) cs
  | _ => .no
theorem hk_int {K : PySem.W.Frag} : HkC T K (fun xs H Q => (∃ i, xs = [.int i] ∧ Q (.int i) H) ∨ ∃ k, xs = [.bl k] ∧ Q (.int (if k then 1 else 0)) H) intD := by
  intro I m cs H xs vs Q E sr rx h
  unfold intD at h
  split at h
  · obtain ⟨v, rfl, r⟩ := rx.i1
    exact .inl ⟨_, by rw [rp_int.mp r], h.okI sr (rp_int.mpr rfl)⟩
  · obtain ⟨v, rfl, r⟩ := rx.i1
    exact .inr ⟨_, by rw [rp_bl.mp r], h.okI sr (rp_int.mpr rfl)⟩
  · exact h.elim
theorem de_toint {p : Pos} {g : Den (List D)} (hm : X.mg "int" = none) (ha : DA X T W [e] g) (hg : Gl X "int" := by rfl) (he : starEach [e] X.env = (false, eval e X.env) :: starEach [] X.env := by rfl) : DE X T W (.Call (.Name "int" p) [e] [] pos) (dCall g intD) :=
  de_callTy call_int1 hk_int hm ha (hg := hg) (he := he) (hpl := rfl)
/-- max(i, j), min(i, j) -/
def max2D (xs : List D) (cs : List Cell) : Out D := match xs with
  | [.int i, .int j] => .ok (.int (if j > i then j else i)) cs
  | _ => .no
def min2D (xs : List D) (cs : List Cell) : Out D := match xs with
  | [.int i, .int j] => .ok (.int (if j < i then j else i)) cs
  | _ => .no
theorem hk_max2 {K : PySem.W.Frag} : HkC T K (fun xs H Q => ∃ i j, xs = [.int i, .int j] ∧ Q (.int (if j > i then j else i)) H) max2D := by
  intro I m cs H xs vs Q E sr rx h
  unfold max2D at h
  split at h
  · obtain ⟨v, u, rfl, r1, r2⟩ := rx.i2
    exact ⟨_, _, by rw [rp_int.mp r1, rp_int.mp r2], h.okI sr (rp_int.mpr rfl)⟩
  · exact h.elim
theorem hk_min2 {K : PySem.W.Frag} : HkC T K (fun xs H Q => ∃ i j, xs = [.int i, .int j] ∧ Q (.int (if j < i then j else i)) H) min2D := by
  intro I m cs H xs vs Q E sr rx h
  unfold min2D at h
  split at h
  · obtain ⟨v, u, rfl, r1, r2⟩ := rx.i2
    exact ⟨_, _, by rw [rp_int.mp r1, rp_int.mp r2], h.okI sr (rp_int.mpr rfl)⟩
  · exact h.elim
theorem de_max2 {p : Pos} {g : Den (List D)} (hc : X.calm = true) (hm : X.mg "max" = none) (ha : DA X T W [a, b] g) (hg : Gl X "max" := by rfl) (he : starEach [a, b] X.env = (false, eval a X.env) :: starEach [b] X.env := by rfl) (hpl : (backTo pos (starEach [b] X.env)).any (·.1) = false := by rfl) : DE X T W (.Call (.Name "max" p) [a, b] [] pos) (dCall g max2D) :=
  de_callB (call_max2 hc) hk_max2 hm ha (hg := hg) (he := he) (hpl := hpl)
theorem de_min2 {p : Pos} {g : Den (List D)} (hc : X.calm = true) (hm : X.mg "min" = none) (ha : DA X T W [a, b] g) (hg : Gl X "min" := by rfl) (he : starEach [a, b] X.env = (false, eval a X.env) :: starEach [b] X.env := by rfl) (hpl : (backTo pos (starEach [b] X.env)).any (·.1) = false := by rfl) : DE X T W (.Call (.Name "min" p) [a, b] [] pos) (dCall g min2D) :=
  de_callB (call_min2 hc) hk_min2 hm ha (hg := hg) (he := he) (hpl := hpl)
/-- all the items as ints, as truths -/
def intsD : List D → Option (List Int)
  | [] => some []
  | .int i :: r => (intsD r).map (i :: ·)
  | _ => none
def blsD : List D → Option (List Bool)
  | [] => some []
  | .bl i :: r => (blsD r).map (i :: ·)
  | _ => none
theorem intsD_ok {K : PySem.W.Frag} {I : Hp} {m : List Addr} : ∀ {ds : List D} {vs : List V} {ns : List Int}, RpL T K I m ds vs → intsD ds = some ns → vs = ns.map V.int
  | [], vs, ns, r, e => by have := r.inil; subst this; cases e; rfl
  | .int i :: ds, vs, ns, r, e => by
    obtain ⟨v, r', rfl, q, k⟩ := r.inv
    unfold intsD at e
    cases h : intsD ds with
    | none => rw [h] at e; cases e
    | some ms =>
      rw [h] at e
      cases e
      rw [intsD_ok k h, rp_int.mp q]; rfl
  | .non :: _, _, _, _, e => by cases e
  | .bl _ :: _, _, _, _, e => by cases e
  | .str _ :: _, _, _, _, e => by cases e
  | .tup _ :: _, _, _, _, e => by cases e
  | .lst _ :: _, _, _, _, e => by cases e
  | .obj _ _ :: _, _, _, _, e => by cases e
  | .dic _ _ :: _, _, _, _, e => by cases e
  | .cell _ :: _, _, _, _, e => by cases e
  | .exc _ _ _ :: _, _, _, _, e => by cases e
theorem blsD_ok {K : PySem.W.Frag} {I : Hp} {m : List Addr} : ∀ {ds : List D} {vs : List V} {ns : List Bool}, RpL T K I m ds vs → blsD ds = some ns → vs = ns.map V.bl
  | [], vs, ns, r, e => by have := r.inil; subst this; cases e; rfl
  | .bl i :: ds, vs, ns, r, e => by
    obtain ⟨v, r', rfl, q, k⟩ := r.inv
    unfold blsD at e
    cases h : blsD ds with
    | none => rw [h] at e; cases e
    | some ms =>
      rw [h] at e
      cases e
      rw [blsD_ok k h, rp_bl.mp q]; rfl
  | .non :: _, _, _, _, e => by cases e
  | .int _ :: _, _, _, _, e => by cases e
  | .str _ :: _, _, _, _, e => by cases e
  | .tup _ :: _, _, _, _, e => by cases e
  | .lst _ :: _, _, _, _, e => by cases e
  | .obj _ _ :: _, _, _, _, e => by cases e
  | .dic _ _ :: _, _, _, _, e => by cases e
  | .cell _ :: _, _, _, _, e => by cases e
  | .exc _ _ _ :: _, _, _, _, e => by cases e
def sumD (xs : List D) (cs : List Cell) : Out D := match xs with
  | [x] => match (itemsL cs x).bind intsD with
    | some ns => .ok (.int ns.sum) cs
    | none => .no
  | _ => .no
def allD (xs : List D) (cs : List Cell) : Out D := match xs with
  | [x] => match (itemsL cs x).bind blsD with
    | some ns => .ok (.bl (ns.all id)) cs
    | none => .no
  | _ => .no
def anyD (xs : List D) (cs : List Cell) : Out D := match xs with
  | [x] => match (itemsL cs x).bind blsD with
    | some ns => .ok (.bl (ns.any id)) cs
    | none => .no
  | _ => .no
theorem bind_some {α β : Type} {x : Option α} {f : α → Option β} {b : β} (h : x.bind f = some b) : ∃ a, x = some a ∧ f a = some b := by
  cases x with
  | none => cases h
  | some a => exact ⟨a, rfl, h⟩
theorem hk_sum {K : PySem.W.Frag} : HkC T K (rSum K) sumD := by
  intro I m cs H xs vs Q E sr rx h
  match xs, rx, h with
  | [], _, h => exact h.elim
  | _ :: _ :: _, _, h => exact (by unfold sumD at h; exact h.elim)
  | [x], rx, h =>
    obtain ⟨v, rfl, r⟩ := rx.i1
    unfold sumD at h
    simp only at h
    cases hi : (itemsL cs x).bind intsD with
    | none => simp only [hi] at h; exact h.elim
    | some ns =>
      simp only [hi] at h
      obtain ⟨ys, h1, h2⟩ := bind_some hi
      obtain ⟨p, vs, rfl, q1, q2⟩ := itemsL_ok sr r h1
      have e := intsD_ok q2 h2
      subst e
      exact ⟨p, ns, rfl, q1.l, h.okI sr (rp_int.mpr rfl)⟩
theorem hk_all {K : PySem.W.Frag} : HkC T K (rAll K) allD := by
  intro I m cs H xs vs Q E sr rx h
  match xs, rx, h with
  | [], _, h => exact h.elim
  | _ :: _ :: _, _, h => exact (by unfold allD at h; exact h.elim)
  | [x], rx, h =>
    obtain ⟨v, rfl, r⟩ := rx.i1
    unfold allD at h
    simp only at h
    cases hi : (itemsL cs x).bind blsD with
    | none => simp only [hi] at h; exact h.elim
    | some ns =>
      simp only [hi] at h
      obtain ⟨ys, h1, h2⟩ := bind_some hi
      obtain ⟨p, vs, rfl, q1, q2⟩ := itemsL_ok sr r h1
      have e := blsD_ok q2 h2
      subst e
      exact ⟨p, ns, rfl, q1.l, h.okI sr (rp_bl.mpr rfl)⟩
theorem hk_any {K : PySem.W.Frag} : HkC T K (rAny K) anyD := by
  intro I m cs H xs vs Q E sr rx h
  match xs, rx, h with
  | [], _, h => exact h.elim
  | _ :: _ :: _, _, h => exact (by unfold anyD at h; exact h.elim)
  | [x], rx, h =>
    obtain ⟨v, rfl, r⟩ := rx.i1
    unfold anyD at h
    simp only at h
    cases hi : (itemsL cs x).bind blsD with
    | none => simp only [hi] at h; exact h.elim
    | some ns =>
      simp only [hi] at h
      obtain ⟨ys, h1, h2⟩ := bind_some hi
      obtain ⟨p, vs, rfl, q1, q2⟩ := itemsL_ok sr r h1
      have e := blsD_ok q2 h2
      subst e
      exact ⟨p, ns, rfl, q1.l, h.okI sr (rp_bl.mpr rfl)⟩
theorem de_sum {p : Pos} {g : Den (List D)} (hc : X.calm = true) (hm : X.mg "sum" = none) (ha : DA X T W [e] g) (hg : Gl X "sum" := by rfl) (he : starEach [e] X.env = (false, eval e X.env) :: starEach [] X.env := by rfl) : DE X T W (.Call (.Name "sum" p) [e] [] pos) (dCall g sumD) :=
  de_callB (cr_sum hc) hk_sum hm ha (hg := hg) (he := he) (hpl := rfl)
theorem de_all {p : Pos} {g : Den (List D)} (hc : X.calm = true) (hm : X.mg "all" = none) (ha : DA X T W [e] g) (hg : Gl X "all" := by rfl) (he : starEach [e] X.env = (false, eval e X.env) :: starEach [] X.env := by rfl) : DE X T W (.Call (.Name "all" p) [e] [] pos) (dCall g allD) :=
  de_callB (cr_all hc) hk_all hm ha (hg := hg) (he := he) (hpl := rfl)
theorem de_any {p : Pos} {g : Den (List D)} (hc : X.calm = true) (hm : X.mg "any" = none) (ha : DA X T W [e] g) (hg : Gl X "any" := by rfl) (he : starEach [e] X.env = (false, eval e X.env) :: starEach [] X.env := by rfl) : DE X T W (.Call (.Name "any" p) [e] [] pos) (dCall g anyD) :=
  de_callB (cr_any hc) hk_any hm ha (hg := hg) (he := he) (hpl := rfl)

/-! ### methods of lists (cells) -/
def isL (cs : List Cell) (x : D) : Bool := (itemsL cs x).isSome
/-- o.m(args): o is a list when it is read -/
def dML (f : Den D) (g : Den (List D)) (k : D → List D → List Cell → Out D) : Den D := fun env cs => (f env cs).bind fun x cs => if isL cs x = true then (g env cs).bind fun xs cs => k x xs cs else .no
theorem isL_ok {K : PySem.W.Frag} {I H : Hp} {m : List Addr} {cs : List Cell} {x : D} {v : V} (sr : SR T K I m cs H) (r : Rp T K I m x v) (h : isL cs x = true) : tyV K "list" v H := by
  obtain ⟨xs, hx⟩ := Option.isSome_iff_exists.mp h
  obtain ⟨p, vs, rfl, q1, q2⟩ := itemsL_ok sr r hx
  exact .inl ⟨rfl, vs, q1.l⟩
abbrev HkM (T : Tab) (K : PySem.W.Frag) (r : V → List V → Hp → VK → Prop) (k : D → List D → List Cell → Out D) : Prop :=
  ∀ (I : Hp) (m : List Addr) (cs : List Cell) (H : Hp) (x : D) (xs : List D) (v : V) (vs : List V) (Q : VK) (E : XK), SR T K I m cs H → Rp T K I m x v → RpL T K I m xs vs → OutG T K (RD T K) I m (k x xs cs) Q E → r v vs H Q
theorem tBM_of {g : Den (List D)} {k : D → List D → List Cell → Out D} {r : V → List V → Hp → VK → Prop} (hk : HkM T X.K r k) {to : TE} {ta : TA} (e1 : to = tG T X.K W (RD T X.K) f) (e2 : ta = tG T X.K W (RL T X.K) g) :
    ∀ σ H Q, tG T X.K W (RD T X.K) (dML f g k) σ H Q → tBM X.K "list" r to ta σ H Q := by
  subst e1 e2
  rintro σ H Q ⟨I, m, cs, env, er, sr, h⟩
  refine ⟨I, m, cs, env, er, sr, OutG.bindI h fun x cs1 v H1 I1 m1 s1 p1 sr1 r1 h1 => ?_⟩
  split at h1
  · rename_i hl
    refine ⟨isL_ok sr1 r1 hl, I1, m1, cs1, env, er.mono s1 p1, sr1, OutG.bindI h1 fun xs cs2 vs H2 I2 m2 s2 p2 sr2 r2 h2 => ?_⟩
    exact hk I2 m2 cs2 H2 x xs v vs Q _ sr2 (r1.mono s2 p2) r2 h2
  · exact h1.elim
/-- a list cell, its address, its object -/
theorem cell_lst {K : PySem.W.Frag} {I H : Hp} {m : List Addr} {cs : List Cell} {n : Nat} {xs : List D} {v : V} (sr : SR T K I m cs H) (r : Rp T K I m (.cell n) v) (h : cs[n]? = some (.lst xs)) : ∃ a vs, v = .ref a ∧ m[n]? = some a ∧ H a = some (.lst vs) ∧ RpL T K I m xs vs := by
  obtain ⟨a, e1, e2⟩ := rp_cell.mp r
  obtain ⟨a', o, q1, q2, q3, q4⟩ := sr.at_ n _ h (by intro z; cases z)
  rw [e1] at q1; cases q1
  cases o with
  | lst vs => exact ⟨a, vs, e2, e1, q3, q4⟩
  | _ => exact q4.elim
def appendD (x : D) (xs : List D) (cs : List Cell) : Out D := match x, xs with
  | .cell n, [y] => match cs[n]? with
    | some (.lst ys) => if fitsL ys.length then .ok .non (cs.set n (.lst (ys ++ [y]))) else .no
    | _ => .no
  | _, _ => .no
theorem hk_append {K : PySem.W.Frag} : HkM T K rAppend appendD := by
  intro I m cs H x xs v vs Q E sr rx rxs h
  unfold appendD at h
  split at h
  · rename_i n y
    obtain ⟨w, rfl, ry⟩ := rxs.i1
    split at h
    · rename_i ys hc
      split at h
      · rename_i hl
        obtain ⟨a, us, rfl, ea, q1, q2⟩ := cell_lst sr rx hc
        have sr2 := sr.setC (o := .lst (us ++ [w])) (c := .lst (ys ++ [y])) hc (by intro z; cases z) ea (q2.append (RpL.one ry))
        exact ⟨a, us, w, rfl, rfl, q1, by rw [← q2.length]; exact hl, h.okI sr2 (rp_non.mpr rfl)⟩
      · exact h.elim
    · exact h.elim
  · exact h.elim
theorem de_append {g : Den (List D)} {apos : Pos} (ho : DE X T W o f) (ha : DA X T W [e] g) (hbase : attributeBase o "append" X.env (eval o X.env) = eval o X.env := by rfl) (hs : starEach [e] X.env = (false, eval e X.env) :: starEach [] X.env := by rfl)
    (hfew : ((backTo pos (starEach [e] X.env)).all (fun x => !x.1) && (backToKw pos (keywordEach [] X.env)).all (fun x => x.1.isSome) && decide ([e].length + ([] : List Keyword).length + (if ([] : List Keyword).isEmpty then 0 else 1) < 30)) = true := by rfl) (hline : (apos.endLine == pos.line) = true := by rfl) :
    DE X T W (.Call (.Attribute o "append" apos) [e] [] pos) (dML f g appendD) :=
  PE.imp (pe_bm PySem.F.plainAttrs_list PySem.F.slot_list_append PySem.F.type_list_append mt_append ho ha hbase hfew hline hs rfl) (tBM_of hk_append rfl rfl)
/-- xs.pop(i) -/
def popD (x : D) (xs : List D) (cs : List Cell) : Out D := match x, xs with
  | .cell n, [.int i] => match cs[n]? with
    | some (.lst ys) => if in63 i then (match seqIndex? i ys.length with
      | some j => match ys[j]? with
        | some y => .ok y (cs.set n (.lst (ys.eraseIdx j)))
        | none => .no
      | none => .no) else .no
    | _ => .no
  | _, _ => .no
theorem RpL.eraseIdx {K : PySem.W.Frag} {I : Hp} {m : List Addr} : ∀ {ds : List D} {vs : List V} {i : Nat}, RpL T K I m ds vs → RpL T K I m (ds.eraseIdx i) (vs.eraseIdx i)
  | [], vs, i, h => by have e := h.inil; subst e; simp; exact h
  | x :: ds, vs, 0, h => by
    obtain ⟨w, r, rfl, q, h'⟩ := h.inv
    exact h'
  | x :: ds, vs, i + 1, h => by
    obtain ⟨w, r, rfl, q, h'⟩ := h.inv
    exact RpL.cons q (RpL.eraseIdx h')
theorem hk_pop {K : PySem.W.Frag} : HkM T K rPopAt popD := by
  intro I m cs H x xs v vs Q E sr rx rxs h
  unfold popD at h
  split at h
  · rename_i n i
    obtain ⟨w, rfl, ry⟩ := rxs.i1
    have ew := rp_int.mp ry
    subst ew
    split at h
    · rename_i ys hc
      split at h
      · rename_i hl
        obtain ⟨a, us, rfl, ea, q1, q2⟩ := cell_lst sr rx hc
        cases hj : seqIndex? i ys.length with
        | none => simp only [hj] at h; exact h.elim
        | some j =>
          simp only [hj] at h
          cases hy : ys[j]? with
          | none => simp only [hy] at h; exact h.elim
          | some y =>
            simp only [hy] at h
            obtain ⟨z, hz, rz⟩ := q2.get hy
            have sr2 := sr.setC (o := .lst (us.eraseIdx j)) (c := .lst (ys.eraseIdx j)) hc (by intro z; cases z) ea q2.eraseIdx
            exact ⟨a, us, i, j, z, rfl, rfl, q1, hl.1, hl.2, by rw [← q2.length]; exact hj, hz, h.okI sr2 rz⟩
      · exact h.elim
    · exact h.elim
  · exact h.elim
theorem de_pop {g : Den (List D)} {apos : Pos} (ho : DE X T W o f) (ha : DA X T W [e] g) (hbase : attributeBase o "pop" X.env (eval o X.env) = eval o X.env := by rfl) (hs : starEach [e] X.env = (false, eval e X.env) :: starEach [] X.env := by rfl)
    (hfew : ((backTo pos (starEach [e] X.env)).all (fun x => !x.1) && (backToKw pos (keywordEach [] X.env)).all (fun x => x.1.isSome) && decide ([e].length + ([] : List Keyword).length + (if ([] : List Keyword).isEmpty then 0 else 1) < 30)) = true := by rfl) (hline : (apos.endLine == pos.line) = true := by rfl) :
    DE X T W (.Call (.Attribute o "pop" apos) [e] [] pos) (dML f g popD) :=
  PE.imp (pe_bm PySem.F.plainAttrs_list PySem.F.slot_list_pop PySem.F.type_list_pop mt_popAt ho ha hbase hfew hline hs rfl) (tBM_of hk_pop rfl rfl)
end
end
end DL
end

section
set_option Elab.async false
set_option linter.all false
set_option maxRecDepth 100000
set_option maxHeartbeats 4000000
namespace DL
open PySem L2
open Classical
noncomputable section

/-! ### what a statement comes to -/
inductive SO where
  | nx (env : Env) (cs : List Cell)
  | rt (d : D) (cs : List Cell)
  | bk (env : Env) (cs : List Cell)
  | ct (env : Env) (cs : List Cell)
  | ex (c : Nat) (ks : List Nat) (fs : List D) (env : Env) (cs : List Cell)
  | no
def SOk (T : Tab) (K : PySem.W.Frag) (W : WX) (I : Hp) (m : List Addr) (o : SO) (B : Ends) : Prop := match o with
  | .nx env cs => ∀ σ' H' I' m', Same I I' → m <+: m' → SR T K I' m' cs H' → ER T K I' m' env σ' → B.nx σ' H'
  | .rt d cs => ∀ v H' I' m', Same I I' → m <+: m' → SR T K I' m' cs H' → Rp T K I' m' d v → B.rt v H'
  | .bk env cs => ∀ σ' H' I' m', Same I I' → m <+: m' → SR T K I' m' cs H' → ER T K I' m' env σ' → B.bk σ' H'
  | .ct env cs => ∀ σ' H' I' m', Same I I' → m <+: m' → SR T K I' m' cs H' → ER T K I' m' env σ' → B.ct σ' H'
  | .ex c ks fs env cs => ∀ cls od σ' H' I' m', Same I I' → m <+: m' → SR T K I' m' cs H' → ER T K I' m' env σ' → ExR T K I' m' c ks fs cls od → W cls od σ' H'
  | .no => False
abbrev SDen := Env → List Cell → SO
def tS (T : Tab) (K : PySem.W.Frag) (W : WX) (g : SDen) : TS := fun B σ H => ∃ I m cs env, ER T K I m env σ ∧ SR T K I m cs H ∧ SOk T K W I m (g env cs) B
def DS (X : Cx) (T : Tab) (W : WX) (st : Stmt) (g : SDen) : Prop := PS X st (tS T X.K W g)
def DSs (X : Cx) (T : Tab) (W : WX) (st : List Stmt) (g : SDen) : Prop := PSs X st (tS T X.K W g)
def Out.bindS {α : Type} (x : Out α) (env : Env) (k : α → List Cell → SO) : SO := match x with
  | .ok a cs => k a cs
  | .exn c ks fs cs => .ex c ks fs env cs
  | .no => .no
section
variable {T : Tab} {K : PySem.W.Frag} {W : WX} {I I' H H' : Hp} {m m' : List Addr} {B : Ends}
theorem SOk.up {o : SO} (s : Same I I') (p : m <+: m') (h : SOk T K W I m o B) : SOk T K W I' m' o B := by
  cases o with
  | nx => exact fun σ' H' I2 m2 s2 p2 => h σ' H' I2 m2 (s.trans s2) (p.trans p2)
  | rt => exact fun v H' I2 m2 s2 p2 => h v H' I2 m2 (s.trans s2) (p.trans p2)
  | bk => exact fun σ' H' I2 m2 s2 p2 => h σ' H' I2 m2 (s.trans s2) (p.trans p2)
  | ct => exact fun σ' H' I2 m2 s2 p2 => h σ' H' I2 m2 (s.trans s2) (p.trans p2)
  | ex => exact fun cls od σ' H' I2 m2 s2 p2 => h cls od σ' H' I2 m2 (s.trans s2) (p.trans p2)
  | no => exact h
theorem SOk.bindE {α β : Type} {R : Hp → List Addr → α → β → Prop} {x : Out α} {env : Env} {σ : L2.St} {k : α → List Cell → SO} {Q1 : β → Hp → Prop} (h : SOk T K W I m (x.bindS env k) B) (er : ER T K I m env σ)
    (hk : ∀ a cs v H1 I1 m1, Same I I1 → m <+: m1 → SR T K I1 m1 cs H1 → R I1 m1 a v → SOk T K W I1 m1 (k a cs) B → Q1 v H1) : OutG T K R I m x Q1 (fun cls od H' => W cls od σ H') := by
  cases x with
  | ok d cs => exact fun v H' I2 m2 s2 p2 sr r => hk d cs v H' I2 m2 s2 p2 sr r (SOk.up s2 p2 h)
  | exn c ks fs cs => exact fun cls od H' I2 m2 s2 p2 sr r => h cls od σ H' I2 m2 s2 p2 sr (er.mono s2 p2) r
  | no => exact h
theorem SOk.nxI {env : Env} {cs : List Cell} {σ : L2.St} (h : SOk T K W I m (.nx env cs) B) (sr : SR T K I m cs H) (er : ER T K I m env σ) : B.nx σ H := h σ H I m (Same.refl I) (List.prefix_refl _) sr er
end
section
variable {X : Cx} {T : Tab} {W : WX} {a b c e o : Expr} {es rest : List Expr} {pos : Pos} {st : Stmt} {sts : List Stmt} {f g k : Den D} {p q r : Den Bool} {n : Nat}

/-! ### blocks -/
def sNil : SDen := fun env cs => .nx env cs
def sSeq (g1 g2 : SDen) : SDen := fun env cs => match g1 env cs with
  | .nx env cs => g2 env cs
  | o => o
theorem dss_nil : DSs X T W [] sNil := PSs.imp pss_nil fun B σ H ⟨I, m, cs, env, er, sr, h⟩ => SOk.nxI h sr er
theorem dss_one {g1 : SDen} (h : DS X T W st g1) : DSs X T W [st] g1 := PSs.imp (pss_one h) fun _ _ _ q => q
theorem dss_cons {g1 g2 : SDen} (h1 : DS X T W st g1) (h2 : DSs X T W sts g2) : DSs X T W (st :: sts) (sSeq g1 g2) := by
  refine PSs.imp (pss_cons h1 h2) ?_
  rintro B σ H ⟨I, m, cs, env, er, sr, h⟩
  refine ⟨I, m, cs, env, er, sr, ?_⟩
  unfold sSeq at h
  cases hg : g1 env cs with
  | nx env' cs' =>
    simp only [hg] at h
    exact fun σ' H' I2 m2 s2 p2 sr2 er2 => ⟨I2, m2, cs', env', er2, sr2, SOk.up s2 p2 h⟩
  | _ => simp only [hg] at h; exact h
/-- slots whose value is forgotten -/
def killE : List Nat → Env → Env
  | [], env => env
  | i :: r, env => killE r (env.set i none)
theorem ER.kill {K : PySem.W.Frag} {I : Hp} {m : List Addr} {σ : L2.St} : ∀ {ks : List Nat} {env : Env}, ER T K I m env σ → ER T K I m (killE ks env) σ
  | [], _, h => h
  | i :: r, env, h => by
    show ER T K I m (killE r (env.set i none)) σ
    exact ER.kill (ks := r) h.forget
def sPass : SDen := fun env cs => .nx env cs
theorem ds_pass : DS X T W (.Pass pos) sPass := PS.imp ps_pass fun B σ H ⟨I, m, cs, env, er, sr, h⟩ => SOk.nxI h sr er
theorem ds_break : DS X T W (.Break pos) (fun env cs => .bk env cs) := PS.imp ps_break fun B σ H ⟨I, m, cs, env, er, sr, h⟩ => h σ H I m (Same.refl I) (List.prefix_refl _) sr er
theorem ds_continue : DS X T W (.Continue pos) (fun env cs => .ct env cs) := PS.imp ps_continue fun B σ H ⟨I, m, cs, env, er, sr, h⟩ => h σ H I m (Same.refl I) (List.prefix_refl _) sr er
/-- a statement that is not reached, or of which nothing is said -/
def sNo : SDen := fun _ _ => .no
theorem ds_no : DS X T W st sNo := PS.imp ps_never fun B σ H ⟨I, m, cs, env, er, sr, h⟩ => h
def sExpr (f : Den D) : SDen := fun env cs => (f env cs).bindS env fun _ cs => .nx env cs
theorem ds_expr (h : DE X T W e f) (hs : swapsWith e none pos.line X.env = pure false := by rfl) : DS X T W (.Expr e pos) (sExpr f) := by
  refine PS.imp (ps_expr h hs) ?_
  rintro B σ H ⟨I, m, cs, env, er, sr, h⟩
  exact ⟨I, m, cs, env, er, sr, SOk.bindE h er fun d cs1 v H1 I1 m1 s1 p1 sr1 r1 h1 => SOk.nxI h1 sr1 (er.mono s1 p1)⟩
def sRet (f : Den D) : SDen := fun env cs => (f env cs).bindS env fun d cs => .rt d cs
theorem ds_ret (h : DE X T W e f) : DS X T W (.Return (some e) pos) (sRet f) := by
  refine PS.imp (ps_ret h) ?_
  rintro B σ H ⟨I, m, cs, env, er, sr, h⟩
  exact ⟨I, m, cs, env, er, sr, SOk.bindE h er fun d cs1 v H1 I1 m1 s1 p1 sr1 r1 h1 => h1 v H1 I1 m1 (Same.refl _) (List.prefix_refl _) sr1 r1⟩
def sRetN : SDen := fun _ cs => .rt .non cs
theorem ds_retN : DS X T W (.Return none pos) sRetN := PS.imp ps_retN fun B σ H ⟨I, m, cs, env, er, sr, h⟩ => h .non H I m (Same.refl I) (List.prefix_refl _) sr (rp_non.mpr rfl)
/-- a list's cell is given out frozen -/
def dFrz (f : Den D) : Den D := fun env cs => (f env cs).bind fun x cs => match x with
  | .cell n => match cs[n]? with
    | some (.lst xs) => .ok (.lst xs) (cs.set n .gone)
    | _ => .no
  | d => .ok d cs
theorem de_frz (h : DE X T W e f) : DE X T W e (dFrz f) := by
  refine PE.imp h ?_
  rintro σ H Q ⟨I, m, cs, env, er, sr, h⟩
  refine ⟨I, m, cs, env, er, sr, OutG.bindI h fun x cs1 v H1 I1 m1 s1 p1 sr1 r1 h1 => ?_⟩
  by_cases hz : ∃ z, x = .cell z
  · obtain ⟨z, rfl⟩ := hz
    simp only at h1
    split at h1
    · rename_i ys hc
      obtain ⟨a, us, rfl, ea, q1, q2⟩ := cell_lst sr1 r1 hc
      obtain ⟨sr2, s2⟩ := sr1.frz hc (by intro z; cases z) ea q1
      exact h1.ok1 s2 sr2 (rp_lst.mpr ⟨a, us, rfl, SqX.of upd_same, RpL.mono s2 (List.prefix_refl _) q2⟩)
    · exact h1.elim
  · have h' : OutG T X.K (RD T X.K) I1 m1 (.ok x cs1) Q (fun cls od H' => W cls od σ H') := by
      cases x <;> first | exact h1 | exact absurd ⟨_, rfl⟩ hz
    exact h'.okI sr1 r1
/-- a slot's list is frozen from here on -/
def frzE (i : Nat) (env : Env) (cs : List Cell) (k : Env → List Cell → SO) : SO := match env[i]? with
  | some (some (.cell n)) => match cs[n]? with
    | some (.lst xs) => k (env.set i (some (.lst xs))) (cs.set n .gone)
    | _ => .no
  | _ => k env cs
def sFrz (i : Nat) (g : SDen) : SDen := fun env cs => frzE i env cs g
theorem tS_frz {K : PySem.W.Frag} {i : Nat} {g : SDen} : ∀ B σ H, tS T K W (sFrz i g) B σ H → tS T K W g B σ H := by
  rintro B σ H ⟨I, m, cs, env, er, sr, h⟩
  unfold sFrz frzE at h
  split at h
  · rename_i n he
    split at h
    · rename_i xs hc
      obtain ⟨v, e1, r1⟩ := er.at_ i _ he
      obtain ⟨a, us, rfl, ea, q1, q2⟩ := cell_lst sr r1 hc
      obtain ⟨sr2, s2⟩ := sr.frz hc (by intro z; cases z) ea q1
      have rl : Rp T K (L2.upd I a (.lst us)) m (.lst xs) (.ref a) := rp_lst.mpr ⟨a, us, rfl, SqX.of upd_same, RpL.mono s2 (List.prefix_refl _) q2⟩
      have er2 := (er.mono s2 (List.prefix_refl _)).set (i := i) rl
      have hσ : σ.set i (some (.ref a)) = σ := by
        have hi := (List.getElem?_eq_some_iff.mp e1)
        obtain ⟨hi, hv⟩ := hi
        rw [← hv, List.set_getElem_self]
      rw [hσ] at er2
      exact ⟨_, m, _, _, er2, sr2, SOk.up s2 (List.prefix_refl _) h⟩
    · exact h.elim
  · exact ⟨I, m, cs, env, er, sr, h⟩
theorem dss_frz {i : Nat} {g1 : SDen} (h : DSs X T W sts g1) : DSs X T W sts (sFrz i g1) := PSs.imp h tS_frz
theorem ds_frz {i : Nat} {g1 : SDen} (h : DS X T W st g1) : DS X T W st (sFrz i g1) := PS.imp h tS_frz

/-! ### if -/
def sIf (p : Den Bool) (g1 g2 : SDen) : SDen := fun env cs => (p env cs).bindS env fun b cs => if b = true then g1 env cs else g2 env cs
theorem ds_if {g1 g2 : SDen} {s1 s2 : List Stmt} (hc : DT X T W c p) (h1 : DSs X T W s1 g1) (h2 : DSs X T W s2 g2) : DS X T W (.If c s1 s2 pos) (sIf p g1 g2) := by
  refine PS.imp (ps_if hc h1 h2) ?_
  rintro B σ H ⟨I, m, cs, env, er, sr, h⟩
  refine ⟨I, m, cs, env, er, sr, SOk.bindE h er fun b cs1 v H1 I1 m1 s1 p1 sr1 r1 h1 => ?_⟩
  have e : b = v := r1
  subst e
  split at h1
  · rename_i hb
    rw [if_pos hb]
    exact ⟨I1, m1, cs1, env, er.mono s1 p1, sr1, h1⟩
  · rename_i hb
    rw [if_neg hb]
    exact ⟨I1, m1, cs1, env, er.mono s1 p1, sr1, h1⟩

/-! ### stores -/
abbrev GDen := D → Env → List Cell → SO
def tGt (T : Tab) (K : PySem.W.Frag) (g : GDen) : TG := fun v σ H Q => ∃ I m cs env d, ER T K I m env σ ∧ SR T K I m cs H ∧ Rp T K I m d v ∧ (match g d env cs with
  | .nx env' cs' => ∀ σ' H' I' m', Same I I' → m <+: m' → SR T K I' m' cs' H' → ER T K I' m' env' σ' → Q σ' H'
  | _ => False)
def tGs (T : Tab) (K : PySem.W.Frag) (g : List D → Env → List Cell → SO) : TGs := fun vs σ H Q => ∃ I m cs env ds, ER T K I m env σ ∧ SR T K I m cs H ∧ RpL T K I m ds vs ∧ (match g ds env cs with
  | .nx env' cs' => ∀ σ' H' I' m', Same I I' → m <+: m' → SR T K I' m' cs' H' → ER T K I' m' env' σ' → Q σ' H'
  | _ => False)
def DG (X : Cx) (T : Tab) (tgt : Expr) (g : GDen) : Prop := PG X tgt (tGt T X.K g)
def DGs (X : Cx) (T : Tab) (tgts : List Expr) (g : List D → Env → List Cell → SO) : Prop := PGs X tgts (tGs T X.K g)
theorem PG.imp {tgt : Expr} {t t' : TG} (h : PG X tgt t) (i : ∀ v σ H Q, t' v σ H Q → t v σ H Q) : PG X tgt t' := ⟨fun pins s σ H v u Q I r q => h.run pins s σ H v u Q I r (i v σ H Q q)⟩
theorem PGs.imp {ts : List Expr} {t t' : TGs} (h : PGs X ts t) (i : ∀ v σ H Q, t' v σ H Q → t v σ H Q) : PGs X ts t' := ⟨fun pins s σ H v u Q I r q => h.run pins s σ H v u Q I r (i v σ H Q q)⟩
def gNm (i : Nat) : GDen := fun d env cs => .nx (env.set i (some d)) cs
theorem dg_name {i : Nat} {x : Str} (h : PG X (.Name x pos) (gName i)) : DG X T (.Name x pos) (gNm i) := by
  refine PG.imp h ?_
  rintro v σ H Q ⟨I, m, cs, env, d, er, sr, r, h⟩
  exact h _ H I m (Same.refl I) (List.prefix_refl _) sr (er.set r)
def gsNil : List D → Env → List Cell → SO := fun ds env cs => match ds with
  | [] => .nx env cs
  | _ => .no
def gsCons (g : GDen) (gs : List D → Env → List Cell → SO) : List D → Env → List Cell → SO := fun ds env cs => match ds with
  | d :: ds => match g d env cs with
    | .nx env cs => gs ds env cs
    | _ => .no
  | [] => .no
theorem dgs_nil : DGs X T [] gsNil := by
  refine PGs.imp pgs_nil ?_
  rintro vs σ H Q ⟨I, m, cs, env, ds, er, sr, r, h⟩
  cases ds with
  | nil => exact ⟨r.inil, h σ H I m (Same.refl I) (List.prefix_refl _) sr er⟩
  | cons d ds => exact h.elim
theorem dgs_cons {g1 : GDen} {gs : List D → Env → List Cell → SO} (h1 : DG X T e g1) (h2 : DGs X T es gs) (hs : (assignEach (e :: es) X.env).map (·.2) = assign e X.env :: (assignEach es X.env).map (·.2) := by rfl) : DGs X T (e :: es) (gsCons g1 gs) := by
  refine PGs.imp (pgs_cons h1 h2 hs) ?_
  rintro vs σ H Q ⟨I, m, cs, env, ds, er, sr, r, h⟩
  cases ds with
  | nil => exact h.elim
  | cons d ds =>
    obtain ⟨v, r', rfl, q, k⟩ := r.inv
    unfold gsCons at h
    simp only at h
    cases hg : g1 d env cs with
    | nx env' cs' =>
      simp only [hg] at h
      refine ⟨v, r', rfl, I, m, cs, env, d, er, sr, q, ?_⟩
      rw [hg]
      intro σ' H' I' m' s1 p1 sr1 er1
      refine ⟨I', m', cs', env', ds, er1, sr1, RpL.mono s1 p1 k, ?_⟩
      cases hg2 : gs ds env' cs' with
      | nx env2 cs2 =>
        simp only [hg2] at h ⊢
        exact fun σ2 H2 I2 m2 s2 p2 => h σ2 H2 I2 m2 (s1.trans s2) (p1.trans p2)
      | _ => simp only [hg2] at h
    | _ => simp only [hg] at h
def gTupD (n : Nat) (gs : List D → Env → List Cell → SO) : GDen := fun d env cs => match d with
  | .tup xs => if xs.length = n then gs xs env cs else .no
  | _ => .no
theorem dg_tup {k n : Nat} {gs : List D → Env → List Cell → SO} (hc : X.calm = true) (h : DGs X T es gs) (hn : (assignEach es X.env).length = n := by rfl) (hst : (assignEach es X.env).findIdx? (·.1) = none := by rfl) : DG X T (.Tuple es k pos) (gTupD n gs) := by
  refine PG.imp (pg_tup hc h hn hst) ?_
  rintro v σ H Q ⟨I, m, cs, env, d, er, sr, r, h⟩
  cases d with
  | tup xs =>
    obtain ⟨a, vs, rfl, q1, q2⟩ := rp_tup.mp r
    unfold gTupD at h
    simp only at h
    by_cases hl : xs.length = n
    · rw [if_pos hl] at h
      exact ⟨a, vs, rfl, SqT.same sr.same q1, by rw [← q2.length]; exact hl, I, m, cs, env, xs, er, sr, q2, h⟩
    · rw [if_neg hl] at h; exact h.elim
  | _ => exact h.elim
def gLstD (n : Nat) (gs : List D → Env → List Cell → SO) : GDen := fun d env cs => match itemsL cs d with
  | some xs => if xs.length = n then gs xs env cs else .no
  | none => .no
theorem dg_lst {k n : Nat} {gs : List D → Env → List Cell → SO} (hc : X.calm = true) (h : DGs X T es gs) (hn : (assignEach es X.env).length = n := by rfl) (hst : (assignEach es X.env).findIdx? (·.1) = none := by rfl) : DG X T (.Tuple es k pos) (gLstD n gs) := by
  refine PG.imp (pg_lst hc h hn hst) ?_
  rintro v σ H Q ⟨I, m, cs, env, d, er, sr, r, h⟩
  unfold gLstD at h
  cases hi : itemsL cs d with
  | none => simp only [hi] at h
  | some xs =>
    simp only [hi] at h
    obtain ⟨a, vs, rfl, q1, q2⟩ := itemsL_ok sr r hi
    by_cases hl : xs.length = n
    · rw [if_pos hl] at h
      exact ⟨a, vs, rfl, q1.l, by rw [← q2.length]; exact hl, I, m, cs, env, xs, er, sr, q2, h⟩
    · rw [if_neg hl] at h; exact h.elim
/-- o[i] = d, a list -/
def gIx (f g : Den D) : GDen := fun d env cs => (f env cs).bindS env fun x cs => (g env cs).bindS env fun y cs => match x, asI y with
  | .cell n, some i => match cs[n]? with
    | some (.lst xs) => match ixN xs.length i with
      | some j => .nx env (cs.set n (.lst (xs.set j d)))
      | none => .no
    | _ => .no
  | _, _ => .no
theorem dg_ix (hW : W = fun _ _ _ _ => False) (ho : DE X T W o f) (hi : DE X T W e g) (ha : ∀ v, assign (.Subscript o e pos) X.env v = (do
      let ov ← holding [v] (eval o X.env)
      let iv ← holding [v, ov] (eval e X.env)
      standAt pos
      holding [v, ov, iv] (setItem ov iv v)
      release [v, ov, iv] []) := by intro _; rfl) : DG X T (.Subscript o e pos) (gIx f g) := by
  subst hW
  refine PG.imp (pg_sub ho hi set_list ha) ?_
  rintro v σ H Q ⟨I, m, cs, env, d, er, sr, r, h⟩
  unfold gIx at h
  cases hf : f env cs with
  | no => simp [hf, Out.bindS] at h
  | exn => simp [hf, Out.bindS] at h
  | ok x cs1 =>
    rw [hf] at h
    simp only [Out.bindS] at h
    refine ⟨I, m, cs, env, er, sr, ?_⟩
    rw [hf]
    intro vo H1 I1 m1 s1 p1 sr1 r1
    refine ⟨I1, m1, cs1, env, er.mono s1 p1, sr1, ?_⟩
    cases hg : g env cs1 with
    | no => simp [hg] at h
    | exn => simp [hg] at h
    | ok y cs2 =>
      rw [hg] at h
      simp only at h
      intro vi H2 I2 m2 s2 p2 sr2 r2
      split at h
      · rename_i env' cs' hx
        split at hx
        · rename_i n i hy
          have e := asI_ok hy; subst e
          split at hx
          · rename_i xs hc
            split at hx
            · rename_i j hj
              cases hx
              obtain ⟨a, us, rfl, ea, q1, q2⟩ := cell_lst sr2 (r1.mono s2 p2) hc
              have rv := (r.mono s1 p1).mono s2 p2
              have sr3 := sr2.setC (o := .lst (us.set j v)) (c := .lst (xs.set j d)) hc (by intro z; cases z) ea (q2.set rv)
              exact ⟨a, us, i, j, rfl, rp_int.mp r2, q1, by rw [← q2.length]; exact hj, h σ _ I2 m2 (s1.trans s2) (p1.trans p2) sr3 ((er.mono s1 p1).mono s2 p2)⟩
            · cases hx
          · cases hx
        · cases hx
      · exact h.elim
/-- target = value -/
def sAsg (f : Den D) (g : GDen) : SDen := fun env cs => (f env cs).bindS env fun d cs => match g d env cs with
  | .nx env cs => .nx env cs
  | _ => .no
theorem tAsg_of {g1 : GDen} {te : TE} {tg : TG} (e1 : te = tG T X.K W (RD T X.K) f) (e2 : tg = tGt T X.K g1) : ∀ B σ H, tS T X.K W (sAsg f g1) B σ H → tAsg te tg B σ H := by
  subst e1 e2
  rintro B σ H ⟨I, m, cs, env, er, sr, h⟩
  refine ⟨I, m, cs, env, er, sr, SOk.bindE h er fun d cs1 v H1 I1 m1 s1 p1 sr1 r1 h1 => ?_⟩
  refine ⟨I1, m1, cs1, env, d, er.mono s1 p1, sr1, r1, ?_⟩
  cases hg : g1 d env cs1 with
  | nx env' cs' => simp only [hg] at h1; exact h1
  | _ => simp only [hg] at h1; exact h1.elim
theorem ds_asg {tg : Expr} {g1 : GDen} (he : DE X T W e f) (hg : DG X T tg g1) (hs : swapsWithSole [tg] e pos.line X.env = pure false := by rfl) (hw : swappedStores [tg] e X.env = pure none := by rfl)
    (h1 : (assignEach [tg] X.env).map (·.2) = [assign tg X.env] := by rfl) : DS X T W (.Assign [tg] e pos) (sAsg f g1) := PS.imp (ps_asg he hg hs hw h1) (tAsg_of rfl rfl)
/-- name = value -/
def sSet (i : Nat) (f : Den D) : SDen := fun env cs => (f env cs).bindS env fun d cs => .nx (env.set i (some d)) cs
theorem tSet_of {i : Nat} {te : TE} (e1 : te = tG T X.K W (RD T X.K) f) : ∀ B σ H, tS T X.K W (sSet i f) B σ H → tAsg te (gName i) B σ H := by
  subst e1
  rintro B σ H ⟨I, m, cs, env, er, sr, h⟩
  exact ⟨I, m, cs, env, er, sr, SOk.bindE h er fun d cs1 v H1 I1 m1 s1 p1 sr1 r1 h1 => SOk.nxI h1 sr1 ((er.mono s1 p1).set r1)⟩
theorem ds_set {i : Nat} {x : Str} {pos' : Pos} (hN : X.N.Nodup) (he : DE X T W e f) (hi : X.N[i]? = some x := by rfl) (hx : Loc X.env.scope x := by first | exact Or.inl rfl | exact Or.inr rfl) (hs : swapsWith e (some (.Name x pos')) pos.line X.env = pure false := by rfl)
    (hf : X.fn x = true ∨ X.env.scope.names.lookup x = some .local := by first | exact .inl rfl | exact .inr rfl) : DS X T W (.Assign [.Name x pos'] e pos) (sSet i f) := PS.imp (ps_set hN hi hx he hs hf) (tSet_of rfl)
/-- x, y = a, b: plain local names -/
def sPar (i j : Nat) (g : Den (List D)) : SDen := fun env cs => (g env cs).bindS env fun ds cs => match ds with
  | [d, e] => .nx ((env.set i (some d)).set j (some e)) cs
  | _ => .no
theorem ds_par {i j : Nat} {x y : Str} {px py pt : Pos} {kt k2 pt2} {g : Den (List D)} (hc : X.calm = true) (hN : X.N.Nodup) (ha : DA X T W [a, b] g) (hi : X.N[i]? = some x := by rfl) (hj : X.N[j]? = some y := by rfl) (hij : i ≠ j := by decide)
    (hx : X.env.scope.names.lookup x = some .local := by rfl) (hy : X.env.scope.names.lookup y = some .local := by rfl)
    (hw : swappedStores [.Tuple [.Name x px, .Name y py] kt pt] (.Tuple [a, b] k2 pt2) X.env = pure (some [x, y]) := by rfl)
    (hs : swapsWithSole [.Tuple [.Name x px, .Name y py] kt pt] (.Tuple [a, b] k2 pt2) pos.line X.env = pure false := by rfl) :
    DS X T W (.Assign [.Tuple [.Name x px, .Name y py] kt pt] (.Tuple [a, b] k2 pt2) pos) (sPar i j g) := by
  refine PS.imp (ps_par hc hN hi hj hij hx hy ha hw hs) ?_
  rintro B σ H ⟨I, m, cs, env, er, sr, h⟩
  refine ⟨I, m, cs, env, er, sr, SOk.bindE h er fun ds cs1 vs H1 I1 m1 s1 p1 sr1 r1 h1 => ?_⟩
  split at h1
  · obtain ⟨v, u, rfl, q1, q2⟩ := RpL.i2 r1
    exact ⟨v, u, rfl, SOk.nxI h1 sr1 (((er.mono s1 p1).set q1).set q2)⟩
  · exact h1.elim
/-- o.f = value -/
def putK (k : Nat) (d : D) : List Nat → List D → List Nat × List D
  | k' :: ks, x :: ds => if k = k' then (k' :: ks, d :: ds) else ((k' :: (putK k d ks ds).1), (x :: (putK k d ks ds).2))
  | _, _ => ([k], [d])
theorem putK_ok {K : PySem.W.Frag} {I : Hp} {m : List Addr} {k : Nat} {d : D} {v : V} (inj : ∀ i j, T.nm i = T.nm j → i = j) (rv : Rp T K I m d v) : ∀ {ks : List Nat} {ds : List D} {gs : List (Str × V)}, gs.map (·.1) = ks.map T.nm → RpL T K I m ds (gs.map (·.2)) →
    (putF (T.nm k) v gs).map (·.1) = (putK k d ks ds).1.map T.nm ∧ RpL T K I m (putK k d ks ds).2 ((putF (T.nm k) v gs).map (·.2))
  | [], ds, [], e, r => by
    have : ds = [] := by
      have l := r.length
      cases ds with
      | nil => rfl
      | cons _ _ => simp at l
    subst this
    exact ⟨rfl, RpL.one rv⟩
  | [], _, _ :: _, e, _ => by simp at e
  | _ :: _, _, [], e, _ => by simp at e
  | k' :: ks, [], (n, w) :: gs, e, r => by
    have := r.length
    simp at this
  | k' :: ks, x :: ds, (n, w) :: gs, e, r => by
    simp only [List.map_cons, List.cons.injEq] at e
    obtain ⟨v', r', e', q, r2⟩ := r.inv
    simp only [List.map_cons, List.cons.injEq] at e'
    obtain ⟨rfl, rfl⟩ := e'
    obtain ⟨e1, e2⟩ := e
    subst e1
    by_cases hk : k = k'
    · subst hk
      have h1 : putF (T.nm k) v ((T.nm k, w) :: gs) = (T.nm k, v) :: gs := by unfold putF; rw [if_pos rfl]
      rw [h1]
      unfold putK
      rw [if_pos rfl]
      exact ⟨by simp [e2], RpL.cons rv r2⟩
    · have hne : ¬ T.nm k' = T.nm k := fun z => hk (inj _ _ z).symm
      have h1 : putF (T.nm k) v ((T.nm k', w) :: gs) = (T.nm k', w) :: putF (T.nm k) v gs := by
        rw [putF]
        rw [if_neg hne]
      rw [h1]
      unfold putK
      rw [if_neg hk]
      obtain ⟨h2, h3⟩ := putK_ok inj rv e2 r2
      exact ⟨by simp [h2], RpL.cons q h3⟩
def sFldD (od : Nat → List Nat) (k : Nat) (fo fv : Den D) : SDen := fun env cs => (fv env cs).bindS env fun d cs => (fo env cs).bindS env fun x cs => match x with
  | .cell n => match cs[n]? with
    | some (.ins c ks ds) => if k ∈ od c ∧ few ks.length then .nx env (cs.set n (.ins c (putK k d ks ds).1 (putK k d ks ds).2)) else .no
    | _ => .no
  | _ => .no
theorem ds_fld (TK : TabOk X.K T) (inj : ∀ i j, T.nm i = T.nm j → i = j) {od : Nat → List Nat} (hod : T.od = od) {k : Nat} {fn : Str} {pos' : Pos} (hf : T.nm k = fn) (ho : DE X T W o f) (hv : DE X T W e g) (hs : swapsWith e (some (.Attribute o fn pos')) pos.line X.env = pure false := by rfl) :
    DS X T W (.Assign [.Attribute o fn pos'] e pos) (sFldD od k f g) := by
  subst hf hod
  refine PS.imp (ps_fld ho hv hs) ?_
  rintro B σ H ⟨I, m, cs, env, er, sr, h⟩
  refine ⟨I, m, cs, env, er, sr, SOk.bindE h er fun d cs1 v H1 I1 m1 s1 p1 sr1 r1 h1 => ?_⟩
  refine ⟨I1, m1, cs1, env, er.mono s1 p1, sr1, SOk.bindE h1 (er.mono s1 p1) fun x cs2 w H2 I2 m2 s2 p2 sr2 r2 h2 => ?_⟩
  split at h2
  · rename_i n
    split at h2
    · rename_i c ks ds hc
      split at h2
      · rename_i hk
        obtain ⟨a, e1, rfl⟩ := rp_cell.mp r2
        obtain ⟨a', ob, q1, q2, q3, q4⟩ := sr2.at_ n _ hc (by intro z; cases z)
        rw [e1] at q1; cases q1
        cases ob with
        | ins C dx gs =>
          obtain ⟨rfl, q5, q6⟩ := q4
          obtain ⟨c1, c2⟩ := TK c k hk.1
          obtain ⟨p1', p2'⟩ := putK_ok (k := k) inj (r1.mono s2 p2) q5 q6
          have lg : gs.length < 1000 := by
            have := congrArg List.length q5
            simp at this
            have hk2 : ks.length < 1000 := hk.2
            omega
          have sr3 := sr2.setC (o := .ins (T.ca c) dx (putF (T.nm k) v gs)) (c := .ins c (putK k d ks ds).1 (putK k d ks ds).2) hc (by intro z; cases z) e1 ⟨rfl, p1', p2'⟩
          exact ⟨a, T.ca c, dx, gs, rfl, q3, c1, c2, lg, SOk.nxI h2 sr3 ((er.mono s1 p1).mono s2 p2)⟩
        | _ => exact q4.elim
      · exact h2.elim
    · exact h2.elim
  · exact h2.elim
end
end
end DL
end

section
set_option Elab.async false
set_option linter.all false
set_option maxRecDepth 100000
set_option maxHeartbeats 4000000
namespace DL
open PySem L2
open Classical
noncomputable section

/-! ### what a loop walks: items known at its start; chk: the walked thing stands as it was -/
structure ItV where
  xs : List D
  chk : List Cell → Prop
def RI (T : Tab) (K : PySem.W.Frag) (I : Hp) (m : List Addr) (it : ItV) (J : It) : Prop :=
  ∀ I' m' cs H, Same I I' → m <+: m' → SR T K I' m' cs H → it.chk cs →
    (∀ i d, it.xs[i]? = some d → J.go i H ∧ ∀ x H', J.yld i H x H' → ∃ I2, Same I' I2 ∧ SR T K I2 m' cs H' ∧ Rp T K I2 m' d x) ∧ J.stop it.xs.length H
def DI (X : Cx) (T : Tab) (W : WX) (tg e : Expr) (f : Den ItV) : Prop := PI X tg e (tG T X.K W (RI T X.K) f)
theorem PI.imp {X : Cx} {tg e : Expr} {t t' : TI} (h : PI X tg e t) (i : ∀ σ H Q, t' σ H Q → t σ H Q) : PI X tg e t' := ⟨fun pins s σ H R I q => h.run pins s σ H R I (i σ H R q)⟩
theorem RI.mono {T : Tab} {K : PySem.W.Frag} {I I' : Hp} {m m' : List Addr} {it : ItV} {J : It} (s : Same I I') (p : m <+: m') (h : RI T K I m it J) : RI T K I' m' it J :=
  fun I2 m2 cs H s2 p2 => h I2 m2 cs H (s.trans s2) (p.trans p2)
def forL (chk : List Cell → Prop) (g : GDen) (b : SDen) : List D → SDen
  | [] => fun env cs => if chk cs then .nx env cs else .no
  | x :: r => fun env cs => if chk cs then (match g x env cs with
      | .nx env cs => (match b env cs with
        | .nx env cs => forL chk g b r env cs
        | .ct env cs => forL chk g b r env cs
        | .bk env cs => .nx env cs
        | o => o)
      | _ => .no) else .no
def sFor (f : Den ItV) (g : GDen) (b : SDen) : SDen := fun env cs => (f env cs).bindS env fun it cs => forL it.chk g b it.xs env cs
section
variable {X : Cx} {T : Tab} {W : WX} {tg iter : Expr} {body : List Stmt} {f : Den ItV} {g : GDen} {b : SDen} {pos : Pos}
theorem tFor_of {tb : TS} {wi : TI} {tgt : TG} (e1 : wi = tG T X.K W (RI T X.K) f) (e2 : tgt = tGt T X.K g) (e3 : tb = tS T X.K W b) : ∀ B σ H, tS T X.K W (sFor f g b) B σ H → tFor wi tgt tb B σ H := by
  subst e1 e2 e3
  rintro B σ H ⟨I, m, cs, env, er, sr, h⟩
  refine ⟨I, m, cs, env, er, sr, SOk.bindE h er fun it cs1 J H1 I1 m1 s1 p1 sr1 r1 h1 => ?_⟩
  refine ⟨fun i n σ H => n = it.xs.length - i ∧ i ≤ it.xs.length ∧ ∃ I m cs env, ER T X.K I m env σ ∧ SR T X.K I m cs H ∧ RI T X.K I m it J ∧ SOk T X.K W I m (forL it.chk g b (it.xs.drop i) env cs) B, ⟨it.xs.length, by simp, Nat.zero_le _, I1, m1, cs1, env, er.mono s1 p1, sr1, r1, by simpa using h1⟩, ?_⟩
  rintro i n σ H ⟨rfl, hi, I, m, cs, env, er, sr, r, h⟩
  by_cases hlt : i < it.xs.length
  · have ed : it.xs.drop i = it.xs[i] :: it.xs.drop (i + 1) := by simp
    rw [ed] at h
    unfold forL at h
    by_cases hc : it.chk cs
    · rw [if_pos hc] at h
      obtain ⟨q1, q2⟩ := r I m cs H (Same.refl I) (List.prefix_refl _) sr hc
      obtain ⟨go, ys⟩ := q1 i it.xs[i] (by simp [hlt])
      refine .inr ⟨go, fun σ' H' => ∃ I m cs env, ER T X.K I m env σ' ∧ SR T X.K I m cs H' ∧ RI T X.K I m it J ∧ SOk T X.K W I m (forL it.chk g b (it.xs.drop (i + 1)) env cs) B, fun σ' H' p' => ⟨it.xs.length - (i + 1), by omega, rfl, hlt, p'⟩, fun x H' y => ?_⟩
      obtain ⟨I2, s2, sr2, r2⟩ := ys x H' y
      refine ⟨I2, m, cs, env, it.xs[i], er.mono s2 (List.prefix_refl _), sr2, r2, ?_⟩
      cases hg : g it.xs[i] env cs with
      | nx env' cs' =>
        simp only [hg] at h ⊢
        intro σ3 H3 I3 m3 s3 p3 sr3 er3
        refine ⟨I3, m3, cs', env', er3, sr3, ?_⟩
        have r3 := (r.mono s2 (List.prefix_refl _)).mono s3 p3
        have h := SOk.up (s2.trans s3) p3 h
        cases hb : b env' cs' with
        | nx env4 cs4 =>
          simp only [hb] at h
          exact fun σ4 H4 I4 m4 s4 p4 sr4 er4 => ⟨I4, m4, cs4, env4, er4, sr4, r3.mono s4 p4, SOk.up s4 p4 h⟩
        | ct env4 cs4 =>
          simp only [hb] at h
          exact fun σ4 H4 I4 m4 s4 p4 sr4 er4 => ⟨I4, m4, cs4, env4, er4, sr4, r3.mono s4 p4, SOk.up s4 p4 h⟩
        | bk env4 cs4 =>
          simp only [hb] at h
          exact h
        | rt d4 cs4 =>
          simp only [hb] at h
          exact h
        | ex c ks fs env4 cs4 =>
          simp only [hb] at h
          exact h
        | no =>
          simp only [hb] at h
          exact h
      | _ => simp only [hg] at h; exact h.elim
    · rw [if_neg hc] at h; exact h.elim
  · have e : i = it.xs.length := by omega
    have ed : it.xs.drop i = [] := by rw [e]; simp
    rw [ed] at h
    unfold forL at h
    by_cases hc : it.chk cs
    · rw [if_pos hc] at h
      refine .inl ⟨?_, SOk.nxI h sr er⟩
      rw [e]
      exact (r I m cs H (Same.refl I) (List.prefix_refl _) sr hc).2
    · rw [if_neg hc] at h; exact h.elim
theorem ds_for (hp : PassesOwn (model X.prog X.w) X.A X.env X.xe) (hc : X.calm = true) (hi : DI X T W tg iter f) (hg : DG X T tg g) (hb : DSs X T W body b)
    (hs : ∀ x, foldedSetIterable iter X.env x = pure x := by intro _; rfl) : DS X T W (.For tg iter body [] pos) (sFor f g b) := PS.imp (ps_for hp hc hi hg hb hs) (tFor_of rfl rfl rfl)

/-! ### while -/
def whileD (p : Den Bool) (b : SDen) : Nat → SDen
  | 0 => fun _ _ => .no
  | n + 1 => fun env cs => (p env cs).bindS env fun k cs => if k = true then (match b env cs with
      | .nx env cs => whileD p b n env cs
      | .ct env cs => whileD p b n env cs
      | .bk env cs => .nx env cs
      | o => o) else .nx env cs
def sWhile (p : Den Bool) (b : SDen) : SDen := fun env cs => if h : ∃ n, whileD p b n env cs ≠ .no then whileD p b h.choose env cs else .no
theorem whileD_mono {p : Den Bool} : ∀ {n k : Nat} {env : Env} {cs : List Cell}, n ≤ k → whileD p b n env cs ≠ .no → whileD p b k env cs = whileD p b n env cs
  | 0, _, _, _, _, h => absurd rfl h
  | n + 1, 0, _, _, l, _ => absurd l (by omega)
  | n + 1, k + 1, env, cs, l, h => by
    unfold whileD at h ⊢
    cases hp : p env cs with
    | no => rfl
    | exn => rfl
    | ok k1 cs1 =>
      simp only [hp, Out.bindS] at h ⊢
      by_cases hk : k1 = true
      · rw [if_pos hk] at h
        rw [if_pos hk, if_pos hk]
        cases hb : b env cs1 with
        | nx env4 cs4 =>
          simp only [hb] at h ⊢
          exact whileD_mono (by omega) h
        | ct env4 cs4 =>
          simp only [hb] at h ⊢
          exact whileD_mono (by omega) h
        | _ => rfl
      · rw [if_neg hk, if_neg hk]
theorem sWhile_of {p : Den Bool} {env : Env} {cs : List Cell} {o : SO} (n : Nat) (h : whileD p b n env cs = o) (hn : o ≠ .no) : sWhile p b env cs = o := by
  have hx : ∃ n, whileD p b n env cs ≠ .no := ⟨n, by rw [h]; exact hn⟩
  unfold sWhile
  rw [dif_pos hx]
  rcases Nat.le_total n hx.choose with l | l
  · rw [whileD_mono l (by rw [h]; exact hn), h]
  · rw [← whileD_mono l hx.choose_spec, h]
theorem ds_while {c : Expr} {p : Den Bool} (hp : PassesOwn (model X.prog X.w) X.A X.env X.xe) (hc : DT X T W c p) (hb : DSs X T W body b) : DS X T W (.While c body [] pos) (sWhile p b) := by
  refine PS.imp (ps_while hp hc hb) ?_
  rintro B σ H ⟨I, m, cs, env, er, sr, h⟩
  unfold sWhile at h
  by_cases hx : ∃ n, whileD p b n env cs ≠ .no
  · rw [dif_pos hx] at h
    refine ⟨fun n σ H => ∃ I m cs env, ER T X.K I m env σ ∧ SR T X.K I m cs H ∧ SOk T X.K W I m (whileD p b n env cs) B, ⟨_, I, m, cs, env, er, sr, h⟩, ?_⟩
    rintro n σ H ⟨I, m, cs, env, er, sr, h⟩
    cases n with
    | zero => exact h.elim
    | succ n =>
      unfold whileD at h
      refine ⟨I, m, cs, env, er, sr, SOk.bindE h er fun k cs1 v H1 I1 m1 s1 p1 sr1 r1 h1 => ?_⟩
      have e : k = v := r1
      subst e
      by_cases hk : k = true
      · rw [if_pos hk] at h1
        rw [if_pos hk]
        refine ⟨fun σ' H' => ∃ I m cs env, ER T X.K I m env σ' ∧ SR T X.K I m cs H' ∧ SOk T X.K W I m (whileD p b n env cs) B, fun σ' H' p' => ⟨n, by omega, p'⟩, I1, m1, cs1, env, er.mono s1 p1, sr1, ?_⟩
        cases hb : b env cs1 with
        | nx env4 cs4 =>
          simp only [hb] at h1
          exact fun σ4 H4 I4 m4 s4 p4 sr4 er4 => ⟨I4, m4, cs4, env4, er4, sr4, SOk.up s4 p4 h1⟩
        | ct env4 cs4 =>
          simp only [hb] at h1
          exact fun σ4 H4 I4 m4 s4 p4 sr4 er4 => ⟨I4, m4, cs4, env4, er4, sr4, SOk.up s4 p4 h1⟩
        | bk env4 cs4 => simp only [hb] at h1; exact h1
        | rt d4 cs4 => simp only [hb] at h1; exact h1
        | ex c ks fs env4 cs4 => simp only [hb] at h1; exact h1
        | no => simp only [hb] at h1; exact h1
      · rw [if_neg hk] at h1
        rw [if_neg hk]
        exact SOk.nxI h1 sr1 (er.mono s1 p1)
  · rw [dif_neg hx] at h; exact h.elim
end

/-! ### what is walked -/
section
variable {X : Cx} {T : Tab} {W : WX} {tg e a b c : Expr} {f : Den D} {g : Den (List D)} {pos p : Pos}
def noChk : List Cell → Prop := fun _ => True
/-- a list -/
def itL (f : Den D) : Den ItV := fun env cs => (f env cs).bind fun x cs => match x with
  | .lst xs => .ok ⟨xs, noChk⟩ cs
  | .cell n => match cs[n]? with
    | some (.lst xs) => .ok ⟨xs, fun cs => cs[n]? = some (.lst xs)⟩ cs
    | _ => .no
  | _ => .no
theorem di_list (h : DE X T W e f) : DI X T W tg e (itL f) := by
  refine PI.imp (pi_list h) ?_
  rintro σ H Q ⟨I, m, cs, env, er, sr, h⟩
  refine ⟨I, m, cs, env, er, sr, OutG.bindI h fun x cs1 v H1 I1 m1 s1 p1 sr1 r1 h1 => ?_⟩
  cases x with
  | lst xs =>
    obtain ⟨a, us, rfl, q1, q2⟩ := rp_lst.mp r1
    refine ⟨a, rfl, ⟨us, (q1.same sr1.same).l⟩, h1.okI sr1 ?_⟩
    intro I' m' cs' H' s2 p2 sr2 _
    have qq := ((q1.same s2).same sr2.same)
    have qr := RpL.mono s2 p2 q2
    refine ⟨fun i d hd => ?_, us, qq.l, by rw [q2.length]; exact Nat.le_refl _⟩
    obtain ⟨v, e1, r2⟩ := qr.get hd
    refine ⟨⟨us, v, qq.l, e1⟩, fun x H2 y => ?_⟩
    obtain ⟨rfl, y⟩ := y
    have e2 := y us qq.l
    rw [e1] at e2; cases e2
    exact ⟨I', Same.refl _, sr2, r2⟩
  | cell n =>
    simp only at h1
    split at h1
    · rename_i xs hc
      obtain ⟨a, us, rfl, ea, q1, q2⟩ := cell_lst sr1 r1 hc
      refine ⟨a, rfl, ⟨us, .inl (.inl q1)⟩, h1.okI sr1 ?_⟩
      intro I' m' cs' H' s2 p2 sr2 hk
      obtain ⟨a2, us2, e2, ea2, q3, q4⟩ := cell_lst sr2 (Rp.mono s2 p2 r1) hk
      cases e2
      have qq : SqL X.K H' a us2 := .inl (.inl q3)
      refine ⟨fun i d hd => ?_, us2, qq, by rw [q4.length]; exact Nat.le_refl _⟩
      obtain ⟨v, e1, r2⟩ := q4.get hd
      refine ⟨⟨us2, v, qq, e1⟩, fun x H2 y => ?_⟩
      obtain ⟨rfl, y⟩ := y
      have e2 := y us2 qq
      rw [e1] at e2; cases e2
      exact ⟨I', Same.refl _, sr2, r2⟩
    · exact h1.elim
  | _ => exact h1.elim
/-- a tuple -/
def itT (f : Den D) : Den ItV := fun env cs => (f env cs).bind fun x cs => match x with
  | .tup xs => .ok ⟨xs, noChk⟩ cs
  | _ => .no
theorem di_tup (h : DE X T W e f) : DI X T W tg e (itT f) := by
  refine PI.imp (pi_tup h) ?_
  rintro σ H Q ⟨I, m, cs, env, er, sr, h⟩
  refine ⟨I, m, cs, env, er, sr, OutG.bindI h fun x cs1 v H1 I1 m1 s1 p1 sr1 r1 h1 => ?_⟩
  cases x with
  | tup xs =>
    obtain ⟨a, us, rfl, q1, q2⟩ := rp_tup.mp r1
    refine ⟨a, rfl, ⟨us, SqT.same sr1.same q1⟩, h1.okI sr1 ?_⟩
    intro I' m' cs' H' s2 p2 sr2 _
    have qq := SqT.same sr2.same (SqT.same s2 q1)
    have qr := RpL.mono s2 p2 q2
    refine ⟨fun i d hd => ?_, us, qq, by rw [q2.length]; exact Nat.le_refl _⟩
    obtain ⟨v, e1, r2⟩ := qr.get hd
    refine ⟨⟨us, v, qq, e1⟩, fun x H2 y => ?_⟩
    obtain ⟨rfl, y⟩ := y
    have e2 := y us qq
    rw [e1] at e2; cases e2
    exact ⟨I', Same.refl _, sr2, r2⟩
  | _ => exact h1.elim
/-- the numbers of a range -/
def rngL (lo : Int) (n : Nat) : List D := (List.range n).map fun (i : Nat) => D.int (lo + (i : Int))
theorem rngL_length {lo : Int} {n : Nat} : (rngL lo n).length = n := by unfold rngL; simp
theorem RI.rng {K : PySem.W.Frag} {I : Hp} {m : List Addr} {lo : Int} {n : Nat} : RI T K I m ⟨rngL lo n, noChk⟩ (Itr lo n) := by
  intro I' m' cs' H' s2 p2 sr2 _
  refine ⟨fun i d hd => ?_, by show n ≤ (rngL lo n).length; rw [rngL_length]; exact Nat.le_refl _⟩
  have hi : i < n := by
    have := (List.getElem?_eq_some_iff.mp hd).1
    rw [rngL_length] at this; exact this
  unfold rngL at hd
  simp [hi] at hd
  subst hd
  refine ⟨hi, fun x H2 y => ?_⟩
  obtain ⟨rfl, rfl⟩ := y
  exact ⟨I', Same.refl _, sr2, rp_int.mpr rfl⟩
def itR1 (g : Den (List D)) : Den ItV := fun env cs => (g env cs).bind fun ds cs => match ds with
  | [.int j] => if in62 j then .ok ⟨rngL 0 j.toNat, noChk⟩ cs else .no
  | _ => .no
theorem di_range1 (hg : Gl X "range") (hm : X.mg "range" = none) (ha : DA X T W [a] g) (hs : starEach [a] X.env = [(false, eval a X.env)] := by rfl) : DI X T W tg (.Call (.Name "range" p) [a] [] pos) (itR1 g) := by
  refine PI.imp (pi_range1 hg hm ha hs) ?_
  rintro σ H Q ⟨I, m, cs, env, er, sr, h⟩
  refine ⟨I, m, cs, env, er, sr, OutG.bindI h fun x cs1 v H1 I1 m1 s1 p1 sr1 r1 h1 => ?_⟩
  split at h1
  · rename_i j
    split at h1
    · rename_i hj
      obtain ⟨v1, rfl, q⟩ := RpL.i1 r1
      have hl : -(2 ^ 62) ≤ j ∧ j < 2 ^ 62 := hj
      exact ⟨j, by rw [rp_int.mp q], hl.1, hl.2, h1.okI sr1 RI.rng⟩
    · exact h1.elim
  · exact h1.elim
def itR2 (g : Den (List D)) : Den ItV := fun env cs => (g env cs).bind fun ds cs => match ds with
  | [.int i, .int j] => if in62 i ∧ in62 j then .ok ⟨rngL i (j - i).toNat, noChk⟩ cs else .no
  | _ => .no
theorem di_range2 (hg : Gl X "range") (hm : X.mg "range" = none) (ha : DA X T W [a, b] g) (hs : starEach [a, b] X.env = [(false, eval a X.env), (false, eval b X.env)] := by rfl) (hs2 : starEach [b] X.env = [(false, eval b X.env)] := by rfl) :
    DI X T W tg (.Call (.Name "range" p) [a, b] [] pos) (itR2 g) := by
  refine PI.imp (pi_range2 hg hm ha hs hs2) ?_
  rintro σ H Q ⟨I, m, cs, env, er, sr, h⟩
  refine ⟨I, m, cs, env, er, sr, OutG.bindI h fun x cs1 v H1 I1 m1 s1 p1 sr1 r1 h1 => ?_⟩
  split at h1
  · rename_i i j
    split at h1
    · rename_i hj
      obtain ⟨v1, v2, rfl, q1, q2⟩ := RpL.i2 r1
      have hl : -(2 ^ 62) ≤ i ∧ i < 2 ^ 62 := hj.1
      have hl2 : -(2 ^ 62) ≤ j ∧ j < 2 ^ 62 := hj.2
      exact ⟨i, j, by rw [rp_int.mp q1, rp_int.mp q2], ⟨hl.1, hl.2, hl2.1, hl2.2⟩, h1.okI sr1 RI.rng⟩
    · exact h1.elim
  · exact h1.elim
end
end
end DL
end

section
set_option Elab.async false
set_option linter.all false
set_option maxRecDepth 100000
set_option maxHeartbeats 4000000
namespace DL
open PySem L2
open Classical
noncomputable section

/-! ### cells let go -/
section
variable {T : Tab} {K : PySem.W.Frag} {I I' H H' : Hp} {m m' : List Addr}
mutual
theorem Rp.below : ∀ {d : D} {v : V}, Rp T K I m d v → D.lt m.length d = true
  | .non, _, _ => rfl
  | .bl _, _, _ => rfl
  | .int _, _, _ => rfl
  | .str _, _, _ => rfl
  | .tup ds, v, h => by
    unfold Rp at h; unfold D.lt
    obtain ⟨a, vs, e, q, r⟩ := h
    exact RpL.below r
  | .lst ds, v, h => by
    unfold Rp at h; unfold D.lt
    obtain ⟨a, vs, e, q, r⟩ := h
    exact RpL.below r
  | .obj c ds, v, h => by
    unfold Rp at h; unfold D.lt
    obtain ⟨a, dx, gs, e, q, k, r⟩ := h
    exact RpL.below r
  | .dic ks ds, v, h => by
    unfold Rp at h; unfold D.lt
    obtain ⟨a, gs, e, q, k, r⟩ := h
    exact RpL.below r
  | .cell k, v, h => by
    unfold Rp at h; unfold D.lt
    obtain ⟨a, e, q⟩ := h
    exact decide_eq_true (List.getElem?_eq_some_iff.mp e).1
  | .exc c ks ds, v, h => by
    unfold Rp at h; unfold D.lt
    obtain ⟨a, od, e, q, r⟩ := h
    rcases r with r | ⟨d', gs, r1, r2, r3, r4⟩
    · rw [r.2.2]; rfl
    · exact RpL.below r4
theorem RpL.below : ∀ {ds : List D} {vs : List V}, RpL T K I m ds vs → D.ltL m.length ds = true
  | [], _, _ => rfl
  | d :: ds, vs, h => by
    obtain ⟨v, r, rfl, q, k⟩ := h.inv
    unfold D.ltL
    rw [Rp.below q, RpL.below k]; rfl
end

theorem CellR.below {c : Cell} {o : HO} (h : CellR T K I m c o) : c.lt m.length = true := by
  cases c <;> cases o <;> first | exact h.elim | exact RpL.below h | exact RpL.below h.2.2 | exact RpL.below h.2
end
def trimOk (cs0 cs : List Cell) : Prop := ∀ (i : Nat) (c : Cell), i < cs0.length → cs[i]? = some c → cs0[i]? = some c ∨ c.lt cs0.length = true
def trim (cs0 cs : List Cell) (ok : Bool) : List Cell := if ok = true ∧ trimOk cs0 cs then cs.take cs0.length else cs
theorem trim_len {cs0 cs : List Cell} {b : Bool} (h : cs.length = cs0.length) : trim cs0 cs b = cs := by
  unfold trim; split
  · rw [← h]; simp
  · rfl
theorem trim_self {cs : List Cell} {b : Bool} : trim cs cs b = cs := trim_len rfl
theorem trim_app {cs e : List Cell} : trim cs (cs ++ e) true = cs := by
  unfold trim
  rw [if_pos ⟨rfl, fun i c hi e => .inl (by rw [List.getElem?_append_left hi] at e; exact e)⟩]
  simp
theorem trim_gen {cs0 cs e : List Cell} (hl : cs.length = cs0.length) (h : ∀ (i : Nat) (c : Cell), cs[i]? = some c → cs0[i]? = some c ∨ Cell.lt cs0.length c = true) : trim cs0 (cs ++ e) true = cs := by
  have ok : trimOk cs0 (cs ++ e) := fun i x hi q => by
    rw [List.getElem?_append_left (by omega)] at q
    exact h i x q
  unfold trim
  rw [if_pos ⟨rfl, ok⟩, List.take_left' hl]
theorem trim_set {cs e : List Cell} {n : Nat} {c : Cell} (hc : c.lt cs.length = true) : trim cs (cs.set n c ++ e) true = cs.set n c := by
  refine trim_gen (by simp) fun i x q => ?_
  by_cases hn : n = i
  · subst hn
    by_cases hi : n < cs.length
    · rw [List.getElem?_set_self hi] at q; cases q
      exact .inr hc
    · rw [List.getElem?_eq_none (by simpa using hi)] at q; cases q
  · rw [List.getElem?_set_ne hn] at q
    exact .inl q
section
variable {T : Tab} {K : PySem.W.Frag} {I0 I H0 H : Hp} {m0 m : List Addr} {cs0 cs : List Cell}
theorem SR.trim (s0 : SR T K I0 m0 cs0 H0) (s : SR T K I m cs H) (p : m0 <+: m) (ok : trimOk cs0 cs) : SR T K I m0 (cs.take cs0.length) H ∧ m.take cs0.length = m0 := by
  have em : m.take cs0.length = m0 := by
    obtain ⟨r, rfl⟩ := p
    rw [← s0.len]; simp
  refine ⟨?_, em⟩
  rw [← em]
  refine s.cut (List.all_eq_true.mpr fun c hc => ?_)
  obtain ⟨i, hi, e⟩ := List.getElem_of_mem hc
  have hi' : i < cs0.length := by
    rw [List.length_take] at hi; omega
  have e' : cs[i]? = some c := by
    have : (cs.take cs0.length)[i]? = some c := by rw [List.getElem?_eq_getElem hi, e]
    rw [List.getElem?_take_of_lt hi'] at this
    exact this
  rcases ok i c hi' e' with q | q
  · by_cases hg : c = .gone
    · subst hg; rfl
    · obtain ⟨a, o, _, _, _, r⟩ := s0.at_ i c q hg
      rw [← s0.len]
      exact r.below
  · exact q
end
/-! ### defs -/
abbrev FDen := List D → List Cell → Out D
def finS (cs0 : List Cell) : SO → Out D
  | .rt d cs => .ok d (trim cs0 cs (d.lt cs0.length))
  | .nx _ cs => .ok .non (trim cs0 cs true)
  | .ex c ks fs _ cs => .exn c ks fs (trim cs0 cs (D.ltL cs0.length fs))
  | _ => .no
def env0 (N : Nat) (ds : List D) : Env := ds.map some ++ List.replicate (N - ds.length) none
def mkF (N np : Nat) (b : SDen) : FDen := fun ds cs => if ds.length = np then finS cs (b (env0 N ds) cs) else .no
def spD (T : Tab) (K : PySem.W.Frag) (np : Nat) (den : FDen) : Sp := fun vs H Q E => vs.length = np ∧ ∃ I m cs ds, SR T K I m cs H ∧ RpL T K I m ds vs ∧ OutG T K (RD T K) I m (den ds cs) Q E
/-- a def by its denotation -/
structure DF (P : Program) (w : World) (K : PySem.W.Frag) (mg : PySem.Str → Option Value) (base : Heap) (T : Tab) (k : Nat) (f : Addr) (np : Nat) (den : FDen) : Prop where
  ex : ∃ fd ps, ps.length = np ∧ FnOk P w K mg base (L2.CX P w) k f fd ps (spD T K np den) ∧ Binds K fd ps []
  kp : PySem.W.keepIn K (.ref f) = true
  len : ∀ ds cs, ds.length ≠ np → den ds cs = .no
section
variable {P : Program} {w : World} {K : PySem.W.Frag} {mg : PySem.Str → Option Value} {base : Heap} {T : Tab}
theorem RpL.at_ {I : Hp} {m : List Addr} {ds : List D} {vs : List V} {i : Nat} {d : D} (h : RpL T K I m ds vs) (e : ds[i]? = some d) : ∃ v, vs[i]? = some v ∧ Rp T K I m d v := h.get e
theorem er_start {I : Hp} {m : List Addr} {N : List PySem.Str} {ds : List D} {vs : List V} (h : RpL T K I m ds vs) (hl : vs.length ≤ N.length) : ER T K I m (env0 N.length ds) (L2.start N vs) := by
  have l := h.length
  refine ⟨by unfold env0 L2.start; simp; omega, fun i d e => ?_⟩
  unfold env0 at e
  unfold L2.start
  by_cases hi : i < ds.length
  · rw [List.getElem?_append_left (by simpa using hi), List.getElem?_map] at e
    cases q : ds[i]? with
    | none => rw [q] at e; cases e
    | some d' =>
      rw [q] at e
      simp only [Option.map_some, Option.some.injEq] at e
      subst e
      obtain ⟨v, e1, r⟩ := h.get q
      refine ⟨v, ?_, r⟩
      rw [List.getElem?_append_left (by simp; omega), List.getElem?_map, e1]; rfl
  · rw [List.getElem?_append_right (by simpa using hi), List.getElem?_replicate] at e
    split at e <;> cases e
theorem sok_fin {I H : Hp} {m : List Addr} {cs : List Cell} {o : SO} {Q : VK} {E : XK} (sr : SR T K I m cs H) (h : OutG T K (RD T K) I m (finS cs o) Q E) :
    SOk T K (fun cls d _ H => E cls d H) I m o { nx := fun _ H' => Q .non H', rt := Q } := by
  cases o with
  | nx env cs1 =>
    intro σ' H' I' m' s p sr' er
    change OutG T K (RD T K) I m (.ok .non (if true = true ∧ trimOk cs cs1 then cs1.take cs.length else cs1)) Q E at h
    by_cases ok : true = true ∧ trimOk cs cs1
    · rw [if_pos ok] at h
      obtain ⟨sr2, em⟩ := SR.trim sr sr' p ok.2
      exact h .non H' I' m s (List.prefix_refl _) sr2 (rp_non.mpr rfl)
    · rw [if_neg ok] at h
      exact h .non H' I' m' s p sr' (rp_non.mpr rfl)
  | rt d cs1 =>
    intro v H' I' m' s p sr' r
    change OutG T K (RD T K) I m (.ok d (if d.lt cs.length = true ∧ trimOk cs cs1 then cs1.take cs.length else cs1)) Q E at h
    by_cases ok : d.lt cs.length = true ∧ trimOk cs cs1
    · rw [if_pos ok] at h
      obtain ⟨sr2, em⟩ := SR.trim sr sr' p ok.2
      have r2 := Rp.cut (n := cs.length) ok.1 r
      rw [em] at r2
      exact h v H' I' m s (List.prefix_refl _) sr2 r2
    · rw [if_neg ok] at h
      exact h v H' I' m' s p sr' r
  | bk => exact h.elim
  | ct => exact h.elim
  | ex c ks fs env cs1 =>
    intro cls od σ' H' I' m' s p sr' er r
    change OutG T K (RD T K) I m (.exn c ks fs (if D.ltL cs.length fs = true ∧ trimOk cs cs1 then cs1.take cs.length else cs1)) Q E at h
    by_cases ok : D.ltL cs.length fs = true ∧ trimOk cs cs1
    · rw [if_pos ok] at h
      obtain ⟨sr2, em⟩ := SR.trim sr sr' p ok.2
      refine h cls od H' I' m s (List.prefix_refl _) sr2 ?_
      refine ⟨r.1, ?_⟩
      rcases r.2 with z | ⟨d, gs, r1, r2, r3, r4⟩
      · exact .inl z
      · have r5 := RpL.cut (n := cs.length) ok.1 r4
        rw [em] at r5
        exact .inr ⟨d, gs, r1, r2, r3, r5⟩
    · rw [if_neg ok] at h
      exact h cls od H' I' m' s p sr' r
  | no => exact h.elim
theorem df_mk {x qual : PySem.Str} {params : Arguments} {body : List Stmt} {scope : Scope} {f : Addr} {N ps : List PySem.Str} {n np k : Nat} {b : SDen} (F : ∃ fd, FunD K x qual params body scope [] [] f fd) (S : FnScope N ps scope) (hn : N.length = n := by rfl) (hp : ps.length = np := by rfl)
    (hb : ∀ (kV doc pm : Value) (an : Option Addr) (cdv ct : Value) (us : List Value), us.length = ps.length → bindArgs (PySem.W.fnOf x qual params body scope .none kV doc pm an cdv ct) ⟨us, []⟩ = pure (ps.zip us))
    (hbody : ∀ (cdv : Value) (A : Around) (outer : List PySem.Env) (s : Shared) (H : Hp) (E : XK), Room k (A.deeper (PyProof.Rows.envOfC qual scope s.heap.objs.size f cdv)) →
      DSs (cxOf (L2.CX P w) P w K mg base N qual scope f cdv A outer s H E) T (fun cls d _ H => E cls d H) body b) : DF P w K mg base T (k + 1) f np (mkF n np b) := by
  subst hn hp
  obtain ⟨fd, F⟩ := F
  have hpl : ps.length ≤ N.length := by have := congrArg List.length S.pre; rw [List.length_take] at this; omega
  refine ⟨⟨fd, ps, rfl, F.ok S (fun vs H Q E h => h.1) (fun cdv A outer s H vs Q E hr h => ⟨_, hbody cdv A outer s H E hr, ?_⟩), F.bindsN hb⟩, F.kp, fun ds cs hn => if_neg hn⟩
  obtain ⟨hl, I, m, cs, ds, sr, r, h⟩ := h
  refine ⟨I, m, cs, env0 N.length ds, er_start r (by omega), sr, ?_⟩
  unfold mkF at h
  rw [if_pos (by rw [r.length]; exact hl)] at h
  exact sok_fin sr h
end
theorem DF.argn {P : Program} {w : World} {K : PySem.W.Frag} {mg : PySem.Str → Option Value} {base : Heap} {T : Tab} {k np : Nat} {f : Addr} {den : FDen} (c : DF P w K mg base T k f np den) {I : Hp} {m : List Addr} {ds : List D} {vs : List V} {cs : List Cell} {Q : VK} {E : XK}
    (r : RpL T K I m ds vs) (h : OutG T K (RD T K) I m (den ds cs) Q E) : vs.length = np := by
  by_cases hl : ds.length = np
  · rw [← r.length]; exact hl
  · rw [c.len ds cs hl] at h; exact h.elim
/-! ### calls -/
section
variable {X : Cx} {T : Tab} {W : WX} {k j np : Nat} {x m : PySem.Str} {f : Addr} {den : FDen} {e o : Expr} {es : List Expr} {g : Den (List D)} {fo : Den D} {p pos apos : Pos}
def dFn (den : FDen) (g : Den (List D)) : Den D := fun env cs => (g env cs).bind fun ds cs => den ds cs
theorem de_call (c : DF X.prog X.w X.K X.mg X.base T k f np den) (hm : X.mg x = some (.ref f)) (hr : Room j X.A) (tk : Takes X W) (ha : DA X T W (e :: es) g) (hk : k ≤ j := by decide) (hg : Gl X x := by rfl)
    (hdb : (x == ("__debug__" : PySem.Str)) = false := by decide) (he : starEach (e :: es) X.env = (false, eval e X.env) :: starEach es X.env := by rfl) (hpl : (backTo pos (starEach es X.env)).any (·.1) = false := by rfl) :
    DE X T W (.Call (.Name x p) (e :: es) [] pos) (dFn den g) := by
  obtain ⟨fd, ps, hl, F, hb⟩ := c.ex
  refine PE.imp (pe_callS (E := WE W) F (hr.mono hk) hg hm c.kp hb (passAt tk) ha hdb he hpl) ?_
  rintro σ H Q ⟨I, m, cs, env, er, sr, h⟩
  exact ⟨I, m, cs, env, er, sr, OutG.bindI h fun ds cs1 vs H1 I1 m1 s1 p1 sr1 r1 h1 => ⟨c.argn r1 h1, I1, m1, cs1, ds, sr1, r1, h1⟩⟩
end
end
end DL
end

section
set_option Elab.async false
set_option linter.all false
set_option maxRecDepth 100000
set_option maxHeartbeats 4000000
namespace L2
open PySem PySem.Spec PyProof.Rows
section
variable {X : Cx} {CX : CXT} {k : Nat} {f C : Addr} {fd : FuncData} {ps : List Str} {sp : Sp} {E : St → XK} {x m : Str} {p pos apos : Pos} {e o : Expr} {es : List Expr} {ta : TE} {t : TA}
theorem pe_callS0 (F : FnOk X.prog X.w X.K X.mg X.base CX k f fd ps sp) (hr : Room k X.A) (hg : Gl X x) (hm : X.mg x = some (.ref f)) (hk : PySem.W.keepIn X.K (.ref f) = true) (hb : Binds X.K fd ps []) (hx : ∀ σ, PassesAt CX X σ (E σ))
    (hdb : (x == ("__debug__" : Str)) = false := by decide) : PE X (.Call (.Name x p) [] [] pos) (tCallS sp E tNil) := by
  refine ⟨fun pins s σ H Q I h => ?_⟩
  refine wpAny_Call_Name_kw (ld_glob I hg hm ?_ hdb)
  exact PySem.W.callWith_K0 I.kIn hk (run_fnS (us := []) F hr hb (hx σ) I .nil h)
/-- o.m(..), the class found as it runs -/
def tMethQ (X : Cx) (CX : CXT) (k : Nat) (m : Str) (E : St → XK) (ta : TE) (t : TA) : TE := fun σ H Q => ta σ H fun x H1 => ∃ (a C dx : Addr) (fs : List (Str × V)) (f : Addr) (fd : FuncData) (ps : List Str) (sp : Sp), x = .ref a ∧ H1 a = some (.ins C dx fs) ∧ fs.lookup m = none ∧
  Cls X.K C ∧ Meth X.K C m f ∧ FnOk X.prog X.w X.K X.mg X.base CX k f fd ps sp ∧ Binds X.K fd ps [] ∧ t σ H1 fun vs H2 => sp (x :: vs) H2 Q (E σ)
theorem pe_methQ {pl : Sem Bool} (he : PE X o ta) (hr : Room k X.A) (hx : ∀ σ, PassesAt CX X σ (E σ)) (ha : PA X (e :: es) t)
    (hst : starEach (e :: es) X.env = (false, eval e X.env) :: starEach es X.env := by rfl) (hpl : (backTo pos (starEach es X.env)).any (·.1) = false := by rfl)
    (ht : eval (.Call (.Attribute o m apos) (e :: es) [] pos) X.env = (do
      let ov ← eval o X.env
      standAt apos.atName
      let (f, first) ← holding [ov] (getMethod ov m pl)
      callWith pos f first (backTo pos (starEach (e :: es) X.env)) (backToKw pos (keywordEach [] X.env))) := by rfl) :
    PE X (.Call (.Attribute o m apos) (e :: es) [] pos) (tMethQ X CX k m E ta t) := by
  refine ⟨fun pins s σ H Q I h => ?_⟩
  refine PySem.W.methodCall_KW (pl := pl) (thn (he.run pins s σ H _ I h) fun u s1 ⟨x, H1, I1, rx, a, C, dx, fs, f, fd, ps, sp, ex, ea, l, c, hm, F, hb, q⟩ => ?_) ht
  subst ex
  obtain rfl : u = Value.ref a := rx
  refine getmeth_ok I1 ea c hm l ?_
  refine PySem.W.callWith_K (first := [.ref a]) (h₀ := X.base) I.ok.mod.kin hm.kp (thn (ha.run pos pins s1 σ H1 _ I1 q) fun us s2 ⟨vs, H2, I2, r, q2⟩ => ⟨I2.kIn, ?_⟩) hst hpl
  exact run_fnS (us := .ref a :: us) (vs := .ref a :: vs) F hr hb (hx σ) I2 (.cons rfl r) q2
theorem pe_methQ0 {pl : Sem Bool} (he : PE X o ta) (hr : Room k X.A) (hx : ∀ σ, PassesAt CX X σ (E σ))
    (ht : eval (.Call (.Attribute o m apos) [] [] pos) X.env = (do
      let ov ← eval o X.env
      standAt apos.atName
      let (f, first) ← holding [ov] (getMethod ov m pl)
      callWith pos f first (backTo pos (starEach [] X.env)) (backToKw pos (keywordEach [] X.env))) := by rfl) :
    PE X (.Call (.Attribute o m apos) [] [] pos) (tMethQ X CX k m E ta tNil) := by
  refine ⟨fun pins s σ H Q I h => ?_⟩
  refine PySem.W.methodCall_KW (pl := pl) (thn (he.run pins s σ H _ I h) fun u s1 ⟨x, H1, I1, rx, a, C, dx, fs, f, fd, ps, sp, ex, ea, l, c, hm, F, hb, q⟩ => ?_) ht
  subst ex
  obtain rfl : u = Value.ref a := rx
  refine getmeth_ok I1 ea c hm l ?_
  exact PySem.W.callWith_K0 (first := [.ref a]) I1.kIn hm.kp (run_fnS (us := [.ref a]) (vs := [.ref a]) F hr hb (hx σ) I1 (.cons rfl .nil) q)
/-- C(..) -/
theorem run_makeS {pins : List (Addr × Obj)} {σ : St} {H : Hp} {s : Shared} {Q : VK} {us : List Value} {vs : List V} {E : XK} (M : Mk X.K C f) (F : FnOk X.prog X.w X.K X.mg X.base CX k f fd ps sp) (hr : Room (k + 1) X.A) (hb : Binds X.K fd ps [])
    (hx : PassesAt CX X σ E) (I : Inv X pins σ H s) (r : Vals vs us)
    (h : ∀ x dx, H x = none → H dx = none → dx ≠ x → sp (.ref x :: vs) (upd (upd H dx (.own x)) x (.ins C dx [])) (fun v H2 => v = .non ∧ Q (.ref x) H2) E) :
    wpAny (model X.prog X.w) X.A (call (.ref C) us) (EP X pins σ Q) X.xe s := by
  have hq := h (s.heap.objs.size + 1) s.heap.objs.size (I.hok.fresh (Nat.le_succ _)) (I.hok.fresh (Nat.le_refl _)) (Nat.ne_of_lt (Nat.lt_succ_self _))
  have I2 := Inv.made (C := C) I
  have r2 : Vals (V.ref (s.heap.objs.size + 1) :: vs) (Value.ref (s.heap.objs.size + 1) :: us) := .cons rfl r
  have hl : (Value.ref (s.heap.objs.size + 1) :: us).length = ps.length := by
    have e := r2.length
    rw [F.len _ _ _ _ hq] at e
    exact e.symm
  have hb2 := hb _ (Value.ref (s.heap.objs.size + 1) :: us) I2.kIn (by rw [List.append_nil]; exact hl)
  rw [List.append_nil] at hb2
  refine wpAny_call (make_map (f := f) I.kIn M.makes M.init (beq_iff_eq.mp M.fn) (codeAny_mono (F.run _ X.stack _ _ ⟨Value.ref (s.heap.objs.size + 1) :: us, []⟩ (Value.ref (s.heap.objs.size + 1) :: us) _ _ E (hr.make C us [])
    (I2.env0.make C us []) hb2 r2 hq) fun r s' hq' => ?_))
  cases r with
  | error e => exact hx pins _ _ e s' I2 hq'
  | ok fl =>
    cases fl with
    | ret u =>
      obtain ⟨v, H', I3, rv, ev, q3⟩ := I2.after hq'
      subst ev
      exact ⟨rv, ⟨V.ref (s.heap.objs.size + 1), H', I3, rfl, q3⟩⟩
    | next => exact False.elim hq'
    | brk => exact False.elim hq'
    | cont => exact False.elim hq'
def tMakeS (C : Addr) (sp : Sp) (E : St → XK) (t : TA) : TE := fun σ H Q => t σ H fun vs H1 => ∀ x dx, H1 x = none → H1 dx = none → dx ≠ x →
  sp (.ref x :: vs) (upd (upd H1 dx (.own x)) x (.ins C dx [])) (fun v H2 => v = .non ∧ Q (.ref x) H2) (E σ)
theorem pe_makeS (M : Mk X.K C f) (F : FnOk X.prog X.w X.K X.mg X.base CX k f fd ps sp) (hr : Room (k + 1) X.A) (hg : Gl X x) (hm : X.mg x = some (.ref C)) (hb : Binds X.K fd ps []) (hx : ∀ σ, PassesAt CX X σ (E σ))
    (ha : PA X (e :: es) t) (hdb : (x == ("__debug__" : Str)) = false := by decide) (he : starEach (e :: es) X.env = (false, eval e X.env) :: starEach es X.env := by rfl) (hpl : (backTo pos (starEach es X.env)).any (·.1) = false := by rfl) :
    PE X (.Call (.Name x p) (e :: es) [] pos) (tMakeS C sp E t) := by
  refine ⟨fun pins s σ H Q I h => ?_⟩
  refine wpAny_Call_Name_kw (ld_glob I hg hm ?_ hdb)
  refine PySem.W.callWith_K (h₀ := X.base) I.ok.mod.kin M.kp (thn (ha.run pos pins s σ H _ I h) fun us s1 ⟨vs, H1, I1, r, q⟩ => ⟨I1.kIn, ?_⟩) he hpl
  exact run_makeS M F hr hb (hx σ) I1 r q
/-- C(), a class that has no __init__ but object's -/
structure Mk0 (K : PySem.W.Frag) (C : Addr) : Prop where
  makes : PySem.W.makesIn K C = true
  init : PySem.W.findIn K (.ref C) "__init__" = some (some (.builtin "object.__init__"))
  kp : PySem.W.keepIn K (.ref C) = true
def tMake0 (C : Addr) : TE := fun σ H Q => ∀ x dx, H x = none → H dx = none → dx ≠ x → Q (.ref x) (upd (upd H dx (.own x)) x (.ins C dx []))
theorem run_make0 {pins : List (Addr × Obj)} {σ : St} {H : Hp} {s : Shared} {Q : VK} (M : Mk0 X.K C) (I : Inv X pins σ H s) (h : tMake0 C σ H Q) : wpAny (model X.prog X.w) X.A (call (.ref C) []) (EP X pins σ Q) X.xe s := by
  have hq := h (s.heap.objs.size + 1) s.heap.objs.size (I.hok.fresh (Nat.le_succ _)) (I.hok.fresh (Nat.le_refl _)) (Nat.ne_of_lt (Nat.lt_succ_self _))
  have I2 := Inv.made (C := C) I
  have Y := PySem.W.makes_of (M := model X.prog X.w) I.kIn M.makes
  have e2 : ((s.heap.push PySem.W.emptyDict).push (PySem.W.instObj C s.heap.objs.size)).get? (s.heap.objs.size + 1) = some (PySem.W.instObj C s.heap.objs.size) := by
    have := Heap.get?_push_size (s.heap.push PySem.W.emptyDict) (o := PySem.W.instObj C s.heap.objs.size) rfl
    rwa [Heap.size_push] at this
  have t1 : PySem.W.Looks (model X.prog X.w) ((s.heap.push PySem.W.emptyDict).push (PySem.W.instObj C s.heap.objs.size)) (typeOf (.ref (s.heap.objs.size + 1))) (.ref C) := (PySem.W.Looks.ld e2).andThen .now
  have t2 : PySem.W.Looks (model X.prog X.w) ((s.heap.push PySem.W.emptyDict).push (PySem.W.instObj C s.heap.objs.size)) (isInstance (.ref (s.heap.objs.size + 1)) (.type "object")) true :=
    t1.andThen (Y.top.keeps fun b o e => Heap.get?_push_of_some _ (Heap.get?_push_of_some _ e))
  refine wpAny_call (make_map0 I.kIn M.makes M.init (fun self => PySem.W.Looks.of_pure (PySem.W.oi_bind self)) ?_)
  refine codeAny_call_builtin PySem.W.oi_plain PySem.W.entry_oi (@PySem.W.check_slot (model X.prog X.w) _ _ _ "object.__init__" "object" "__init__" (.ref (s.heap.objs.size + 1)) [] [] _ PySem.W.oi_kind PySem.W.oi_split t2 (PySem.W.oi_args (.ref (s.heap.objs.size + 1))) ?_)
  rw [PySem.W.oi_run]
  exact wpAny_pure (And.intro rfl ⟨.ref (s.heap.objs.size + 1), _, I2, rfl, hq⟩)
theorem pe_make00 (M : Mk0 X.K C) (hg : Gl X x) (hm : X.mg x = some (.ref C)) (hdb : (x == ("__debug__" : Str)) = false := by decide) : PE X (.Call (.Name x p) [] [] pos) (tMake0 C) := by
  refine ⟨fun pins s σ H Q I h => ?_⟩
  refine wpAny_Call_Name_kw (ld_glob I hg hm ?_ hdb)
  exact PySem.W.callWith_K0 I.kIn M.kp (run_make0 M I h)
end
end L2
namespace DL
open PySem L2
open Classical
noncomputable section
section
variable {X : Cx} {T : Tab} {W : WX} {k j np c : Nat} {x m : PySem.Str} {f : Addr} {den : FDen} {e o : Expr} {es : List Expr} {g : Den (List D)} {fo : Den D} {p pos apos : Pos}
theorem de_call0 (c : DF X.prog X.w X.K X.mg X.base T k f np den) (hm : X.mg x = some (.ref f)) (hr : Room j X.A) (tk : Takes X W) (hk : k ≤ j := by decide) (hg : Gl X x := by rfl)
    (hdb : (x == ("__debug__" : PySem.Str)) = false := by decide) : DE X T W (.Call (.Name x p) [] [] pos) (fun _ cs => den [] cs) := by
  obtain ⟨fd, ps, hl, F, hb⟩ := c.ex
  refine PE.imp (pe_callS0 (E := WE W) F (hr.mono hk) hg hm c.kp hb (passAt tk) hdb) ?_
  rintro σ H Q ⟨I, m, cs, env, er, sr, h⟩
  exact ⟨c.argn RpL.nil h, I, m, cs, [], sr, RpL.nil, h⟩
/-! ### methods -/
/-- the class of an object, and no attribute hides the method -/
def clsOf (od : Nat → List Nat) (cs : List Cell) (x : D) : Option Nat := match x with
  | .obj c _ => some c
  | .cell n => match cs[n]? with
    | some (.ins c ks _) => if ks.all (fun k => decide (k ∈ od c)) = true then some c else none
    | _ => none
  | _ => none
theorem lookup_none {T : Tab} {ks : List Nat} {gs : List (PySem.Str × V)} {m : PySem.Str} (e : gs.map (·.1) = ks.map T.nm) (h : ∀ i ∈ ks, T.nm i ≠ m) : gs.lookup m = none := by
  induction gs generalizing ks with
  | nil => rfl
  | cons g gs ih =>
    cases ks with
    | nil => simp at e
    | cons k ks =>
      simp only [List.map_cons, List.cons.injEq] at e
      obtain ⟨e1, e2⟩ := e
      rw [List.lookup_cons]
      have hne : (m == g.1) = false := by
        have h0 := h k List.mem_cons_self
        rw [← e1] at h0
        simpa using fun z => h0 (by first | exact z.symm | exact z)
      rw [hne]
      exact ih e2 fun i hi => h i (List.mem_cons_of_mem _ hi)
theorem clsOf_ok {K : PySem.W.Frag} {I H : Hp} {mm : List Addr} {cs : List Cell} {x : D} {v : V} {m : PySem.Str} (sr : SR T K I mm cs H) (r : Rp T K I mm x v) (h : clsOf T.od cs x = some c) (hm : ∀ i ∈ T.od c, T.nm i ≠ m) :
    ∃ (a dx : Addr) (fs : List (PySem.Str × V)), v = .ref a ∧ H a = some (.ins (T.ca c) dx fs) ∧ fs.lookup m = none := by
  unfold clsOf at h
  split at h
  · cases h
    unfold Rp at r
    obtain ⟨a, dx, gs, rfl, q, k, r⟩ := r
    exact ⟨a, dx, gs, rfl, sr.same _ _ q, lookup_none k hm⟩
  · rename_i n
    split at h
    · rename_i c' ks ds hc
      split at h
      · rename_i hk
        cases h
        obtain ⟨a, e1, rfl⟩ := rp_cell.mp r
        obtain ⟨a', ob, q1, q2, q3, q4⟩ := sr.at_ n _ hc (by intro z; cases z)
        rw [e1] at q1; cases q1
        cases ob with
        | ins C dx gs =>
          obtain ⟨rfl, q5, q6⟩ := q4
          exact ⟨a, dx, gs, rfl, q3, lookup_none q5 fun i hi => hm i (by simpa using List.all_eq_true.mp hk i hi)⟩
        | _ => exact q4.elim
      · cases h
    · cases h
  · cases h
/-- which def the method is, by class -/
abbrev Disp := Nat → Option FDen
structure DM (X : Cx) (T : Tab) (k : Nat) (m : PySem.Str) (np : Nat) (disp : Disp) : Prop where
  at_ : ∀ c den, disp c = some den → (∀ i ∈ T.od c, T.nm i ≠ m) ∧ Cls X.K (T.ca c) ∧ ∃ f, Meth X.K (T.ca c) m f ∧ DF X.prog X.w X.K X.mg X.base T k f np den
def dMth (od : Nat → List Nat) (disp : Disp) (fo : Den D) (g : Den (List D)) : Den D := fun env cs => (fo env cs).bind fun x cs => match clsOf od cs x with
  | some c => (match disp c with
    | some den => (g env cs).bind fun ds cs => den (x :: ds) cs
    | none => .no)
  | none => .no
theorem tMethQ_of {od : Nat → List Nat} (hod : T.od = od) {disp : Disp} (M : DM X T k m np disp) {ta : TE} {t : TA} (e1 : ta = tG T X.K W (RD T X.K) fo) (e2 : t = tG T X.K W (RL T X.K) g) :
    ∀ σ H Q, tG T X.K W (RD T X.K) (dMth od disp fo g) σ H Q → tMethQ X (L2.CX X.prog X.w) k m (WE W) ta t σ H Q := by
  subst e1 e2 hod
  rintro σ H Q ⟨I, mm, cs, env, er, sr, h⟩
  refine ⟨I, mm, cs, env, er, sr, OutG.bindI h fun x cs1 v H1 I1 m1 s1 p1 sr1 r1 h1 => ?_⟩
  split at h1
  · rename_i c hc
    split at h1
    · rename_i den hd
      obtain ⟨hn, C, f, Me, F⟩ := M.at_ c den hd
      obtain ⟨a, dx, fs, rfl, ea, hl⟩ := clsOf_ok sr1 r1 hc hn
      obtain ⟨fd, ps, hl2, Fn, hb⟩ := F.ex
      refine ⟨a, T.ca c, dx, fs, f, fd, ps, _, rfl, ea, hl, C, Me, Fn, hb, I1, m1, cs1, env, er.mono s1 p1, sr1, OutG.bindI h1 fun ds cs2 vs H2 I2 m2 s2 p2 sr2 r2 h2 => ?_⟩
      have r3 := RpL.cons (r1.mono s2 p2) r2
      exact ⟨F.argn r3 h2, I2, m2, cs2, x :: ds, sr2, r3, h2⟩
    · exact h1.elim
  · exact h1.elim
theorem de_meth {od : Nat → List Nat} (hod : T.od = od) {disp : Disp} {pl : Sem Bool} (M : DM X T k m np disp) (hr : Room j X.A) (tk : Takes X W) (ho : DE X T W o fo) (ha : DA X T W (e :: es) g) (hk : k ≤ j := by decide)
    (hst : starEach (e :: es) X.env = (false, eval e X.env) :: starEach es X.env := by rfl) (hpl : (backTo pos (starEach es X.env)).any (·.1) = false := by rfl)
    (ht : eval (.Call (.Attribute o m apos) (e :: es) [] pos) X.env = (do
      let ov ← eval o X.env
      standAt apos.atName
      let (f, first) ← holding [ov] (getMethod ov m pl)
      callWith pos f first (backTo pos (starEach (e :: es) X.env)) (backToKw pos (keywordEach [] X.env))) := by rfl) :
    DE X T W (.Call (.Attribute o m apos) (e :: es) [] pos) (dMth od disp fo g) :=
  PE.imp (pe_methQ (pl := pl) (CX := L2.CX X.prog X.w) ho (hr.mono hk) (passAt tk) ha hst hpl ht) (tMethQ_of hod M rfl rfl)
theorem de_meth0 {od : Nat → List Nat} (hod : T.od = od) {disp : Disp} {pl : Sem Bool} (M : DM X T k m np disp) (hr : Room j X.A) (tk : Takes X W) (ho : DE X T W o fo) (hk : k ≤ j := by decide)
    (ht : eval (.Call (.Attribute o m apos) [] [] pos) X.env = (do
      let ov ← eval o X.env
      standAt apos.atName
      let (f, first) ← holding [ov] (getMethod ov m pl)
      callWith pos f first (backTo pos (starEach [] X.env)) (backToKw pos (keywordEach [] X.env))) := by rfl) :
    DE X T W (.Call (.Attribute o m apos) [] [] pos) (dMth od disp fo dNil) := by
  refine PE.imp (pe_methQ0 (pl := pl) (CX := L2.CX X.prog X.w) ho (hr.mono hk) (passAt tk) ht) ?_
  intro σ H Q h
  have h2 := tMethQ_of (W := W) (fo := fo) (g := dNil) hod M rfl rfl σ H Q h
  obtain ⟨I, mm, cs, env, er, sr, h2⟩ := h2
  refine ⟨I, mm, cs, env, er, sr, ?_⟩
  revert h2
  cases fo env cs with
  | no => exact id
  | exn => exact id
  | ok d cs =>
    intro h2 v H' I' m' s p sr' r'
    obtain ⟨a, C, dx, fs, f, fd, ps, sp, q1, q2, q3, q4, q5, q6, q7, I2, m2, cs2, env2, er2, sr2, h3⟩ := h2 v H' I' m' s p sr' r'
    exact ⟨a, C, dx, fs, f, fd, ps, sp, q1, q2, q3, q4, q5, q6, q7, h3 [] H' I2 m2 (Same.refl _) (List.prefix_refl _) sr2 RpL.nil⟩

/-! ### instances made -/
/-- C(..), frozen behind its __init__ -/
def mkO (od : Nat → List Nat) (c : Nat) (den : FDen) : FDen := fun ds cs => match den (.cell cs.length :: ds) (cs ++ [.ins c [] []]) with
  | .ok .non cs' => (match cs'[cs.length]? with
    | some (.ins c' ks fs) => if c' = c ∧ ks = od c then .ok (.obj c fs) (trim cs (cs'.set cs.length .gone) (D.ltL cs.length fs)) else .no
    | _ => .no)
  | .exn c ks fs cs' => .exn c ks fs (trim cs cs' (D.ltL cs.length fs))
  | _ => .no
/-- C(..), a cell -/
def mkC (c : Nat) (den : FDen) : FDen := fun ds cs => match den (.cell cs.length :: ds) (cs ++ [.ins c [] []]) with
  | .ok .non cs' => .ok (.cell cs.length) cs'
  | .exn c ks fs cs' => .exn c ks fs (trim cs cs' (D.ltL cs.length fs))
  | _ => .no
theorem ExR.cut {K : PySem.W.Frag} {I : Hp} {m : List Addr} {c : Nat} {ks : List Nat} {fs : List D} {cls : Value} {od : Option Addr} {n : Nat} (l : D.ltL n fs = true) (r : ExR T K I m c ks fs cls od) : ExR T K I (m.take n) c ks fs cls od := by
  refine ⟨r.1, ?_⟩
  rcases r.2 with z | ⟨d, gs, r1, r2, r3, r4⟩
  · exact .inl z
  · exact .inr ⟨d, gs, r1, r2, r3, RpL.cut l r4⟩
/-- an exception's end with cells let go -/
theorem exn_trim {α β : Type} {K : PySem.W.Frag} {R : Hp → List Addr → α → β → Prop} {I0 I H0 H : Hp} {m0 m : List Addr} {cs0 cs : List Cell} {c : Nat} {ks : List Nat} {fs : List D} {cls : Value} {od : Option Addr} {Q : β → Hp → Prop} {E : XK}
    (sr0 : SR T K I0 m0 cs0 H0) (h : OutG T K R I0 m0 (.exn c ks fs (trim cs0 cs (D.ltL cs0.length fs)) : Out α) Q E) (s : Same I0 I) (p : m0 <+: m) (sr : SR T K I m cs H) (r : ExR T K I m c ks fs cls od) : E cls od H := by
  unfold trim at h
  by_cases ok : D.ltL cs0.length fs = true ∧ trimOk cs0 cs
  · rw [if_pos ok] at h
    obtain ⟨sr2, em⟩ := SR.trim sr0 sr p ok.2
    have r2 := ExR.cut (n := cs0.length) ok.1 r
    rw [em] at r2
    exact h cls od H I m0 s (List.prefix_refl _) sr2 r2
  · rw [if_neg ok] at h
    exact h cls od H I m s p sr r
theorem ok_trim {β : Type} {K : PySem.W.Frag} {I0 I H0 H : Hp} {m0 m : List Addr} {cs0 cs : List Cell} {d : D} {v : V} {Q : V → Hp → Prop} {E : XK} {b : Bool}
    (sr0 : SR T K I0 m0 cs0 H0) (h : OutG T K (RD T K) I0 m0 (.ok d (trim cs0 cs b)) Q E) (hb : b = true → d.lt cs0.length = true) (s : Same I0 I) (p : m0 <+: m) (sr : SR T K I m cs H) (r : Rp T K I m d v) : Q v H := by
  unfold trim at h
  by_cases ok : b = true ∧ trimOk cs0 cs
  · rw [if_pos ok] at h
    obtain ⟨sr2, em⟩ := SR.trim sr0 sr p ok.2
    have r2 := Rp.cut (n := cs0.length) (hb ok.1) r
    rw [em] at r2
    exact h v H I m0 s (List.prefix_refl _) sr2 r2
  · rw [if_neg ok] at h
    exact h v H I m s p sr r
structure DK (X : Cx) (T : Tab) (k c np : Nat) (den : FDen) : Prop where
  ini : ∃ f, Mk X.K (T.ca c) f ∧ DF X.prog X.w X.K X.mg X.base T k f (np + 1) den
theorem mk_start {K : PySem.W.Frag} {I H : Hp} {m : List Addr} {cs : List Cell} {x dx : Addr} (sr : SR T K I m cs H) (hx : H x = none) (hd : H dx = none) (hne : dx ≠ x) :
    SR T K (upd I dx (.own x)) (m ++ [x]) (cs ++ [.ins c [] []]) (upd (upd H dx (.own x)) x (.ins (T.ca c) dx [])) ∧ Same I (upd I dx (.own x)) ∧ Rp T K (upd I dx (.own x)) (m ++ [x]) (.cell cs.length) (.ref x) := by
  obtain ⟨sr1, s1⟩ := sr.newI (o := .own x) hd
  have sr2 := sr1.newC (o := .ins (T.ca c) dx []) (c := .ins c [] []) (p := x) (by rw [upd_ne (Ne.symm hne)]; exact hx) ⟨rfl, rfl, RpL.nil⟩
  exact ⟨sr2, s1, rp_cell.mpr ⟨x, by rw [← sr.len]; simp, rfl⟩⟩
theorem tMakeS_of {den den' : FDen} {C : Addr} {np' : Nat} (hC : C = T.ca c) (hl : ∀ ds cs, ds.length ≠ np' → den ds cs = .no)
    (key : ∀ (I H : Hp) (mm : List Addr) (cs : List Cell) (ds : List D) (vs : List V) (Q : VK) (E : XK), SR T X.K I mm cs H → RpL T X.K I mm ds vs → OutG T X.K (RD T X.K) I mm (den' ds cs) Q E →
      ∀ x dx, H x = none → H dx = none → dx ≠ x → OutG T X.K (RD T X.K) (upd I dx (.own x)) (mm ++ [x]) (den (.cell cs.length :: ds) (cs ++ [.ins c [] []])) (fun v H2 => v = .non ∧ Q (.ref x) H2) E)
    {t : TA} (e2 : t = tG T X.K W (RL T X.K) g) : ∀ σ H Q, tG T X.K W (RD T X.K) (dFn den' g) σ H Q → tMakeS C (spD T X.K np' den) (WE W) t σ H Q := by
  subst e2 hC
  rintro σ H Q ⟨I, mm, cs, env, er, sr, h⟩
  refine ⟨I, mm, cs, env, er, sr, OutG.bindI h fun ds cs1 vs H1 I1 m1 s1 p1 sr1 r1 h1 => ?_⟩
  intro x dx hx hd hne
  have h2 := key I1 H1 m1 cs1 ds vs Q _ sr1 r1 h1 x dx hx hd hne
  obtain ⟨sr2, s2, rx⟩ := mk_start (c := c) sr1 hx hd hne
  have r3 := RpL.cons rx (RpL.mono s2 (List.prefix_append _ _) r1)
  refine ⟨?_, _, _, _, _, sr2, r3, h2⟩
  by_cases hz : (D.cell cs1.length :: ds).length = np'
  · rw [← r3.length]; exact hz
  · rw [hl _ _ hz] at h2; exact h2.elim
theorem mkO_key {od : Nat → List Nat} (hod : T.od = od) {den : FDen} : ∀ (I H : Hp) (mm : List Addr) (cs : List Cell) (ds : List D) (vs : List V) (Q : VK) (E : XK), SR T X.K I mm cs H → RpL T X.K I mm ds vs → OutG T X.K (RD T X.K) I mm (mkO od c den ds cs) Q E →
      ∀ x dx, H x = none → H dx = none → dx ≠ x → OutG T X.K (RD T X.K) (upd I dx (.own x)) (mm ++ [x]) (den (.cell cs.length :: ds) (cs ++ [.ins c [] []])) (fun v H2 => v = .non ∧ Q (.ref x) H2) E := by
  subst hod
  intro I H mm cs ds vs Q E sr r h x dx hx hd hne
  obtain ⟨sr2, s2, rx⟩ := mk_start (c := c) sr hx hd hne
  unfold mkO at h
  cases hden : den (.cell cs.length :: ds) (cs ++ [.ins c [] []]) with
  | no => rw [hden] at h; exact h.elim
  | exn c' ks fs cs' =>
    rw [hden] at h
    exact fun cls od' H' I' m' s p sr' r' => exn_trim (α := D) sr h (s2.trans s) ((List.prefix_append _ _).trans p) sr' r'
  | ok d cs' =>
    rw [hden] at h
    intro v H' I' m' s p sr' r'
    cases d with
    | non =>
      refine ⟨rp_non.mp r', ?_⟩
      simp only at h
      split at h
      · rename_i c' ks fs hc
        split at h
        · rename_i hcc
          obtain ⟨rfl, rfl⟩ := hcc
          have rx' := Rp.mono s p rx
          obtain ⟨a, e1, e2⟩ := rp_cell.mp rx'
          cases e2
          obtain ⟨a', ob, q1, q2, q3, q4⟩ := sr'.at_ _ _ hc (by intro z; cases z)
          rw [e1] at q1; cases q1
          cases ob with
          | ins C dx' gs =>
            obtain ⟨rfl, q5, q6⟩ := q4
            obtain ⟨sr3, s3⟩ := sr'.frz hc (by intro z; cases z) e1 q3
            refine ok_trim (β := V) sr h (fun z => by unfold D.lt; exact z) ((s2.trans s).trans s3) ((List.prefix_append _ _).trans p) sr3 ?_
            unfold Rp
            exact ⟨x, dx', gs, rfl, upd_same, q5, RpL.mono s3 (List.prefix_refl _) q6⟩
          | _ => exact q4.elim
        · exact h.elim
      · exact h.elim
    | _ => exact h.elim
theorem mkC_key {den : FDen} : ∀ (I H : Hp) (mm : List Addr) (cs : List Cell) (ds : List D) (vs : List V) (Q : VK) (E : XK), SR T X.K I mm cs H → RpL T X.K I mm ds vs → OutG T X.K (RD T X.K) I mm (mkC c den ds cs) Q E →
      ∀ x dx, H x = none → H dx = none → dx ≠ x → OutG T X.K (RD T X.K) (upd I dx (.own x)) (mm ++ [x]) (den (.cell cs.length :: ds) (cs ++ [.ins c [] []])) (fun v H2 => v = .non ∧ Q (.ref x) H2) E := by
  intro I H mm cs ds vs Q E sr r h x dx hx hd hne
  obtain ⟨sr2, s2, rx⟩ := mk_start (c := c) sr hx hd hne
  unfold mkC at h
  cases hden : den (.cell cs.length :: ds) (cs ++ [.ins c [] []]) with
  | no => rw [hden] at h; exact h.elim
  | exn c' ks fs cs' =>
    rw [hden] at h
    exact fun cls od' H' I' m' s p sr' r' => exn_trim (α := D) sr h (s2.trans s) ((List.prefix_append _ _).trans p) sr' r'
  | ok d cs' =>
    rw [hden] at h
    intro v H' I' m' s p sr' r'
    cases d with
    | non => exact ⟨rp_non.mp r', h (.ref x) H' I' m' (s2.trans s) ((List.prefix_append _ _).trans p) sr' (Rp.mono s p rx)⟩
    | _ => exact h.elim
theorem de_mkO {od : Nat → List Nat} (hod : T.od = od) (M : DK X T k c np den) (hm : X.mg x = some (.ref (T.ca c))) (hr : Room j X.A) (tk : Takes X W) (ha : DA X T W (e :: es) g) (hk : k + 1 ≤ j := by decide) (hg : Gl X x := by rfl)
    (hdb : (x == ("__debug__" : PySem.Str)) = false := by decide) (he : starEach (e :: es) X.env = (false, eval e X.env) :: starEach es X.env := by rfl) (hpl : (backTo pos (starEach es X.env)).any (·.1) = false := by rfl) :
    DE X T W (.Call (.Name x p) (e :: es) [] pos) (dFn (mkO od c den) g) := by
  obtain ⟨f, M, F⟩ := M.ini
  obtain ⟨fd, ps, hl, Fn, hb⟩ := F.ex
  exact PE.imp (pe_makeS (E := WE W) M Fn (hr.mono hk) hg hm hb (passAt tk) ha hdb he hpl) (tMakeS_of rfl F.len (mkO_key hod) rfl)
theorem de_mkC (M : DK X T k c np den) (hm : X.mg x = some (.ref (T.ca c))) (hr : Room j X.A) (tk : Takes X W) (ha : DA X T W (e :: es) g) (hk : k + 1 ≤ j := by decide) (hg : Gl X x := by rfl)
    (hdb : (x == ("__debug__" : PySem.Str)) = false := by decide) (he : starEach (e :: es) X.env = (false, eval e X.env) :: starEach es X.env := by rfl) (hpl : (backTo pos (starEach es X.env)).any (·.1) = false := by rfl) :
    DE X T W (.Call (.Name x p) (e :: es) [] pos) (dFn (mkC c den) g) := by
  obtain ⟨f, M, F⟩ := M.ini
  obtain ⟨fd, ps, hl, Fn, hb⟩ := F.ex
  exact PE.imp (pe_makeS (E := WE W) M Fn (hr.mono hk) hg hm hb (passAt tk) ha hdb he hpl) (tMakeS_of rfl F.len mkC_key rfl)
/-- C() of a class without attributes -/
theorem de_mk0 (M : Mk0 X.K (T.ca c)) (hod : T.od c = []) (hm : X.mg x = some (.ref (T.ca c))) (hg : Gl X x := by rfl) (hdb : (x == ("__debug__" : PySem.Str)) = false := by decide) :
    DE X T W (.Call (.Name x p) [] [] pos) (fun _ cs => .ok (.obj c []) cs) := by
  refine PE.imp (pe_make00 M hg hm hdb) ?_
  rintro σ H Q ⟨I, m, cs, env, er, sr, h⟩
  intro x dx hx hd hne
  obtain ⟨sr1, s1⟩ := sr.newI (o := .own x) hd
  obtain ⟨sr2, s2⟩ := sr1.newI (o := .ins (T.ca c) dx []) (p := x) (by rw [upd_ne (Ne.symm hne)]; exact hx)
  refine h.ok1 (s1.trans s2) sr2 ?_
  unfold Rp
  exact ⟨x, dx, [], rfl, upd_same, by rw [hod]; rfl, RpL.nil⟩
end
end
end DL
end

section
set_option Elab.async false
set_option linter.all false
set_option maxRecDepth 100000
set_option maxHeartbeats 4000000
namespace DL
open PySem L2
open Classical
noncomputable section
/-! ### list comprehensions -/
abbrev W0 : WX := fun _ _ _ _ => False
theorem takes_no {X : Cx} : Takes X W0 := fun _ _ ⟨_, _, _, _, _, _, _, _, _, _, _, _, _, _, _, _, w⟩ => w.elim
/-- stores that touch the slots vs alone -/
def tGk (T : Tab) (K : PySem.W.Frag) (vs : List Nat) (g : GDen) : TG := fun v σ H Q => ∃ I m cs env d, ER T K I m env σ ∧ SR T K I m cs H ∧ Rp T K I m d v ∧ (match g d env cs with
  | .nx env' cs' => ∀ σ' H' I' m', Same I I' → m <+: m' → SR T K I' m' cs' H' → ER T K I' m' env' σ' → wipe σ' vs = wipe σ vs → Q σ' H'
  | _ => False)
def tGks (T : Tab) (K : PySem.W.Frag) (vs : List Nat) (g : List D → Env → List Cell → SO) : TGs := fun us σ H Q => ∃ I m cs env ds, ER T K I m env σ ∧ SR T K I m cs H ∧ RpL T K I m ds us ∧ (match g ds env cs with
  | .nx env' cs' => ∀ σ' H' I' m', Same I I' → m <+: m' → SR T K I' m' cs' H' → ER T K I' m' env' σ' → wipe σ' vs = wipe σ vs → Q σ' H'
  | _ => False)
def DGk (X : Cx) (T : Tab) (vs : List Nat) (tgt : Expr) (g : GDen) : Prop := PG X tgt (tGk T X.K vs g)
def DGks (X : Cx) (T : Tab) (vs : List Nat) (tgts : List Expr) (g : List D → Env → List Cell → SO) : Prop := PGs X tgts (tGks T X.K vs g)
theorem set_comm_none {σ : St} {i j : Nat} {a b : Option V} (h : i ≠ j) : (σ.set i a).set j b = (σ.set j b).set i a := List.set_comm _ _ h
theorem wipe_set {i : Nat} {a : Option V} {σ : St} : ∀ {vs : List Nat}, i ∈ vs → wipe (σ.set i a) vs = wipe σ vs
  | v :: vs, h => by
    unfold wipe
    by_cases hv : i ∈ vs
    · rw [wipe_set hv]
    · have e : v = i := by
        rcases List.mem_cons.mp h with q | q
        · exact q.symm
        · exact absurd q hv
      subst e
      have gen : ∀ {vs : List Nat}, v ∉ vs → wipe (σ.set v a) vs = (wipe σ vs).set v a := fun {vs} hn => by
        induction vs with
        | nil => rfl
        | cons w ws ih =>
          unfold wipe
          rw [ih (fun z => hn (List.mem_cons_of_mem _ z))]
          exact set_comm_none (fun z => hn (z ▸ List.mem_cons_self))
      rw [gen hv, List.set_set]
  | [], h => by cases h
section
variable {X : Cx} {T : Tab} {W : WX} {tg e iter elt c : Expr} {es : List Expr} {f h : Den D} {pos : Pos} {vs : List Nat}
theorem dgk_name {i : Nat} {x : PySem.Str} (hg : PG X (.Name x pos) (gName i)) (hi : i ∈ vs := by decide) : DGk X T vs (.Name x pos) (gNm i) := by
  refine PG.imp hg ?_
  rintro v σ H Q ⟨I, m, cs, env, d, er, sr, r, h⟩
  exact h _ H I m (Same.refl I) (List.prefix_refl _) sr (er.set r) (wipe_set hi)
theorem dgks_nil : DGks X T vs [] gsNil := by
  refine PGs.imp pgs_nil ?_
  rintro us σ H Q ⟨I, m, cs, env, ds, er, sr, r, h⟩
  cases ds with
  | nil => exact ⟨r.inil, h σ H I m (Same.refl I) (List.prefix_refl _) sr er rfl⟩
  | cons d ds => exact h.elim
theorem dgks_cons {g1 : GDen} {gs : List D → Env → List Cell → SO} (h1 : DGk X T vs e g1) (h2 : DGks X T vs es gs) (hs : (assignEach (e :: es) X.env).map (·.2) = assign e X.env :: (assignEach es X.env).map (·.2) := by rfl) : DGks X T vs (e :: es) (gsCons g1 gs) := by
  refine PGs.imp (pgs_cons h1 h2 hs) ?_
  rintro us σ H Q ⟨I, m, cs, env, ds, er, sr, r, h⟩
  cases ds with
  | nil => exact h.elim
  | cons d ds =>
    obtain ⟨v, r', rfl, q, k⟩ := r.inv
    unfold gsCons at h
    simp only at h
    cases hg : g1 d env cs with
    | nx env' cs' =>
      simp only [hg] at h
      refine ⟨v, r', rfl, I, m, cs, env, d, er, sr, q, ?_⟩
      rw [hg]
      intro σ' H' I' m' s1 p1 sr1 er1 w1
      refine ⟨I', m', cs', env', ds, er1, sr1, RpL.mono s1 p1 k, ?_⟩
      cases hg2 : gs ds env' cs' with
      | nx env2 cs2 =>
        simp only [hg2] at h ⊢
        exact fun σ2 H2 I2 m2 s2 p2 sr2 er2 w2 => h σ2 H2 I2 m2 (s1.trans s2) (p1.trans p2) sr2 er2 (w2.trans w1)
      | _ => simp only [hg2] at h
    | _ => simp only [hg] at h
theorem dgk_tup {k n : Nat} {gs : List D → Env → List Cell → SO} (hc : X.calm = true) (h : DGks X T vs es gs) (hn : (assignEach es X.env).length = n := by rfl) (hst : (assignEach es X.env).findIdx? (·.1) = none := by rfl) : DGk X T vs (.Tuple es k pos) (gTupD n gs) := by
  refine PG.imp (pg_tup hc h hn hst) ?_
  rintro v σ H Q ⟨I, m, cs, env, d, er, sr, r, h⟩
  cases d with
  | tup xs =>
    obtain ⟨a, us, rfl, q1, q2⟩ := rp_tup.mp r
    unfold gTupD at h
    simp only at h
    by_cases hl : xs.length = n
    · rw [if_pos hl] at h
      exact ⟨a, us, rfl, SqT.same sr.same q1, by rw [← q2.length]; exact hl, I, m, cs, env, xs, er, sr, q2, h⟩
    · rw [if_neg hl] at h; exact h.elim
  | _ => exact h.elim
def DTs (X : Cx) (T : Tab) (W : WX) (ifs : List Expr) (p : Den Bool) : Prop := PTs X ifs (tG T X.K W RB p)
theorem PTs.imp {ifs : List Expr} {t t' : TT} (h : PTs X ifs t) (i : ∀ σ H Q, t' σ H Q → t σ H Q) : PTs X ifs t' := ⟨fun pins s σ H Q I q => h.run pins s σ H Q I (i σ H Q q)⟩
def pYes : Den Bool := fun _ cs => .ok true cs
theorem dts_nil : DTs X T W [] pYes := by
  refine PTs.imp pts_nil ?_
  rintro σ H Q ⟨I, m, cs, env, er, sr, h⟩
  exact h.okI sr rfl
theorem dts_one {p : Den Bool} (hc : DT X T W c p) : DTs X T W [c] p := pts_one hc
/-- the slots of the block's own names forgotten -/
def wipeE (env : Env) : List Nat → Env
  | [] => env
  | v :: vs => (wipeE env vs).set v none
theorem ER.wipe {K : PySem.W.Frag} {I : Hp} {m : List Addr} {env : Env} {σ : St} (er : ER T K I m env σ) : ∀ {vs : List Nat}, ER T K I m (wipeE env vs) (L2.wipe σ vs)
  | [] => er
  | v :: vs => by unfold wipeE L2.wipe; exact (ER.wipe er).setN
def lcL (chk : List Cell → Prop) (g : GDen) (p : Den Bool) (h : Den D) (n : Nat) (env : Env) : List D → List Cell → Out Unit
  | [] => fun cs => if chk cs then .ok () cs else .no
  | x :: r => fun cs => if chk cs then (match g x env cs with
      | .nx env' cs => (match p env' cs with
        | .ok b cs => if b = true then (match h env' cs with
            | .ok d cs' => (match (trim cs cs' (d.lt cs.length))[n]? with
              | some (.lst acc) => if fitsL acc.length then lcL chk g p h n env r ((trim cs cs' (d.lt cs.length)).set n (.lst (acc ++ [d]))) else .no
              | _ => .no)
            | _ => .no) else lcL chk g p h n env r cs
        | _ => .no)
      | _ => .no) else .no
/-- [h for g in f if p], a cell -/
def dLcC (vs : List Nat) (f : Den ItV) (g : GDen) (p : Den Bool) (h : Den D) : Den D := fun env cs => (f env cs).bind fun it cs1 => match lcL it.chk g p h cs1.length (wipeE env vs) it.xs (cs1 ++ [.lst []]) with
  | .ok _ cs' => .ok (.cell cs1.length) cs'
  | _ => .no
theorem OutG.noexn {α β : Type} {K : PySem.W.Frag} {R : Hp → List Addr → α → β → Prop} {I : Hp} {m : List Addr} {x : Out α} {Q : β → Hp → Prop} (h : match x with
  | .ok a cs => ∀ v H' I' m', Same I I' → m <+: m' → SR T K I' m' cs H' → R I' m' a v → Q v H'
  | _ => False) {E : XK} : OutG T K R I m x Q E := by
  cases x with
  | ok a cs => exact h
  | _ => exact h.elim
theorem tLc_of {f : Den ItV} {g : GDen} {p : Den Bool} {wi : TI} {tgt : TG} {tt : TT} {te : TE} (e1 : wi = tG T X.K W (RI T X.K) f) (e2 : tgt = tGk T X.K vs g) (e3 : tt = tG T X.K W0 RB p) (e4 : te = tG T X.K W0 (RD T X.K) h) :
    ∀ σ H Q, tG T X.K W (RD T X.K) (dLcC vs f g p h) σ H Q → tLc wi tgt tt te vs σ H Q := by
  subst e1 e2 e3 e4
  rintro σ H Q ⟨I, m, cs, env, er, sr, hh⟩
  refine ⟨I, m, cs, env, er, sr, OutG.bindI hh fun it cs1 J H1 I1 m1 s1 p1 sr1 r1 h1 => ?_⟩
  intro Dl hD
  have er1 := er.mono s1 p1
  have sr2 := sr1.newC (o := .lst []) (c := .lst []) hD (show CellR T X.K I1 m1 (.lst []) (.lst []) from (RpL.nil : RpL T X.K I1 m1 [] []))
  have key : ∀ z : Out Unit, OutG T X.K (RD T X.K) I1 m1 (match z with
    | .ok _ cs' => .ok (.cell cs1.length) cs'
    | _ => .no) Q (fun cls od H' => W cls od σ H') → ∃ cs', z = .ok () cs' ∧ ∀ v H' I' m', Same I1 I' → m1 <+: m' → SR T X.K I' m' cs' H' → Rp T X.K I' m' (.cell cs1.length) v → Q v H' := fun z hz => by
    cases z with
    | ok u cs' => exact ⟨cs', rfl, hz⟩
    | _ => exact hz.elim
  obtain ⟨csF, eF, hF⟩ := key _ h1
  refine ⟨fun i n H => n = it.xs.length - i ∧ i ≤ it.xs.length ∧ ∃ I2 m2 cs2, Same I1 I2 ∧ (m1 ++ [Dl]) <+: m2 ∧ SR T X.K I2 m2 cs2 H ∧ lcL it.chk g p h cs1.length (wipeE env vs) (it.xs.drop i) cs2 = .ok () csF,
    ⟨it.xs.length, by simp, Nat.zero_le _, I1, m1 ++ [Dl], _, Same.refl _, List.prefix_refl _, sr2, by simpa using eF⟩, ?_⟩
  rintro i n H ⟨rfl, hi, I2, m2, cs2, s2, p2, sr2, e2⟩
  have p12 : m1 <+: m2 := (List.prefix_append _ _).trans p2
  have atD : m2[cs1.length]? = some Dl := pre_get p2 (by rw [← sr1.len]; simp)
  by_cases hlt : i < it.xs.length
  · have ed : it.xs.drop i = it.xs[i] :: it.xs.drop (i + 1) := by simp
    rw [ed] at e2
    unfold lcL at e2
    by_cases hc : it.chk cs2
    · rw [if_pos hc] at e2
      obtain ⟨q1, q2⟩ := r1 I2 m2 cs2 H s2 p12 sr2 hc
      obtain ⟨go, ys⟩ := q1 i it.xs[i] (by simp [hlt])
      refine .inr ⟨go, fun H' => ∃ I2 m2 cs2, Same I1 I2 ∧ (m1 ++ [Dl]) <+: m2 ∧ SR T X.K I2 m2 cs2 H' ∧ lcL it.chk g p h cs1.length (wipeE env vs) (it.xs.drop (i + 1)) cs2 = .ok () csF, fun H' p' => ⟨it.xs.length - (i + 1), by omega, rfl, hlt, p'⟩, fun x H' y => ?_⟩
      obtain ⟨I3, s3, sr3, r3⟩ := ys x H' y
      refine ⟨I3, m2, cs2, wipeE env vs, it.xs[i], ((er1.mono s2 p12).mono s3 (List.prefix_refl _)).wipe, sr3, r3, ?_⟩
      cases hg : g it.xs[i] (wipeE env vs) cs2 with
      | nx env' cs4 =>
        simp only [hg] at e2 ⊢
        intro σ4 H4 I4 m4 s4 p4 sr4 er4 w4
        refine ⟨?_, I4, m4, cs4, env', er4, sr4, ?_⟩
        · have : L2.wipe (L2.wipe σ vs) vs = L2.wipe σ vs := by
            have gen : ∀ (ws us : List Nat) (τ : St), (∀ v ∈ ws, v ∈ us) → L2.wipe (L2.wipe τ ws) us = L2.wipe τ us := fun ws => by
              induction ws with
              | nil => exact fun us τ _ => rfl
              | cons w ws ih =>
                intro us τ hsub
                show L2.wipe ((L2.wipe τ ws).set w none) us = _
                rw [wipe_set (hsub w List.mem_cons_self), ih us τ fun v hv => hsub v (List.mem_cons_of_mem _ hv)]
            exact gen vs vs σ fun _ h => h
          rw [w4, this]
        · refine OutG.noexn ?_
          cases hp : p env' cs4 with
          | ok b cs5 =>
            simp only [hp] at e2 ⊢
            intro b' H5 I5 m5 s5 p5 sr5 eb
            have eb : b = b' := eb
            subst eb
            have er5 := er4.mono s5 p5
            by_cases hb : b = true
            · rw [if_pos hb] at e2
              rw [if_pos hb]
              refine ⟨I5, m5, cs5, env', er5, sr5, OutG.noexn ?_⟩
              cases hh : h env' cs5 with
              | ok d cs6 =>
                simp only [hh] at e2 ⊢
                intro v H6 I6 m6 s6 p6 sr6 r6
                -- cells let go
                have tr : ∃ m7, m5 <+: m7 ∧ SR T X.K I6 m7 (trim cs5 cs6 (d.lt cs5.length)) H6 ∧ Rp T X.K I6 m7 d v := by
                  unfold trim
                  by_cases ok : d.lt cs5.length = true ∧ trimOk cs5 cs6
                  · rw [if_pos ok]
                    obtain ⟨sr7, em⟩ := SR.trim sr5 sr6 p6 ok.2
                    have r7 := Rp.cut (n := cs5.length) ok.1 r6
                    rw [em] at r7
                    exact ⟨m5, List.prefix_refl _, sr7, r7⟩
                  · rw [if_neg ok]
                    exact ⟨m6, p6, sr6, r6⟩
                obtain ⟨m7, p7, sr7, r7⟩ := tr
                have atD7 : m7[cs1.length]? = some Dl := pre_get (p4.trans (p5.trans p7)) atD
                generalize trim cs5 cs6 (d.lt cs5.length) = cs7 at e2 sr7
                cases hn : cs7[cs1.length]? with
                | none => simp only [hn] at e2; cases e2
                | some cl =>
                  cases cl with
                  | lst acc =>
                    simp only [hn] at e2
                    by_cases hl : fitsL acc.length
                    · rw [if_pos hl] at e2
                      obtain ⟨a', ob, z1, z2, z3, z4⟩ := sr7.at_ _ _ hn (by intro z; cases z)
                      rw [atD7] at z1; cases z1
                      cases ob with
                      | lst us =>
                        have z4 : RpL T X.K I6 m7 acc us := z4
                        refine ⟨us, z3, by rw [← z4.length]; exact hl, I6, m7, _, s2.trans (s3.trans (s4.trans (s5.trans s6))), p2.trans (p4.trans (p5.trans p7)), ?_, e2⟩
                        exact sr7.setC hn (by intro z; cases z) atD7 (z4.append (RpL.one r7))
                      | _ => exact z4.elim
                    · rw [if_neg hl] at e2; cases e2
                  | _ => simp only [hn] at e2; cases e2
              | _ => simp only [hh] at e2; cases e2
            · rw [if_neg hb] at e2
              rw [if_neg hb]
              exact ⟨I5, m5, cs5, s2.trans (s3.trans (s4.trans s5)), p2.trans (p4.trans p5), sr5, e2⟩
          | _ => simp only [hp] at e2; cases e2
      | _ => simp only [hg] at e2; cases e2
    · rw [if_neg hc] at e2; cases e2
  · have e : i = it.xs.length := by omega
    have ed : it.xs.drop i = [] := by rw [e]; simp
    rw [ed] at e2
    unfold lcL at e2
    by_cases hc : it.chk cs2
    · rw [if_pos hc] at e2
      cases e2
      refine .inl ⟨?_, hF (.ref Dl) H I2 m2 s2 p12 sr2 (rp_cell.mpr ⟨Dl, atD, rfl⟩)⟩
      rw [e]
      exact (r1 I2 m2 _ H s2 p12 sr2 hc).2
    · rw [if_neg hc] at e2; cases e2
def blkB (N : List PySem.Str) (sc scope : Scope) (own : List (PySem.Str × Nat)) : Bool :=
  decide (scope.kind = .function) && scope.names.all (fun y => decide (scope.names.lookup y.1 = some y.2)) && own.all (fun p => decide (N[p.2]? = some p.1)) &&
  scope.names.all (fun y => !decide (y.2 = .free) || decide (sc.names.lookup y.1 = some .cell) || decide (sc.names.lookup y.1 = some .free)) &&
  scope.names.all (fun y => !(decide (y.2 = .local) || decide (y.2 = .cell)) || decide (y.1 ∈ own.map (·.1)) || decide (y.1 ∉ N))
theorem blk_by {N : List PySem.Str} {sc scope : Scope} {own : List (PySem.Str × Nat)} (h : blkB N sc scope own = true) : BlkOk N sc scope own := by
  unfold blkB at h
  simp only [Bool.and_eq_true, decide_eq_true_eq, List.all_eq_true, Bool.or_eq_true, Bool.not_eq_true', decide_eq_false_iff_not, Bool.or_eq_false_iff] at h
  obtain ⟨⟨⟨⟨h1, h2⟩, h3⟩, h4⟩, h5⟩ := h
  refine ⟨h1, h2, h3, fun y hy e => ?_, fun y hy e => ?_⟩
  · rcases h4 y hy with (q | q) | q
    · exact absurd e q
    · exact .inl q
    · exact .inr q
  · rcases h5 y hy with (q | q) | q
    · rcases e with e | e
      · exact absurd e q.1
      · exact absurd e q.2
    · exact .inl q
    · exact .inr q
theorem de_lcC {ifs : List Expr} {scope : Scope} {own : List (PySem.Str × Nat)} {f : Den ItV} {g : GDen} {p : Den Bool} (hc : X.calm = true) (hN : X.N.Nodup) (hi : DI X T W tg iter f) (ok : BlkOk X.N X.env.scope scope own)
    (hg : ∀ (s : Shared) (H : Hp) (C : Addr) (cl : List (PySem.Str × Addr)) (fp : List Addr), DGk (X.blk s H scope (compEnvC scope cl C X.env) fp) T (own.map (·.2)) tg g) (ht : ∀ (s : Shared) (H : Hp) (C : Addr) (cl : List (PySem.Str × Addr)) (fp : List Addr), DTs (X.blk s H scope (compEnvC scope cl C X.env) fp) T W0 ifs p)
    (he : ∀ (s : Shared) (H : Hp) (C : Addr) (cl : List (PySem.Str × Addr)) (fp : List Addr), DE (X.blk s H scope (compEnvC scope cl C X.env) fp) T W0 elt h) (hs : ∀ x, foldedSetIterable iter X.env x = pure x := by intro _; rfl) :
    DE X T W (.ListComp elt [⟨tg, iter, ifs, 0⟩] scope pos) (dLcC (own.map (·.2)) f g p h) :=
  PE.imp (pe_lc (g := tGk T X.K (own.map (fun x : PySem.Str × Nat => x.2)) g) (tt := tG T X.K W0 RB p) (te := tG T X.K W0 (RD T X.K) h) hc hN hi ok hg ht he hs) (tLc_of rfl rfl rfl rfl)
theorem ds_setLcC {i : Nat} {y : PySem.Str} {py spos : Pos} {ifs : List Expr} {scope : Scope} {own : List (PySem.Str × Nat)} {f : Den ItV} {g : GDen} {p : Den Bool} (hc : X.calm = true) (hN : X.N.Nodup) (hi : DI X T W tg iter f) (ok : BlkOk X.N X.env.scope scope own)
    (hg : ∀ (s : Shared) (H : Hp) (C : Addr) (cl : List (PySem.Str × Addr)) (fp : List Addr), DGk (X.blk s H scope (compEnvC scope cl C X.env) fp) T (own.map (·.2)) tg g) (ht : ∀ (s : Shared) (H : Hp) (C : Addr) (cl : List (PySem.Str × Addr)) (fp : List Addr), DTs (X.blk s H scope (compEnvC scope cl C X.env) fp) T W0 ifs p)
    (he : ∀ (s : Shared) (H : Hp) (C : Addr) (cl : List (PySem.Str × Addr)) (fp : List Addr), DE (X.blk s H scope (compEnvC scope cl C X.env) fp) T W0 elt h) (hy : X.N[i]? = some y := by rfl) (hyl : X.env.scope.names.lookup y = some .local := by rfl)
    (hsw : swapsWith (.ListComp elt [⟨tg, iter, ifs, 0⟩] scope pos) (some (.Name y py)) spos.line X.env = pure true := by rfl) (hs : ∀ x, foldedSetIterable iter X.env x = pure x := by intro _; rfl) :
    DS X T W (.Assign [.Name y py] (.ListComp elt [⟨tg, iter, ifs, 0⟩] scope pos) spos) (sSet i (dLcC (own.map (·.2)) f g p h)) := by
  refine PS.imp (ps_setLc (g := tGk T X.K (own.map (fun x : PySem.Str × Nat => x.2)) g) (tt := tG T X.K W0 RB p) (te := tG T X.K W0 (RD T X.K) h) hc hN hy hyl hsw hi ok hg ht he hs) ?_
  intro B σ H hB
  obtain ⟨I, m, cs, env, er, sr, hB⟩ := hB
  refine tLc_of rfl rfl rfl rfl σ H _ ⟨I, m, cs, env, er, sr, ?_⟩
  exact SOk.bindE hB er fun d cs1 v H1 I1 m1 s1 p1 sr1 r1 h1 => SOk.nxI h1 sr1 ((er.mono s1 p1).set r1)
/-- what was made on the way and is not held is let go -/
def dTr (f : Den D) : Den D := fun env cs => match f env cs with
  | .ok d cs' => .ok d (trim cs cs' (d.lt cs.length))
  | .exn c ks fs cs' => .exn c ks fs (trim cs cs' (D.ltL cs.length fs))
  | .no => .no
theorem tG_tr {K : PySem.W.Frag} {f : Den D} : ∀ σ H Q, tG T K W (RD T K) (dTr f) σ H Q → tG T K W (RD T K) f σ H Q := by
  rintro σ H Q ⟨I, m, cs, env, er, sr, h⟩
  refine ⟨I, m, cs, env, er, sr, ?_⟩
  unfold dTr at h
  cases hf : f env cs with
  | no => simp only [hf] at h; exact h
  | ok d cs' =>
    simp only [hf] at h
    exact fun v H' I' m' s p sr' r => ok_trim (β := V) sr h (fun z => z) s p sr' r
  | exn c ks fs cs' =>
    simp only [hf] at h
    exact fun cls od H' I' m' s p sr' r => exn_trim (α := D) sr h s p sr' r
theorem de_tr (he : DE X T W e f) : DE X T W e (dTr f) := PE.imp he tG_tr
theorem tG_frz {K : PySem.W.Frag} {f : Den D} : ∀ σ H Q, tG T K W (RD T K) (dFrz f) σ H Q → tG T K W (RD T K) f σ H Q := by
  rintro σ H Q ⟨I, m, cs, env, er, sr, h⟩
  refine ⟨I, m, cs, env, er, sr, OutG.bindI h fun x cs1 v H1 I1 m1 s1 p1 sr1 r1 h1 => ?_⟩
  by_cases hz : ∃ z, x = .cell z
  · obtain ⟨z, rfl⟩ := hz
    simp only at h1
    split at h1
    · rename_i ys hc
      obtain ⟨a, us, rfl, ea, q1, q2⟩ := cell_lst sr1 r1 hc
      obtain ⟨sr2, s2⟩ := sr1.frz hc (by intro z; cases z) ea q1
      exact h1.ok1 s2 sr2 (rp_lst.mpr ⟨a, us, rfl, SqX.of upd_same, RpL.mono s2 (List.prefix_refl _) q2⟩)
    · exact h1.elim
  · have h' : OutG T K (RD T K) I1 m1 (.ok x cs1) Q (fun cls od H' => W cls od σ H') := by
      cases x <;> first | exact h1 | exact absurd ⟨_, rfl⟩ hz
    exact h'.okI sr1 r1
/-- [..], frozen, nothing left behind -/
def dLc (vs : List Nat) (f : Den ItV) (g : GDen) (p : Den Bool) (h : Den D) : Den D := dTr (dFrz (dLcC vs f g p h))
theorem de_lc {F : Den D} (he : DE X T W e F) : DE X T W e (dTr (dFrz F)) := PE.imp he fun σ H Q q => tG_frz σ H Q (tG_tr σ H Q q)
theorem ds_setLc {i : Nat} {y : PySem.Str} {py spos : Pos} {ifs : List Expr} {scope : Scope} {own : List (PySem.Str × Nat)} {f : Den ItV} {g : GDen} {p : Den Bool} (hc : X.calm = true) (hN : X.N.Nodup) (hi : DI X T W tg iter f) (ok : BlkOk X.N X.env.scope scope own)
    (hg : ∀ (s : Shared) (H : Hp) (C : Addr) (cl : List (PySem.Str × Addr)) (fp : List Addr), DGk (X.blk s H scope (compEnvC scope cl C X.env) fp) T (own.map (·.2)) tg g) (ht : ∀ (s : Shared) (H : Hp) (C : Addr) (cl : List (PySem.Str × Addr)) (fp : List Addr), DTs (X.blk s H scope (compEnvC scope cl C X.env) fp) T W0 ifs p)
    (he : ∀ (s : Shared) (H : Hp) (C : Addr) (cl : List (PySem.Str × Addr)) (fp : List Addr), DE (X.blk s H scope (compEnvC scope cl C X.env) fp) T W0 elt h) (hy : X.N[i]? = some y := by rfl) (hyl : X.env.scope.names.lookup y = some .local := by rfl)
    (hsw : swapsWith (.ListComp elt [⟨tg, iter, ifs, 0⟩] scope pos) (some (.Name y py)) spos.line X.env = pure true := by rfl) (hs : ∀ x, foldedSetIterable iter X.env x = pure x := by intro _; rfl) :
    DS X T W (.Assign [.Name y py] (.ListComp elt [⟨tg, iter, ifs, 0⟩] scope pos) spos) (sSet i (dTr (dFrz (dLcC (own.map (·.2)) f g p h)))) := by
  refine PS.imp (ps_setLc (g := tGk T X.K (own.map (fun x : PySem.Str × Nat => x.2)) g) (tt := tG T X.K W0 RB p) (te := tG T X.K W0 (RD T X.K) h) hc hN hy hyl hsw hi ok hg ht he hs) ?_
  intro B σ H hB
  obtain ⟨I, m, cs, env, er, sr, hB⟩ := hB
  refine tLc_of rfl rfl rfl rfl σ H _ (tG_frz σ H _ (tG_tr σ H _ ⟨I, m, cs, env, er, sr, ?_⟩))
  exact SOk.bindE hB er fun d cs1 v H1 I1 m1 s1 p1 sr1 r1 h1 => SOk.nxI h1 sr1 ((er.mono s1 p1).set r1)
end
end
end DL
end

section
set_option Elab.async false
set_option linter.all false
set_option maxRecDepth 100000
set_option maxHeartbeats 4000000
namespace DL
open PySem L2
open Classical
/-! ### what the written part must say of an exception class -/
section
open PySem.Spec PyProof.Rows
def oexB (K : PySem.W.Frag) (C : Addr) : Bool := (match K.lookup C with
  | some ⟨.type "type", _, .cls cd, sl⟩ => (match cd.mro, sl.toList with
    | .ref C' :: bm, [_, _, _, _, some (.builtin n), _] => C' == C && n == "ValueError.__new__" && !cd.hasDel && cd.hasDict && PySem.HandSPX.refsVE bm
    | _, _ => false)
  | _ => false) && (He.eqO (PySem.W.findIn K (.ref C) "__setattr__") (some (some (.builtin "object.__setattr__"))) && (decide (PySem.W.subIn K (.ref C) (.type "BaseException") = some true) && (decide (PySem.W.typeIn K (.ref C) = some (.type "type")) && PySem.W.keepIn K (.ref C))))
theorem oexB_ok {K : PySem.W.Frag} {C : Addr} (h : oexB K C = true) : OexC K C := by
  unfold oexB at h
  obtain ⟨q, h⟩ := He.ba h
  obtain ⟨h1, h⟩ := He.ba h
  obtain ⟨h2, h⟩ := He.ba h
  obtain ⟨h3, h4⟩ := He.ba h
  refine ⟨?_, He.eqO_ok h1, of_decide_eq_true h2, of_decide_eq_true h3, h4⟩
  split at q
  · rename_i dd cd sl ho
    split at q
    · rename_i C' bm k0 k1 k2 k3 n k5 hm hs
      simp only [Bool.and_eq_true, beq_iff_eq, Bool.not_eq_true'] at q
      obtain ⟨⟨⟨⟨rfl, rfl⟩, hdel⟩, hd⟩, ht⟩ := q
      obtain ⟨nm, bs, mro, ns, qn, hdc, sn, sub, ab, col, del⟩ := cd
      dsimp only at hm hdel hd
      subst hm hdel hd
      have hsl : sl = #[k0, k1, k2, k3, some (.builtin "ValueError.__new__"), k5] := by
        obtain ⟨l⟩ := sl
        simp only at hs
        rw [hs]
      subst hsl
      exact ⟨nm, qn, ns, bs, bm, sn, sub, ab, col, dd, k0, k1, k2, k3, k5, ho, ht⟩
    · cases q
  · cases q
end
/-! ### more facts of the top -/
inductive Fb where
  | mk0 (x : PySem.Str)
  | meq (x m y : PySem.Str)
  | isx (x : PySem.Str)
  | kit (x y : PySem.Str) (b : Bool)
  | kitN (y : PySem.Str)
  | own (x : PySem.Str) (f : PySem.Str × Option PySem.Str)
  | nf (x y : PySem.Str)
  | slf (x : PySem.Str)
  | xcls (x : PySem.Str)
  | ndt (l : List He.Defn)
  | ownq (l : List PySem.Str) (f : PySem.Str × Option PySem.Str)
def Fb.ok (K : PySem.W.Frag) : Fb → Bool
  | .mk0 x => PySem.W.makesIn K (He.ga K x) && (He.eqO (PySem.W.findIn K (.ref (He.ga K x)) "__init__") (some (some (.builtin "object.__init__"))) && PySem.W.keepIn K (.ref (He.ga K x)))
  | .meq x m y => decide (He.ma K (He.ga K x) m = He.ma K (He.ga K y) m)
  | .isx x => (He.Fa.cls x).ok K && (He.eqO (PySem.W.findIn K (.ref (He.ga K x)) "__class__") (some (some (.builtin "object.__class__"))) && (He.eqO (PySem.W.specialIn K (.builtin "object.__class__") "__get__") (some (some (.builtin "getset_descriptor.__get__"))) &&
      (decide (PySem.W.takesIn K (.builtin "object.__class__") = some true) && decide (PySem.W.mroIn K (He.ga K x) (.type "object") = some true))))
  | .kit x y b => decide (PySem.W.kitOne K (.ref (He.ga K x)) (.ref (He.ga K y)) = some b)
  | .kitN y => decide (PySem.W.kitOne K (.type "NoneType") (.ref (He.ga K y)) = some false)
  | .own x f => He.eqO (PySem.W.findIn K (.ref (He.ga K x)) "__eq__") (some (some (.ref (He.fAd K f)))) && (He.eqO (PySem.W.findIn K (.ref (He.ga K x)) "__ne__") (some (some (.builtin "object.__ne__"))) &&
      (PySem.W.isFn K (.ref (He.fAd K f)) && decide (PySem.W.mroIn K (He.ga K x) (.type "object") = some true)))
  | .nf x y => PySem.W.notFirst K (He.ga K x) (.ref (He.ga K y))
  | .slf x => PySem.W.selfFirst K (He.ga K x)
  | .xcls x => oexB K (He.ga K x) && (xfB K (He.ga K x) && (He.eqO (PySem.W.findIn K (.ref (He.ga K x)) "__init__") (some (some (.ref (He.ma K (He.ga K x) "__init__")))) && decide (PySem.W.typeIn K (.ref (He.ma K (He.ga K x) "__init__")) = some (.type "function"))))
  | .ndt l => decide ((l.map fun p => (He.cT K p).2).Nodup)
  | .ownq l f => (PySem.W.isFn K (.ref (He.fAd K f)) && decide ((l.map fun x => He.ga K x).Nodup)) && (l.all (fun x => He.eqO (PySem.W.findIn K (.ref (He.ga K x)) "__eq__") (some (some (.ref (He.fAd K f)))) && (He.eqO (PySem.W.findIn K (.ref (He.ga K x)) "__ne__") (some (some (.builtin "object.__ne__"))) &&
      (decide (PySem.W.mroIn K (He.ga K x) (.type "object") = some true) && decide (PySem.W.subIn K (.ref (He.ga K x)) (.type "NoneType") = some false)))) &&
      l.all fun x => PySem.W.notFirst K (He.ga K x) (.type "NoneType") && l.all fun y => PySem.W.notFirst K (He.ga K x) (.ref (He.ga K y)))
abbrev AlM : Type := He.AlD × Bool
def obsM (fa : List He.Fa) (fn : List He.DefD) (fb : List Fb) (K : PySem.W.Frag) : AlM := (He.obsD fa fn K, fb.all fun f => f.ok K)
def SaysM (fa : List He.Fa) (fn : List He.DefD) (fb : List Fb) (K : PySem.W.Frag) : Prop := obsM fa fn fb K = (He.valD fn, true)
def obsMG (n : Nat) (fa : List He.Fa) (fn : List He.DefD) (fb : List Fb) (g : Addr → Option Obj) : AlM := obsM fa fn fb (He.frG g (He.asD g n))
def hookM (n : Nat) (fa : List He.Fa) (fn : List He.DefD) (fb : List Fb) : PySem.W.Hook where
  α := AlM
  obs := fun s => obsMG n fa fn fb s.heap.get?
  val := fun _ => (He.valD fn, true)
  says := fun _ h => ∃ K : PySem.W.Frag, K.In h ∧ SaysM fa fn fb K
  of := fun _ _ e => ⟨_, He.frG_in, e⟩
  keeps := fun _ _ _ ⟨K, hK, c⟩ k => ⟨K, PySem.W.Frag.In.keeps hK k, c⟩
theorem obsMG_eq {n : Nat} {fa : List He.Fa} {fn : List He.DefD} {fb : List Fb} {g : Addr → Option Obj} {s : Shared} (h : ∀ a, g a = s.heap.get? a) : obsMG n fa fn fb g = (hookM n fa fn fb).obs s := by
  have e : g = s.heap.get? := funext h
  rw [e] <;> rfl
/-- what the walk knows -/
structure Kn (fa : List He.Fa) (fn : List He.DefD) (fb : List Fb) (K : PySem.W.Frag) (mg : PySem.Str → Option Value) : Prop where
  ns : ∃ h : Heap, K.In h ∧ h.Ns mainGlobals mg
  d : He.SaysD fa fn K
  b : (fb.all fun f => f.ok K) = true
section
variable {fa : List He.Fa} {fn : List He.DefD} {fb : List Fb} {K : PySem.W.Frag} {mg : PySem.Str → Option Value}
theorem Kn.of {h : Heap} (X : K.In h) (G : h.Ns mainGlobals mg) (c : SaysM fa fn fb K) : Kn fa fn fb K mg :=
  ⟨⟨h, X, G⟩, congrArg (fun z : AlM => z.1) c, congrArg (fun z : AlM => z.2) c⟩
theorem Kn.glo (z : Kn fa fn fb K mg) (i : Nat) {x : PySem.Str} (h : fa[i]? = some (.glo x) := by rfl) : mg x = some (.ref (He.ga K x)) := let ⟨_, X, G⟩ := z.ns; He.glo_ok X G (z.d.fact i h)
theorem Kn.free (z : Kn fa fn fb K mg) (i : Nat) {x : PySem.Str} (h : fa[i]? = some (.free x) := by rfl) : mg x = none := let ⟨_, X, G⟩ := z.ns; He.free_ok X G (z.d.fact i h)
theorem Kn.int (z : Kn fa fn fb K mg) (i : Nat) {x : PySem.Str} {n : Int} (h : fa[i]? = some (.int x n) := by rfl) : ∃ t, mg x = some (.int n t) := let ⟨_, X, G⟩ := z.ns; He.int_ok X G (z.d.fact i h)
theorem Kn.str (z : Kn fa fn fb K mg) (i : Nat) {x y : PySem.Str} (h : fa[i]? = some (.str x y) := by rfl) : ∃ t, mg x = some (.str y t) := let ⟨_, X, G⟩ := z.ns; He.str_ok X G (z.d.fact i h)
theorem Kn.cls (z : Kn fa fn fb K mg) (i : Nat) {x : PySem.Str} (h : fa[i]? = some (.cls x) := by rfl) : Cls K (He.ga K x) := He.cls_ok (z.d.fact i h)
theorem Kn.noat (z : Kn fa fn fb K mg) (i : Nat) {x f : PySem.Str} (h : fa[i]? = some (.noat x f) := by rfl) : NoAttr K (He.ga K x) f := He.noat_ok (z.d.fact i h)
theorem Kn.meth (z : Kn fa fn fb K mg) (i : Nat) {x m : PySem.Str} (h : fa[i]? = some (.meth x m) := by rfl) : Meth K (He.ga K x) m (He.ma K (He.ga K x) m) := He.meth_ok (z.d.fact i h)
theorem Kn.mkr (z : Kn fa fn fb K mg) (i : Nat) {x : PySem.Str} (h : fa[i]? = some (.mkr x) := by rfl) : Mk K (He.ga K x) (He.ma K (He.ga K x) "__init__") := He.mkr_ok (z.d.fact i h)
theorem Kn.exm (z : Kn fa fn fb K mg) (i : Nat) {x y : PySem.Str} {b : Bool} (h : fa[i]? = some (.exm x y b) := by rfl) : PySem.W.exmOne K (.ref (He.ga K x)) (.ref (He.ga K y)) = some b := He.exm_ok (z.d.fact i h)
theorem Kn.noa (z : Kn fa fn fb K mg) (i : Nat) {x f : PySem.Str} (h : fa[i]? = some (.noat x f) := by rfl) : PySem.W.findIn K (.ref (He.ga K x)) f = some none := He.eqO_ok (z.d.fact i h)
theorem Kn.fb_ (z : Kn fa fn fb K mg) (i : Nat) {f : Fb} (h : fb[i]? = some f) : f.ok K = true := List.all_eq_true.mp z.b f (List.mem_of_getElem? h)
theorem Kn.mk0 (z : Kn fa fn fb K mg) (i : Nat) {x : PySem.Str} (h : fb[i]? = some (.mk0 x) := by rfl) : Mk0 K (He.ga K x) := by
  obtain ⟨h1, h2⟩ := He.ba (z.fb_ i h)
  obtain ⟨h3, h4⟩ := He.ba h2
  exact ⟨h1, He.eqO_ok h3, h4⟩
theorem Kn.meq (z : Kn fa fn fb K mg) (i : Nat) {x m y : PySem.Str} (h : fb[i]? = some (.meq x m y) := by rfl) : He.ma K (He.ga K x) m = He.ma K (He.ga K y) m := of_decide_eq_true (z.fb_ i h)
theorem Kn.ndt (z : Kn fa fn fb K mg) (i : Nat) {l : List He.Defn} (h : fb[i]? = some (.ndt l) := by rfl) : (l.map fun p => (He.cT K p).2).Nodup := of_decide_eq_true (z.fb_ i h)
/-- a def that stands -/
theorem Kn.fd (z : Kn fa fn fb K mg) (i : Nat) {d : He.DefD} (h : fn[i]? = some d) (h1 : d.dfl = []) (h2 : d.kwd = []) : ∃ fd, FunD K d.name d.qual d.params d.body d.scope [] [] (He.fAd K d.at_) fd := by
  obtain ⟨fd, F⟩ := z.d.def_ i h
  unfold He.DefD.dvs He.DefD.kws at F
  rw [h1, h2] at F
  exact ⟨fd, F⟩
end
/-! ### attribute names -/
def nmOf (L : List PySem.Str) (i : Nat) : PySem.Str := match L[i]? with
  | some x => x
  | none => ⟨Array.replicate (i + 100) 122⟩
theorem nmOf_inj {L : List PySem.Str} (h : (decide L.Nodup && L.all fun x => decide (x.cps.size < 100)) = true) : ∀ i j, nmOf L i = nmOf L j → i = j := by
  intro i j e
  simp only [Bool.and_eq_true, decide_eq_true_eq, List.all_eq_true] at h
  obtain ⟨nd, sm⟩ := h
  unfold nmOf at e
  cases hi : L[i]? with
  | some x =>
    cases hj : L[j]? with
    | some y =>
      rw [hi, hj] at e
      simp only at e
      subst e
      exact (List.getElem?_inj (List.getElem?_eq_some_iff.mp hi).1 nd).mp (hi.trans hj.symm)
    | none =>
      rw [hi, hj] at e
      simp only at e
      have := sm x (List.mem_of_getElem? hi)
      rw [e] at this
      simp at this
      omega
  | none =>
    cases hj : L[j]? with
    | some y =>
      rw [hi, hj] at e
      simp only at e
      have := sm y (List.mem_of_getElem? hj)
      rw [← e] at this
      simp at this
      omega
    | none =>
      rw [hi, hj] at e
      simp only at e
      have := congrArg (fun z : PySem.Str => z.cps.size) e
      simp at this
      exact this
/-! ### methods by class -/
theorem dm_of {X : Cx} {T : Tab} {k np : Nat} {m : PySem.Str} {L : List (Nat × FDen)}
    (h : ∀ p ∈ L, (∀ i ∈ T.od p.1, T.nm i ≠ m) ∧ Cls X.K (T.ca p.1) ∧ ∃ f, Meth X.K (T.ca p.1) m f ∧ DF X.prog X.w X.K X.mg X.base T k f np p.2) : DM X T k m np (fun c => L.lookup c) := by
  refine ⟨fun c den e => ?_⟩
  have hm : (c, den) ∈ L := by
    clear h
    induction L with
    | nil => simp at e
    | cons q r ih =>
      rw [List.lookup_cons] at e
      cases hq : c == q.1 with
      | true =>
        rw [hq] at e
        cases e
        have : c = q.1 := eq_of_beq hq
        subst this
        exact List.mem_cons_self
      | false =>
        rw [hq] at e
        exact List.mem_cons_of_mem _ (ih e)
  exact h _ hm
theorem DF.mono {P : Program} {w : World} {K : PySem.W.Frag} {mg : PySem.Str → Option Value} {base : Heap} {T : Tab} {k j np : Nat} {f : Addr} {den : FDen} (c : DF P w K mg base T k f np den) (h : k ≤ j) : DF P w K mg base T j f np den := by
  obtain ⟨⟨fd, ps, hl, F, hb⟩, kp, len⟩ := c
  exact ⟨⟨fd, ps, hl, F.mono h, hb⟩, kp, len⟩
/-! ### the law's end -/
theorem walk_ofX {l : PySem.W.OpenLaw} {n k : Nat} {q : Program} {loose : List PySem.Str} {XP : (PySem.Str → Option Value) → Heap → Prop} {YP : World → Heap → Prop} {d : DefRec} {x : PySem.Str}
    (hn : l.most = some n) (hn2 : n ≤ sizeLine) (hdf : d.params.defaults = []) (hr : Room k callerA)
    (F : ∀ (w : World) (mg : PySem.Str → Option Value) (fa : Addr) (h : Heap), YP w h → h.Ns mainGlobals mg → mg d.name = some (.ref fa) →
      ∃ (K : PySem.W.Frag) (fd : FuncData) (sp : Sp), K.In h ∧ (∀ (s : Shared) (u : Value), BindsTo s fd ⟨[u], []⟩ [(x, u)]) ∧
        (∀ (H : Hp) (a : Addr) (ns : List Int), ns.length ≤ n → (∀ z ∈ ns, Builtin.Int.intBits z ≤ 1048576) → SqX K H a (ns.map V.int) → sp [.ref a] H (fun v _ => v = .bl true) fun _ _ _ => False) ∧
        ∀ base : Heap, K.In base → base.Ns mainGlobals mg → FnOk l.prog w K mg base (L2.CX l.prog w) k fa fd [x] sp) :
    PySem.W.WalkO q loose XP YP l.row.toRowW d [] (fun f vs => PySem.call f vs) := by
  refine Att.attach_callB hn hdf fun w s₀ s₁ mg mb fa o pm cd doc a vs ns G Y ho hd hcd hmg hobj hints hlen hbits hg => ?_
  obtain ⟨K, fd, sp, KX, hb, hsp, hF⟩ := F w mg fa _ Y G.T.g hmg
  refine law_call KX G.T.g G.T.b G.T.builtins G.T.nolimit hg hobj hints (Nat.le_trans hlen hn2) hr hF hb (fun H hO hS => hsp H a ns hlen hbits ?_) fun H e s' hc => ?_
  · rcases hS with h | ⟨o', its, n', h1, h2, h3, h4, h5, h6⟩
    · exact .inl h
    · have e := KX a o' h1
      rw [hobj] at e
      cases e
      have h4' : Data.seq vs.toArray 0 = Data.seq its n' := h4
      cases h4'
      exact .inr ⟨vs.toArray, _, h1, h5, h6⟩
  · obtain ⟨_, _, _, _, _, _, _, _, _, _, _, _, z⟩ := hc
    exact z
/-- the promise of the law's def, from its denotation -/
theorem law_sp {T : Tab} {K : PySem.W.Frag} {den : FDen} {H : Hp} {a : Addr} {ns : List Int} (hS : SqX K H a (ns.map V.int)) (h : ∃ cs, den [.lst (ns.map D.int)] [] = .ok (.bl true) cs) (htb : T.tb = [] := by rfl) : spD T K 1 den [.ref a] H (fun v _ => v = .bl true) fun _ _ _ => False := by
  obtain ⟨cs, e⟩ := h
  have r : RpL T K H [] (ns.map D.int) (ns.map V.int) := by
    clear e hS
    induction ns with
    | nil => exact RpL.nil
    | cons i r ih => exact RpL.cons (rp_int.mpr rfl) ih
  refine ⟨rfl, H, [], [], [.lst (ns.map D.int)], ⟨Same.refl H, rfl, fun n c e => by simp at e, fun n n' c c' a e => by simp at e, (by rw [htb]; exact fun _ h => nomatch h), fun h => absurd htb h⟩, RpL.one (rp_lst.mpr ⟨a, _, rfl, hS, r⟩), ?_⟩
  rw [e]
  exact fun v H' I' m' _ _ _ r => rp_bl.mp r
end DL
end

section
set_option Elab.async false
set_option linter.all false
set_option maxRecDepth 100000
set_option maxHeartbeats 4000000
namespace DL
open PySem L2
/-! ### == of data without objects -/
mutual
def toP : D → PyData
  | .non => .none
  | .bl b => .bool b
  | .int i => .int i
  | .str s => .str s
  | .tup xs => .tuple (toPL xs)
  | .lst xs => .list (toPL xs)
  | _ => .none
def toPL : List D → List PyData
  | [] => []
  | x :: xs => toP x :: toPL xs
end
mutual
theorem toP_ok : ∀ (d : D) (n : Nat), d.okE [] n = true → (toP d).plain = true ∧ (toP d).depth ≤ n
  | .non, n, _ => ⟨rfl, Nat.zero_le _⟩
  | .bl _, n, _ => ⟨rfl, Nat.zero_le _⟩
  | .int _, n, _ => ⟨rfl, Nat.zero_le _⟩
  | .str _, n, _ => ⟨rfl, Nat.zero_le _⟩
  | .tup xs, n + 1, h => by
    obtain ⟨h1, h2⟩ := toPL_ok xs n (by unfold D.okE at h; exact h)
    exact ⟨by unfold toP PyData.plain; exact h1, by unfold toP PyData.depth; omega⟩
  | .lst xs, n + 1, h => by
    obtain ⟨h1, h2⟩ := toPL_ok xs n (by unfold D.okE at h; exact h)
    exact ⟨by unfold toP PyData.plain; exact h1, by unfold toP PyData.depth; omega⟩
  | .tup xs, 0, h => by unfold D.okE at h; cases h
  | .lst xs, 0, h => by unfold D.okE at h; cases h
  | .obj _ xs, 0, h => by unfold D.okE at h; cases h
  | .obj _ xs, 1, h => by unfold D.okE at h; cases h
  | .obj _ xs, n + 2, h => by unfold D.okE at h; simp at h
  | .dic _ _, n, h => by unfold D.okE at h; cases h
  | .cell _, n, h => by unfold D.okE at h; cases h
  | .exc _ _ _, n, h => by unfold D.okE at h; cases h
theorem toPL_ok : ∀ (ds : List D) (n : Nat), D.okL [] ds n = true → PyData.plainAll (toPL ds) = true ∧ PyData.depthAll (toPL ds) ≤ n
  | [], n, _ => ⟨rfl, Nat.zero_le _⟩
  | d :: ds, n, h => by
    unfold D.okL at h
    obtain ⟨h1, h2⟩ := Bool.and_eq_true_iff.mp h
    obtain ⟨a1, a2⟩ := toP_ok d n h1
    obtain ⟨b1, b2⟩ := toPL_ok ds n h2
    exact ⟨by unfold toPL PyData.plainAll; rw [a1, b1]; rfl, by unfold toPL PyData.depthAll; omega⟩
end
theorem okE_obj0 (c : Nat) (xs : List D) (n : Nat) : D.okE [] (.obj c xs) n = false := by
  rcases n with _ | _ | n <;> simp [D.okE]
mutual
theorem toP_eqv : ∀ (a b : D) (n : Nat) (r : Bool), a.okE [] n = true → b.okE [] n = true → eqD a b = some r → PyData.eqv (toP a) (toP b) = r
  | .non, b, n, r, h1, h2, e => by
    cases b with
    | obj c xs => rw [okE_obj0] at h2; cases h2
    | _ => simp [eqD, D.okE] at e h2 <;> (subst e; rfl)
  | .bl _, b, n, r, h1, h2, e => by
    cases b <;> simp [eqD, D.okE] at e h2 <;> (subst e; rfl)
  | .int _, b, n, r, h1, h2, e => by
    cases b <;> simp [eqD, D.okE] at e h2 <;> (subst e; rfl)
  | .str _, b, n, r, h1, h2, e => by
    cases b <;> simp [eqD, D.okE] at e h2 <;> (subst e; rfl)
  | .tup xs, b, n, r, h1, h2, e => by
    cases b with
    | tup ys =>
      cases n with
      | zero => unfold D.okE at h1; cases h1
      | succ n =>
        unfold D.okE at h1 h2
        unfold eqD at e
        unfold toP PyData.eqv
        exact toPL_eqv xs ys n r h1 h2 e
    | _ => first
      | (unfold eqD at e; cases e; rfl)
      | (unfold eqD at e; cases e)
  | .lst xs, b, n, r, h1, h2, e => by
    cases b with
    | lst ys =>
      cases n with
      | zero => unfold D.okE at h1; cases h1
      | succ n =>
        unfold D.okE at h1 h2
        unfold eqD at e
        unfold toP PyData.eqv
        exact toPL_eqv xs ys n r h1 h2 e
    | _ => first
      | (unfold eqD at e; cases e; rfl)
      | (unfold eqD at e; cases e)
  | .obj _ xs, b, n, r, h1, h2, e => by
    rcases n with _ | _ | n <;> simp [D.okE] at h1
  | .dic _ _, b, n, r, h1, h2, e => by simp [D.okE] at h1
  | .cell _, b, n, r, h1, h2, e => by simp [D.okE] at h1
  | .exc _ _ _, b, n, r, h1, h2, e => by simp [D.okE] at h1
theorem toPL_eqv : ∀ (xs ys : List D) (n : Nat) (r : Bool), D.okL [] xs n = true → D.okL [] ys n = true → eqL xs ys = some r → PyData.eqvAll (toPL xs) (toPL ys) = r
  | [], [], n, r, _, _, e => by unfold eqL at e; cases e; rfl
  | [], _ :: _, n, r, _, _, e => by unfold eqL at e; cases e; rfl
  | _ :: _, [], n, r, _, _, e => by unfold eqL at e; cases e; rfl
  | x :: xs, y :: ys, n, r, h1, h2, e => by
    unfold D.okL at h1 h2
    obtain ⟨a1, a2⟩ := Bool.and_eq_true_iff.mp h1
    obtain ⟨b1, b2⟩ := Bool.and_eq_true_iff.mp h2
    unfold eqL at e
    cases q1 : eqD x y with
    | none => simp [q1] at e
    | some r1 =>
      cases q2 : eqL xs ys with
      | none => simp [q1, q2] at e
      | some r2 =>
        simp only [q1, q2, Option.some.injEq] at e
        unfold toPL PyData.eqvAll
        rw [toP_eqv x y n r1 a1 b1 q1, toPL_eqv xs ys n r2 a2 b2 q2]
        exact e
end
section
variable {X : Cx} {T : Tab}
mutual
theorem reads_ok {pins : List (Addr × Obj)} {σ : St} {H : Hp} {s : Shared} {I : Hp} {m : List Addr} (J : Inv X pins σ H s) (si : Same I H) : ∀ (d : D) (n : Nat) (x : V) (v : Value), d.okE [] n = true → Rp T X.K I m d x → RelV x v → ∃ as, Reads s.heap v (toP d) as
  | .non, n, x, v, _, r, rv => by
    cases rp_non.mp r
    cases rv
    exact ⟨_, .none⟩
  | .bl b, n, x, v, _, r, rv => by
    cases rp_bl.mp r
    cases rv
    exact ⟨_, .bool b⟩
  | .int i, n, x, v, _, r, rv => by
    cases rp_int.mp r
    obtain ⟨t, rfl⟩ := rv
    exact ⟨_, .int i t⟩
  | .str z, n, x, v, _, r, rv => by
    cases rp_str.mp r
    obtain ⟨t, rfl⟩ := rv
    exact ⟨_, .str z t⟩
  | .tup xs, n + 1, x, v, h, r, rv => by
    obtain ⟨a, vs, rfl, q, k⟩ := rp_tup.mp r
    cases rv
    obtain ⟨its, rr, ⟨o, e1, e2, n', e3⟩, z⟩ := J.tuple (SqT.same si q)
    obtain ⟨as, ra⟩ := readsL_ok J si xs n vs its (by unfold D.okE at h; exact h) k rr
    exact ⟨_, .tuple e1 e2 e3 (by simpa using ra)⟩
  | .lst xs, n + 1, x, v, h, r, rv => by
    obtain ⟨a, vs, rfl, q, k⟩ := rp_lst.mp r
    cases rv
    obtain ⟨z, its, n', rr, hl, e⟩ := (q.same si).lst J
    obtain ⟨as, ra⟩ := readsL_ok J si xs n vs its (by unfold D.okE at h; exact h) k rr
    exact ⟨_, .list e rfl rfl (by simpa using ra)⟩
  | .tup xs, 0, _, _, h, _, _ => by unfold D.okE at h; cases h
  | .lst xs, 0, _, _, h, _, _ => by unfold D.okE at h; cases h
  | .obj _ xs, 0, _, _, h, _, _ => by unfold D.okE at h; cases h
  | .obj _ xs, 1, _, _, h, _, _ => by unfold D.okE at h; cases h
  | .obj _ xs, n + 2, _, _, h, _, _ => by unfold D.okE at h; simp at h
  | .dic _ _, n, _, _, h, _, _ => by unfold D.okE at h; cases h
  | .cell _, n, _, _, h, _, _ => by unfold D.okE at h; cases h
  | .exc _ _ _, n, _, _, h, _, _ => by unfold D.okE at h; cases h
theorem readsL_ok {pins : List (Addr × Obj)} {σ : St} {H : Hp} {s : Shared} {I : Hp} {m : List Addr} (J : Inv X pins σ H s) (si : Same I H) : ∀ (ds : List D) (n : Nat) (xs : List V) (vs : List Value), D.okL [] ds n = true → RpL T X.K I m ds xs → Vals xs vs → ∃ as, ReadsAll s.heap vs (toPL ds) as
  | [], n, xs, vs, _, r, rv => by
    cases r.inil
    cases rv
    exact ⟨_, .nil⟩
  | d :: ds, n, xs, vs, h, r, rv => by
    obtain ⟨x, r', rfl, q, k⟩ := r.inv
    cases rv with
    | cons r1 r2 =>
      unfold D.okL at h
      obtain ⟨h1, h2⟩ := Bool.and_eq_true_iff.mp h
      obtain ⟨as, a⟩ := reads_ok J si d n x _ h1 q r1
      obtain ⟨bs, b⟩ := readsL_ok J si ds n r' _ h2 k r2
      exact ⟨_, .cons a b⟩
end
theorem eqB0 {n h : Nat} (hh : h ≤ 60) : EqB X T n [] h := by
  refine ⟨?_, ?_, ?_, ?_⟩
  · intro A pins s σ H x y v u I m a b r sb J sr ra rb rv ru ha hb e
    obtain ⟨as, r1⟩ := reads_ok J sr.same a h x v ha ra rv
    obtain ⟨bs, r2⟩ := reads_ok J sr.same b h y u hb rb ru
    obtain ⟨p1, d1⟩ := toP_ok a h ha
    obtain ⟨p2, d2⟩ := toP_ok b h hb
    have un := sb.room.un
    exact SeqAt.eqAt_plain _ _ A s v u as bs r1 r2 p1 p2 (by omega) X.prog X.w X.xe _ ⟨toP_eqv a b h r ha hb e, H, J, ExtT.of sr⟩
  · intro A pins s σ H x y v u I m a b r sb J sr ra rb rv ru ha hb e
    obtain ⟨as, r1⟩ := reads_ok J sr.same a h x v ha ra rv
    obtain ⟨bs, r2⟩ := reads_ok J sr.same b h y u hb rb ru
    obtain ⟨p1, d1⟩ := toP_ok a h ha
    obtain ⟨p2, d2⟩ := toP_ok b h hb
    have un := sb.room.un
    exact SeqAt.rcAt_plain r1 r2 p1 p2 (by omega) X.prog X.w X.xe _ ⟨by rw [toP_eqv a b h r ha hb e], H, J, ExtT.of sr⟩
  · intro A pins s σ H x y v u I m a b r sb J sr ra rb rv ru ha hb e
    obtain ⟨as, r1⟩ := reads_ok J sr.same a h x v ha ra rv
    obtain ⟨bs, r2⟩ := reads_ok J sr.same b h y u hb rb ru
    obtain ⟨p1, d1⟩ := toP_ok a h ha
    obtain ⟨p2, d2⟩ := toP_ok b h hb
    have un := sb.room.un
    exact SeqAt.rcNe_plain r1 r2 p1 p2 (by omega) X.prog X.w X.xe _ ⟨by rw [toP_eqv a b h r ha hb e], H, J, ExtT.of sr⟩
  · intro A pins s σ H x y v u I m a bs r p ys sb J sr ra ey q rb rv ru ha hb er
    subst ey
    obtain ⟨as, r1⟩ := reads_ok J sr.same a h x v ha ra rv
    obtain ⟨p1, d1⟩ := toP_ok a h ha
    have un := sb.room.un
    have hall : D.okL [] bs h = true := by
      clear er q rb
      induction bs with
      | nil => rfl
      | cons b bs ih =>
        unfold D.okL
        rw [(hb b List.mem_cons_self).1, ih fun b' h' => hb b' (List.mem_cons_of_mem _ h')]
        rfl
    obtain ⟨p2, d2⟩ := toPL_ok bs h hall
    have hany : ((toPL bs).any fun z => PyData.eqv z (toP a)) = r := by
      subst er
      clear q rb hall p2 d2
      induction bs with
      | nil => rfl
      | cons b bs ih =>
        obtain ⟨b1, r', b2⟩ := hb b List.mem_cons_self
        unfold toPL
        rw [List.any_cons, List.any_cons, ih fun b' h' => hb b' (List.mem_cons_of_mem _ h'), toP_eqv b a h r' b1 ha b2, b2]
        cases r' <;> rfl
    cases ru
    rcases q with q | q
    · obtain ⟨z, its, n', rr, hl, e⟩ := q.lst J
      obtain ⟨cs, r2⟩ := readsL_ok J sr.same bs h ys its hall rb rr
      have rc : Reads s.heap (.ref p) (.list (toPL bs)) (p :: cs) := .list e rfl rfl (by simpa using r2)
      exact ⟨SeqAt.in_list_data rc r1 p2 p1 (by omega) ⟨by rw [hany], H, J, ExtT.of sr⟩, SeqAt.notIn_list_data rc r1 p2 p1 (by omega) ⟨by rw [hany], H, J, ExtT.of sr⟩⟩
    · obtain ⟨its, rr, ⟨o, e1, e2, n', e3⟩, z⟩ := J.tuple q
      obtain ⟨cs, r2⟩ := readsL_ok J sr.same bs h ys its hall rb rr
      have rc : Reads s.heap (.ref p) (.tuple (toPL bs)) cs := .tuple e1 e2 e3 (by simpa using r2)
      exact ⟨SeqAt.in_tuple_data rc r1 p2 p1 (by omega) ⟨by rw [hany], H, J, ExtT.of sr⟩, SeqAt.notIn_tuple_data rc r1 p2 p1 (by omega) ⟨by rw [hany], H, J, ExtT.of sr⟩⟩
end
end DL
end

section
set_option Elab.async false
set_option linter.all false
set_option maxRecDepth 100000
set_option maxHeartbeats 4000000
namespace DL
open PySem L2
open Classical
noncomputable section
section
variable {X : Cx} {T : Tab} {W : WX} {tg e a b c : Expr} {f : Den D} {g : Den (List D)} {pos p : Pos}
/-- a text, sign by sign -/
def signsD (z : PySem.Str) : List D := z.cps.toList.map fun c => D.str ⟨#[c]⟩
def itS (f : Den D) : Den ItV := fun env cs => (f env cs).bind fun x cs => match x with
  | .str z => .ok ⟨signsD z, noChk⟩ cs
  | _ => .no
theorem di_str (h : DE X T W e f) : DI X T W tg e (itS f) := by
  refine PI.imp (pi_str h) ?_
  rintro σ H Q ⟨I, m, cs, env, er, sr, h⟩
  refine ⟨I, m, cs, env, er, sr, OutG.bindI h fun x cs1 v H1 I1 m1 s1 p1 sr1 r1 h1 => ?_⟩
  cases x with
  | str z =>
    refine ⟨z, rp_str.mp r1, h1.okI sr1 ?_⟩
    intro I' m' cs' H' s2 p2 sr2 _
    refine ⟨fun i d hd => ?_, ?_⟩
    · unfold signsD at hd
      rw [List.getElem?_map] at hd
      cases hc : z.cps.toList[i]? with
      | none => rw [hc] at hd; cases hd
      | some c =>
        rw [hc] at hd
        simp only [Option.map_some, Option.some.injEq] at hd
        subst hd
        have hi : i < z.cps.size := by
          have := (List.getElem?_eq_some_iff.mp hc).1
          simpa using this
        refine ⟨hi, fun x H2 y => ?_⟩
        obtain ⟨rfl, c', hc', rfl⟩ := y
        have e2 : z.cps.toList[i]? = z.cps[i]? := by simp
        rw [e2, hc'] at hc
        cases hc
        exact ⟨I', Same.refl _, sr2, rp_str.mpr rfl⟩
    · show z.cps.size ≤ (signsD z).length
      unfold signsD
      simp
  | _ => exact h1.elim
/-- enumerate of a list -/
def enumD (i : Nat) : List D → List D
  | [] => []
  | x :: r => .tup [.int (i : Int), x] :: enumD (i + 1) r
theorem enumD_get : ∀ {xs : List D} {i k : Nat} {d : D}, (enumD k xs)[i]? = some d → ∃ x, xs[i]? = some x ∧ d = .tup [.int ((k + i : Nat) : Int), x]
  | [], i, k, d, h => by simp [enumD] at h
  | x :: r, 0, k, d, h => by
    simp [enumD] at h
    exact ⟨x, rfl, h.symm⟩
  | x :: r, i + 1, k, d, h => by
    simp only [enumD, List.getElem?_cons_succ] at h
    obtain ⟨y, h1, h2⟩ := enumD_get h
    refine ⟨y, by simpa using h1, ?_⟩
    rw [h2]
    have e : k + 1 + i = k + (i + 1) := by omega
    rw [e]
theorem enumD_len : ∀ {xs : List D} {k : Nat}, (enumD k xs).length = xs.length
  | [], k => rfl
  | x :: r, k => by simp [enumD, enumD_len]
def itEn (g : Den (List D)) : Den ItV := fun env cs => (g env cs).bind fun ds cs => match ds with
  | [.lst xs] => .ok ⟨enumD 0 xs, noChk⟩ cs
  | [.cell n] => (match cs[n]? with
    | some (.lst xs) => .ok ⟨enumD 0 xs, fun cs => cs[n]? = some (.lst xs)⟩ cs
    | _ => .no)
  | _ => .no
/-- the list at a, of items xs, at every later state -/
def LsA (T : Tab) (K : PySem.W.Frag) (I : Hp) (m : List Addr) (xs : List D) (chk : List Cell → Prop) (a : Addr) : Prop :=
  ∀ I' m' cs H, Same I I' → m <+: m' → SR T K I' m' cs H → chk cs → ∃ us, SqL K H a us ∧ RpL T K I' m' xs us
theorem LsA.frz {K : PySem.W.Frag} {I : Hp} {m : List Addr} {xs : List D} {v : V} (r : Rp T K I m (.lst xs) v) {chk : List Cell → Prop} : ∃ a, v = .ref a ∧ LsA T K I m xs chk a := by
  obtain ⟨a, us, rfl, q1, q2⟩ := rp_lst.mp r
  exact ⟨a, rfl, fun I' m' cs H s p sr _ => ⟨us, ((q1.same s).same sr.same).l, RpL.mono s p q2⟩⟩
theorem LsA.cel {K : PySem.W.Frag} {I : Hp} {m : List Addr} {n : Nat} {xs : List D} {v : V} (r : Rp T K I m (.cell n) v) : ∃ a, v = .ref a ∧ LsA T K I m xs (fun cs => cs[n]? = some (.lst xs)) a := by
  obtain ⟨a, ea, rfl⟩ := rp_cell.mp r
  refine ⟨a, rfl, fun I' m' cs H s p sr hk => ?_⟩
  obtain ⟨a2, us2, e2, ea2, q3, q4⟩ := cell_lst sr (Rp.mono s p r) hk
  cases e2
  exact ⟨us2, .inl (.inl q3), q4⟩
def TpA (T : Tab) (K : PySem.W.Frag) (I : Hp) (m : List Addr) (xs : List D) (a : Addr) : Prop :=
  ∀ I' m' cs H, Same I I' → m <+: m' → SR T K I' m' cs H → ∃ us, SqT K H a us ∧ RpL T K I' m' xs us
theorem TpA.of {K : PySem.W.Frag} {I : Hp} {m : List Addr} {xs : List D} {v : V} (r : Rp T K I m (.tup xs) v) : ∃ a, v = .ref a ∧ TpA T K I m xs a := by
  obtain ⟨a, us, rfl, q1, q2⟩ := rp_tup.mp r
  exact ⟨a, rfl, fun I' m' cs H s p sr => ⟨us, SqT.same sr.same (SqT.same s q1), RpL.mono s p q2⟩⟩
theorem RI.enum {K : PySem.W.Frag} {I : Hp} {m : List Addr} {xs : List D} {chk : List Cell → Prop} {a : Addr} (h : LsA T K I m xs chk a) : RI T K I m ⟨enumD 0 xs, chk⟩ (Ite K a) := by
  intro I' m' cs' H' s2 p2 sr2 hk
  obtain ⟨us, q1, q2⟩ := h I' m' cs' H' s2 p2 sr2 hk
  refine ⟨fun i d hd => ?_, us, q1, by rw [enumD_len, q2.length]; exact Nat.le_refl _⟩
  obtain ⟨x, hx, rfl⟩ := enumD_get hd
  obtain ⟨v, e1, r1⟩ := q2.get hx
  refine ⟨⟨us, v, q1, e1⟩, fun y H2 yl => ?_⟩
  obtain ⟨Tt, x', rfl, hT, rfl, hy⟩ := yl
  have e2 := hy us q1
  rw [e1] at e2; cases e2
  obtain ⟨sr3, s3⟩ := sr2.newI (o := .tup [.int (i : Nat), v]) hT
  have e0 : ((0 + i : Nat) : Int) = ((i : Nat) : Int) := by simp
  refine ⟨_, s3, sr3, rp_tup.mpr ⟨Tt, _, rfl, .inl (.inl upd_same), RpL.cons (rp_int.mpr (by rw [e0])) (RpL.one (r1.mono s3 (List.prefix_refl _)))⟩⟩
theorem di_enum {elts : List Expr} {kk : Nat} {tpos : Pos} (hm : X.mg "enumerate" = none) (ha : DA X T W [e] g) (hg : Gl X "enumerate" := by rfl) (hs : starEach [e] X.env = [(false, eval e X.env)] := by rfl) :
    DI X T W (.Tuple elts kk tpos) (.Call (.Name "enumerate" p) [e] [] pos) (itEn g) := by
  refine PI.imp (pi_enum hg hm ha hs) ?_
  rintro σ H Q ⟨I, m, cs, env, er, sr, h⟩
  refine ⟨I, m, cs, env, er, sr, OutG.bindI h fun ds cs1 vs H1 I1 m1 s1 p1 sr1 r1 h1 => ?_⟩
  split at h1
  · obtain ⟨v, rfl, rv⟩ := r1.i1
    obtain ⟨a, rfl, L⟩ := LsA.frz (chk := noChk) rv
    obtain ⟨us, q1, q2⟩ := L I1 m1 cs1 H1 (Same.refl _) (List.prefix_refl _) sr1 trivial
    exact ⟨a, us, rfl, q1, h1.okI sr1 (RI.enum L)⟩
  · rename_i n
    obtain ⟨v, rfl, rv⟩ := r1.i1
    split at h1
    · rename_i xs hc
      obtain ⟨a, rfl, L⟩ := LsA.cel (xs := xs) rv
      obtain ⟨us, q1, q2⟩ := L I1 m1 cs1 H1 (Same.refl _) (List.prefix_refl _) sr1 hc
      exact ⟨a, us, rfl, q1, h1.okI sr1 (RI.enum L)⟩
    · exact h1.elim
  · exact h1.elim
/-- zip of two lists, of two tuples -/
def zipD : List D → List D → List D
  | x :: xs, y :: ys => .tup [x, y] :: zipD xs ys
  | _, _ => []
theorem zipD_get : ∀ {xs ys : List D} {i : Nat} {d : D}, (zipD xs ys)[i]? = some d → ∃ x y, xs[i]? = some x ∧ ys[i]? = some y ∧ d = .tup [x, y]
  | [], ys, i, d, h => by cases ys <;> simp [zipD] at h
  | x :: xs, [], i, d, h => by simp [zipD] at h
  | x :: xs, y :: ys, 0, d, h => by
    simp [zipD] at h
    exact ⟨x, y, rfl, rfl, h.symm⟩
  | x :: xs, y :: ys, i + 1, d, h => by
    simp only [zipD, List.getElem?_cons_succ] at h
    obtain ⟨x', y', h1, h2, h3⟩ := zipD_get h
    exact ⟨x', y', by simpa using h1, by simpa using h2, h3⟩
theorem zipD_len : ∀ {xs ys : List D}, (zipD xs ys).length = min xs.length ys.length
  | [], ys => by cases ys <;> simp [zipD]
  | x :: xs, [] => by simp [zipD]
  | x :: xs, y :: ys => by simp [zipD, zipD_len] <;> omega
/-- the items of a list as a loop sees them, and what keeps them -/
def liveL (cs : List Cell) : D → Option (List D × (List Cell → Prop))
  | .lst xs => some (xs, noChk)
  | .cell n => (match cs[n]? with
    | some (.lst xs) => some (xs, fun cs => cs[n]? = some (.lst xs))
    | _ => none)
  | _ => none
def itZ (g : Den (List D)) : Den ItV := fun env cs => (g env cs).bind fun ds cs => match ds with
  | [x, y] => (match x, y with
    | .tup xs, .tup ys => .ok ⟨zipD xs ys, noChk⟩ cs
    | x, y => (match liveL cs x, liveL cs y with
      | some (xs, p), some (ys, q) => .ok ⟨zipD xs ys, fun cs => p cs ∧ q cs⟩ cs
      | _, _ => .no))
  | _ => .no
theorem liveL_ok {K : PySem.W.Frag} {I : Hp} {m : List Addr} {cs : List Cell} {x : D} {v : V} {xs : List D} {q : List Cell → Prop} (r : Rp T K I m x v) (h : liveL cs x = some (xs, q)) : (∃ a, v = .ref a ∧ LsA T K I m xs q a) ∧ q cs := by
  unfold liveL at h
  split at h
  · cases h
    exact ⟨LsA.frz r, trivial⟩
  · rename_i n
    split at h
    · rename_i ys hc
      cases h
      exact ⟨LsA.cel r, hc⟩
    · cases h
  · cases h
theorem RI.zipL {K : PySem.W.Frag} {I : Hp} {m : List Addr} {xs ys : List D} {p q : List Cell → Prop} {a b : Addr} (h1 : LsA T K I m xs p a) (h2 : LsA T K I m ys q b) : RI T K I m ⟨zipD xs ys, fun cs => p cs ∧ q cs⟩ (Itz K a b) := by
  intro I' m' cs' H' s2 p2 sr2 hk
  obtain ⟨us, a1, a2⟩ := h1 I' m' cs' H' s2 p2 sr2 hk.1
  obtain ⟨ws, b1, b2⟩ := h2 I' m' cs' H' s2 p2 sr2 hk.2
  refine ⟨fun i d hd => ?_, us, ws, a1, b1, ?_⟩
  · obtain ⟨x, y, hx, hy, rfl⟩ := zipD_get hd
    obtain ⟨v, e1, r1⟩ := a2.get hx
    obtain ⟨u, e2, r2⟩ := b2.get hy
    refine ⟨⟨us, ws, v, u, a1, b1, e1, e2⟩, fun z H2 yl => ?_⟩
    obtain ⟨Tt, x', y', rfl, hT, rfl, f1, f2⟩ := yl
    have z1 := f1 us a1
    rw [e1] at z1; cases z1
    have z2 := f2 ws b1
    rw [e2] at z2; cases z2
    obtain ⟨sr3, s3⟩ := sr2.newI (o := .tup [v, u]) hT
    exact ⟨_, s3, sr3, rp_tup.mpr ⟨Tt, _, rfl, .inl (.inl upd_same), RpL.cons (r1.mono s3 (List.prefix_refl _)) (RpL.one (r2.mono s3 (List.prefix_refl _)))⟩⟩
  · have l1 := a2.length
    have l2 := b2.length
    show us.length ≤ (zipD xs ys).length ∨ ws.length ≤ (zipD xs ys).length
    rw [zipD_len]
    omega
theorem RI.zipT {K : PySem.W.Frag} {I : Hp} {m : List Addr} {xs ys : List D} {a b : Addr} (h1 : TpA T K I m xs a) (h2 : TpA T K I m ys b) : RI T K I m ⟨zipD xs ys, noChk⟩ (RZ.ItzT K a b) := by
  intro I' m' cs' H' s2 p2 sr2 hk
  obtain ⟨us, a1, a2⟩ := h1 I' m' cs' H' s2 p2 sr2
  obtain ⟨ws, b1, b2⟩ := h2 I' m' cs' H' s2 p2 sr2
  refine ⟨fun i d hd => ?_, us, ws, a1, b1, ?_⟩
  · obtain ⟨x, y, hx, hy, rfl⟩ := zipD_get hd
    obtain ⟨v, e1, r1⟩ := a2.get hx
    obtain ⟨u, e2, r2⟩ := b2.get hy
    refine ⟨⟨us, ws, v, u, a1, b1, e1, e2⟩, fun z H2 yl => ?_⟩
    obtain ⟨Tt, x', y', rfl, hT, rfl, f1, f2⟩ := yl
    have z1 := f1 us a1
    rw [e1] at z1; cases z1
    have z2 := f2 ws b1
    rw [e2] at z2; cases z2
    obtain ⟨sr3, s3⟩ := sr2.newI (o := .tup [v, u]) hT
    exact ⟨_, s3, sr3, rp_tup.mpr ⟨Tt, _, rfl, .inl (.inl upd_same), RpL.cons (r1.mono s3 (List.prefix_refl _)) (RpL.one (r2.mono s3 (List.prefix_refl _)))⟩⟩
  · have l1 := a2.length
    have l2 := b2.length
    show us.length ≤ (zipD xs ys).length ∨ ws.length ≤ (zipD xs ys).length
    rw [zipD_len]
    omega
theorem di_zip {elts : List Expr} {kk : Nat} {tpos : Pos} (hm : X.mg "zip" = none) (ha : DA X T W [a, b] g) (hg : Gl X "zip" := by rfl) (hs : starEach [a, b] X.env = (false, eval a X.env) :: starEach [b] X.env := by rfl) (hpl : (backTo pos (starEach [b] X.env)).any (·.1) = false := by rfl) :
    DI X T W (.Tuple elts kk tpos) (.Call (.Name "zip" p) [a, b] [] pos) (itZ g) := by
  refine PI.imp (RZ.pi_zipA hg hm ha hs hpl) ?_
  rintro σ H Q ⟨I, m, cs, env, er, sr, h⟩
  refine ⟨I, m, cs, env, er, sr, OutG.bindI h fun ds cs1 vs H1 I1 m1 s1 p1 sr1 r1 h1 => ?_⟩
  split at h1
  · rename_i x y
    obtain ⟨v, u, rfl, rv, ru⟩ := r1.i2
    split at h1
    · rename_i xs ys
      obtain ⟨a, rfl, A⟩ := TpA.of rv
      obtain ⟨b, rfl, B⟩ := TpA.of ru
      obtain ⟨us, a1, a2⟩ := A I1 m1 cs1 H1 (Same.refl _) (List.prefix_refl _) sr1
      obtain ⟨ws, b1, b2⟩ := B I1 m1 cs1 H1 (Same.refl _) (List.prefix_refl _) sr1
      exact ⟨a, b, us, ws, rfl, .inr ⟨a1, b1, h1.okI sr1 (RI.zipT A B)⟩⟩
    · split at h1
      · rename_i xs p ys q e1 e2
        obtain ⟨⟨a, rfl, A⟩, k1⟩ := liveL_ok rv e1
        obtain ⟨⟨b, rfl, B⟩, k2⟩ := liveL_ok ru e2
        obtain ⟨us, a1, a2⟩ := A I1 m1 cs1 H1 (Same.refl _) (List.prefix_refl _) sr1 k1
        obtain ⟨ws, b1, b2⟩ := B I1 m1 cs1 H1 (Same.refl _) (List.prefix_refl _) sr1 k2
        exact ⟨a, b, us, ws, rfl, .inl ⟨a1, b1, h1.okI sr1 (RI.zipL A B)⟩⟩
      · exact h1.elim
  · exact h1.elim
end
end
end DL
end

section
set_option Elab.async false
set_option linter.all false
set_option maxRecDepth 100000
set_option maxHeartbeats 4000000
namespace DL
open PySem L2
open Classical
noncomputable section
section
variable {X : Cx} {T : Tab} {W : WX} {tg e a b c : Expr} {f h : Den D} {g : Den (List D)} {pos p : Pos}
/-! ### x, y, z = a, b, c -/
def sPar3 (i j l : Nat) (g : Den (List D)) : SDen := fun env cs => (g env cs).bindS env fun ds cs => match ds with
  | [d, e, f] => .nx (((env.set i (some d)).set j (some e)).set l (some f)) cs
  | _ => .no
theorem ds_par3 {i j l : Nat} {x y z : PySem.Str} {px py pz pt : Pos} {kt k2 pt2} {g : Den (List D)} (hc : X.calm = true) (hN : X.N.Nodup) (ha : DA X T W [a, b, c] g) (hi : X.N[i]? = some x := by rfl) (hj : X.N[j]? = some y := by rfl) (hl : X.N[l]? = some z := by rfl) (hij : i ≠ j := by decide) (hil : i ≠ l := by decide) (hjl : j ≠ l := by decide)
    (hx : X.env.scope.names.lookup x = some .local := by rfl) (hy : X.env.scope.names.lookup y = some .local := by rfl) (hz : X.env.scope.names.lookup z = some .local := by rfl)
    (hw : swappedStores [.Tuple [.Name x px, .Name y py, .Name z pz] kt pt] (.Tuple [a, b, c] k2 pt2) X.env = pure (some [x, y, z]) := by rfl)
    (hs : swapsWithSole [.Tuple [.Name x px, .Name y py, .Name z pz] kt pt] (.Tuple [a, b, c] k2 pt2) pos.line X.env = pure false := by rfl) :
    DS X T W (.Assign [.Tuple [.Name x px, .Name y py, .Name z pz] kt pt] (.Tuple [a, b, c] k2 pt2) pos) (sPar3 i j l g) := by
  refine PS.imp (ps_par3 hc hN hi hj hl hij hil hjl hx hy hz ha hw hs) ?_
  rintro B σ H ⟨I, m, cs, env, er, sr, h⟩
  refine ⟨I, m, cs, env, er, sr, SOk.bindE h er fun ds cs1 vs H1 I1 m1 s1 p1 sr1 r1 h1 => ?_⟩
  split at h1
  · obtain ⟨v, r, rfl, q1, q2⟩ := r1.inv
    obtain ⟨u, w, rfl, q3, q4⟩ := RpL.i2 q2
    exact ⟨v, u, w, rfl, SOk.nxI h1 sr1 ((((er.mono s1 p1).set q1).set q3).set q4)⟩
  · exact h1.elim
/-! ### text * int -/
def mulSD (x y : D) (cs : List Cell) : Out D := match x, y with
  | .str z, .int n => if n < 1 then (if lo63 n then .ok (.str Str.empty) cs else .no) else if n = 1 ∨ z.length = 0 then (if hi63 n then .ok (.str z) cs else .no) else if hi63F n (z.length * n.toNat) then .ok (.str ⟨(List.replicate n.toNat z.cps).foldl (· ++ ·) #[]⟩) cs else .no
  | _, _ => .no
theorem fold_size (a : Array Nat) : ∀ (k : Nat) (acc : Array Nat), ((List.replicate k a).foldl (· ++ ·) acc).size = acc.size + a.size * k
  | 0, acc => by simp
  | k + 1, acc => by
    rw [List.replicate_succ, List.foldl_cons, fold_size a k, Array.size_append, Nat.mul_succ]
    omega
theorem op_mulS : OpR X (binaryOp .Mult) (fun x y H Q => ∃ z n, x = .str z ∧ y = .int n ∧ ((n < 1 ∧ -(2 ^ 63) ≤ n ∧ Q (.str Str.empty) H) ∨ (1 ≤ n ∧ (n = 1 ∨ z.length = 0) ∧ n < 2 ^ 63 ∧ Q (.str z) H) ∨
    (1 ≤ n ∧ ¬ (n = 1 ∨ z.length = 0) ∧ n < 2 ^ 63 ∧ z.length * n.toNat ≤ sizeLine ∧ Q (.str ⟨(List.replicate n.toNat z.cps).foldl (· ++ ·) #[]⟩) H))) := by
  intro pins s σ H x y v u Q I rx ry h
  obtain ⟨z, n, rfl, rfl, h⟩ := h
  obtain ⟨t, rfl⟩ := rx
  obtain ⟨t', rfl⟩ := ry
  have big : (sizeLine : Nat) = 16777216 := by decide
  have rng : ∀ k : Int, 1 ≤ k → k < 2 ^ 63 → (decide (k < -(2 ^ 63 : Int)) || decide (k ≥ 2 ^ 63)) = false := fun k h1 h2 => by
    rw [decide_eq_false (by omega), decide_eq_false (by omega)]; rfl
  rcases h with ⟨h1, h2, q⟩ | ⟨h1, h2, h3, q⟩ | ⟨h1, h2, h3, h4, q⟩
  · exact P.mul_str_none h1 (by omega) ⟨.str Str.empty, H, I.tok _, ⟨_, rfl⟩, q⟩
  · have e : (n == 1 || z.length == 0) = true := Bool.or_eq_true_iff.mpr (h2.imp beq_iff_eq.mpr beq_iff_eq.mpr)
    refine P.mul_str (rng n h1 h3) (fun _ k => by rw [e] at k; cases k) (fun _ k => by rw [e] at k; cases k) ?_
    rw [if_neg (by omega), if_pos e]
    exact ⟨.str z, H, I, ⟨_, rfl⟩, q⟩
  · have e : ¬ (n == 1 || z.length == 0) = true := fun k => h2 ((Bool.or_eq_true_iff.mp k).imp beq_iff_eq.mp beq_iff_eq.mp)
    refine P.mul_str (rng n h1 h3) (fun _ _ => ?_) (fun _ _ => ?_) ?_
    · have hz : (z.length : Int) * n ≤ 16777216 := by
        have e1 : ((n.toNat : Nat) : Int) = n := Int.toNat_of_nonneg (by omega)
        have e2 : ((z.length * n.toNat : Nat) : Int) = (z.length : Int) * n := by rw [Int.natCast_mul, e1]
        omega
      have hd : (z.length : Int) ≤ (2 ^ 63 - 1) / n := by
        rw [Int.le_ediv_iff_mul_le (by omega)]
        omega
      omega
    · unfold Builtin.Str.tooLong
      exact decide_eq_false (by omega)
    · rw [if_neg (by omega), if_neg e]
      exact ⟨by show ((List.replicate n.toNat z.cps).foldl (· ++ ·) #[]).size ≤ sizeLine; rw [fold_size]; have h5 : z.cps.size * n.toNat ≤ sizeLine := h4; simpa using h5, .str _, H, I.tok _, ⟨_, rfl⟩, q⟩
theorem hk_mulS {K : PySem.W.Frag} : Hk2 T K (fun x y H Q => ∃ z n, x = .str z ∧ y = .int n ∧ ((n < 1 ∧ -(2 ^ 63) ≤ n ∧ Q (.str Str.empty) H) ∨ (1 ≤ n ∧ (n = 1 ∨ z.length = 0) ∧ n < 2 ^ 63 ∧ Q (.str z) H) ∨
    (1 ≤ n ∧ ¬ (n = 1 ∨ z.length = 0) ∧ n < 2 ^ 63 ∧ z.length * n.toNat ≤ sizeLine ∧ Q (.str ⟨(List.replicate n.toNat z.cps).foldl (· ++ ·) #[]⟩) H))) mulSD := by
  intro I m cs H x y v u Q E sr rx ry h
  unfold mulSD at h
  split at h
  · rename_i z n
    refine ⟨z, n, rp_str.mp rx, rp_int.mp ry, ?_⟩
    split at h
    · rename_i h1
      split at h
      · rename_i h2
        exact .inl ⟨h1, h2, h.okI sr (rp_str.mpr rfl)⟩
      · exact h.elim
    · rename_i h1
      split at h
      · rename_i h2
        split at h
        · rename_i h3
          exact .inr (.inl ⟨by omega, h2, h3, h.okI sr (rp_str.mpr rfl)⟩)
        · exact h.elim
      · rename_i h2
        split at h
        · rename_i h3
          exact .inr (.inr ⟨by omega, h2, h3.1, h3.2, h.okI sr (rp_str.mpr rfl)⟩)
        · exact h.elim
  · exact h.elim
theorem de_mulS (ha : DE X T W a f) (hb : DE X T W b h) : DE X T W (.BinOp a .Mult b pos) (d2 f h mulSD) := de_op op_mulS hk_mulS ha hb

/-! ### a list made by + or *, a cell -/
def addLC (x y : D) (cs : List Cell) : Out D := match both (itemsL cs x) (itemsL cs y) with
  | some (i, j) => if fits (i.length + j.length) then .ok (.cell cs.length) (cs ++ [.lst (i ++ j)]) else .no
  | none => .no
theorem hk_addLC {K : PySem.W.Frag} : Hk2 T K (fun x y H Q => ∃ l b xs zs, x = .ref l ∧ y = .ref b ∧ SqX K H l xs ∧ SqX K H b zs ∧ xs.length + zs.length ≤ sizeLine ∧ ∀ p, H p = none → Q (.ref p) (upd H p (.lst (xs ++ zs)))) addLC := by
  intro I m cs H x y v u Q E sr rx ry h
  unfold addLC at h
  cases e3 : both (itemsL cs x) (itemsL cs y) with
  | some p =>
    obtain ⟨i, j⟩ := p
    obtain ⟨h1, h2⟩ := both_ok e3
    simp only [e3] at h
    split at h
    · rename_i hk
      obtain ⟨a1, vs, rfl, q1, r1⟩ := itemsL_ok sr rx h1
      obtain ⟨a2, us, rfl, q2, r2⟩ := itemsL_ok sr ry h2
      refine ⟨a1, a2, vs, us, rfl, rfl, q1, q2, by rw [← r1.length, ← r2.length]; exact hk, fun p hp => ?_⟩
      have sr2 := sr.newC (o := .lst (vs ++ us)) (c := .lst (i ++ j)) hp (r1.append r2)
      exact h (.ref p) _ I (m ++ [p]) (Same.refl I) (List.prefix_append _ _) sr2 (rp_cell.mpr ⟨p, by rw [← sr.len]; simp, rfl⟩)
    · exact h.elim
  | none => simp only [e3] at h; exact h.elim
theorem de_addC (ha : DE X T W a f) (hb : DE X T W b h) : DE X T W (.BinOp a .Add b pos) (d2 f h addLC) := de_op op_catL hk_addLC ha hb
def mulLC (x y : D) (cs : List Cell) : Out D := match both (itemsL cs x) (asI y) with
  | some (xs, k) => if in63F k (xs.length * k.toNat) then .ok (.cell cs.length) (cs ++ [.lst (List.replicate k.toNat xs).flatten]) else .no
  | none => .no
theorem hk_mulLC {K : PySem.W.Frag} : Hk2 T K (fun x y H Q => ∃ l k xs, x = .ref l ∧ y = .int k ∧ DL.SqX K H l xs ∧ -(2 ^ 63) ≤ k ∧ k < 2 ^ 63 ∧ xs.length * k.toNat ≤ sizeLine ∧ ∀ p, H p = none → Q (.ref p) (upd H p (.lst (List.replicate k.toNat xs).flatten))) mulLC := by
  intro I m cs H x y v u Q E sr rx ry h
  unfold mulLC at h
  cases e3 : both (itemsL cs x) (asI y) with
  | some p =>
    obtain ⟨xs, k⟩ := p
    obtain ⟨h1, h2⟩ := both_ok e3
    have e := asI_ok h2; subst e
    simp only [e3] at h
    split at h
    · rename_i hk
      obtain ⟨k1, k2, k3⟩ := hk
      obtain ⟨a1, vs, rfl, q1, r1⟩ := itemsL_ok sr rx h1
      refine ⟨a1, k, vs, rfl, rp_int.mp ry, q1, k1, k2, by rw [← r1.length]; exact k3, fun p hp => ?_⟩
      have sr2 := sr.newC (o := .lst (List.replicate k.toNat vs).flatten) (c := .lst (List.replicate k.toNat xs).flatten) hp (r1.rep _)
      exact h (.ref p) _ I (m ++ [p]) (Same.refl I) (List.prefix_append _ _) sr2 (rp_cell.mpr ⟨p, by rw [← sr.len]; simp, rfl⟩)
    · exact h.elim
  | none => simp only [e3] at h; exact h.elim
theorem de_mulC (ha : DE X T W a f) (hb : DE X T W b h) : DE X T W (.BinOp a .Mult b pos) (d2 f h mulLC) := de_op op_repX hk_mulLC ha hb
/-! ### int(x): an int, a flag, a text -/
def intX (xs : List D) (cs : List Cell) : Out D := match xs with
  | [.int i] => .ok (.int i) cs
  | [.bl k] => .ok (.int (if k then 1 else 0)) cs
  | [.str z] => (match PySem.intText? z with
    | some n => if le640 z.length then .ok (.int n) cs else .no
    | none => .no)
  | _ => .no
theorem CallR.or {fv : Value} {r r' : List V → Hp → VK → Prop} (h : CallR X fv r) (h' : CallR X fv r') : CallR X fv (fun xs H Q => r xs H Q ∨ r' xs H Q) := by
  intro pins s σ H xs us Q I rs q
  rcases q with q | q
  · exact h pins s σ H xs us Q I rs q
  · exact h' pins s σ H xs us Q I rs q
theorem hk_intX {K : PySem.W.Frag} : HkC T K (fun xs H Q => ((∃ i, xs = [.int i] ∧ Q (.int i) H) ∨ ∃ k, xs = [.bl k] ∧ Q (.int (if k then 1 else 0)) H) ∨ (∃ a n, xs = [.str a] ∧ PySem.intText? a = some n ∧ a.length ≤ 640 ∧ Q (.int n) H)) intX := by
  intro I m cs H xs vs Q E sr rx h
  unfold intX at h
  split at h
  · obtain ⟨v, rfl, r⟩ := rx.i1
    exact .inl (.inl ⟨_, by rw [rp_int.mp r], h.okI sr (rp_int.mpr rfl)⟩)
  · obtain ⟨v, rfl, r⟩ := rx.i1
    exact .inl (.inr ⟨_, by rw [rp_bl.mp r], h.okI sr (rp_int.mpr rfl)⟩)
  · obtain ⟨v, rfl, r⟩ := rx.i1
    split at h
    · rename_i n hn
      split at h
      · rename_i hl
        exact .inr ⟨_, n, by rw [rp_str.mp r], hn, hl, h.okI sr (rp_int.mpr rfl)⟩
      · exact h.elim
    · exact h.elim
  · exact h.elim
theorem de_int1 (hm : X.mg "int" = none) (ha : DA X T W [e] g) (hg : Gl X "int" := by rfl) (he : starEach [e] X.env = (false, eval e X.env) :: starEach [] X.env := by rfl) : DE X T W (.Call (.Name "int" p) [e] [] pos) (dCall g intX) :=
  de_callTy (CallR.or call_int1 call_int_str) hk_intX hm ha (hg := hg) (he := he) (hpl := rfl)
/-! ### isinstance(e, C) of an own class -/
/-- what isinstance asks of the class of an instance -/
structure IsX (K : PySem.W.Frag) (C : Addr) : Prop where
  cl : Cls K C
  ha : PySem.W.findIn K (.ref C) "__class__" = some (some (.builtin "object.__class__"))
  hn : PySem.W.specialIn K (.builtin "object.__class__") "__get__" = some (some (.builtin "getset_descriptor.__get__"))
  htk : PySem.W.takesIn K (.builtin "object.__class__") = some true
  hm : PySem.W.mroIn K C (.type "object") = some true
/-- the answers, by class; None is no instance -/
structure IsT (K : PySem.W.Frag) (T : Tab) (C : Addr) (L : List (Nat × Bool)) : Prop where
  ob : ∀ p ∈ L, IsX K (T.ca p.1) ∧ PySem.W.kitOne K (.ref (T.ca p.1)) (.ref C) = some p.2
  non : PySem.W.kitOne K (.type "NoneType") (.ref C) = some false
def isiD (L : List (Nat × Bool)) (x : D) (cs : List Cell) : Out D := match x with
  | .non => .ok (.bl false) cs
  | .obj c _ => (match L.lookup c with
    | some b => .ok (.bl b) cs
    | none => .no)
  | .cell n => (match cs[n]? with
    | some (.ins c _ _) => (match L.lookup c with
      | some b => .ok (.bl b) cs
      | none => .no)
    | _ => .no)
  | _ => .no
theorem mem_lk {L : List (Nat × Bool)} {c : Nat} {b : Bool} (h : L.lookup c = some b) : (c, b) ∈ L := by
  induction L with
  | nil => simp at h
  | cons q r ih =>
    rw [List.lookup_cons] at h
    cases hq : c == q.1 with
    | true =>
      rw [hq] at h
      cases h
      have : c = q.1 := eq_of_beq hq
      subst this
      exact List.mem_cons_self
    | false =>
      rw [hq] at h
      exact List.mem_cons_of_mem _ (ih h)
def rIsi (K : PySem.W.Frag) (C : Addr) : List V → Hp → VK → Prop := fun xs H Q => ∃ x t b, xs = [x, .ref C] ∧ TyOf K H x t ∧ PySem.W.kitOne K t (.ref C) = some b ∧ Q (.bl b) H
theorem call_isi {C : Addr} : CallR X (.builtin "isinstance") (rIsi X.K C) := by
  intro pins s σ H xs us Q I r h
  obtain ⟨x, t, b, rfl, ty, e, q⟩ := h
  obtain ⟨u, w', rfl, ru, rw'⟩ := vals2 r
  cases rw'
  exact isinst_ok I ru ty e fun tk => ⟨.bl b, H, I.tok _, rfl, q⟩
theorem de_isi {C : Addr} {L : List (Nat × Bool)} {y : PySem.Str} {py : Pos} (M : IsT X.K T C L) (hm : X.mg "isinstance" = none) (hC : X.mg y = some (.ref C)) (ha : DE X T W e f) (hg : Gl X "isinstance" := by rfl) (hy : Gl X y := by rfl) (hdy : (y == ("__debug__" : PySem.Str)) = false := by decide)
    (he : starEach [e, .Name y py] X.env = (false, eval e X.env) :: starEach [.Name y py] X.env := by rfl) (he2 : starEach [.Name y py] X.env = (false, eval (.Name y py) X.env) :: starEach [] X.env := by rfl) (hpl : (backTo pos (starEach [.Name y py] X.env)).any (·.1) = false := by rfl) :
    DE X T W (.Call (.Name "isinstance" p) [e, .Name y py] [] pos) (d1 f (isiD L)) := by
  have hb : bootBuiltins "isinstance" = some (.builtin "isinstance") := by decide +kernel
  refine PE.imp (pe_callB (call_isi (C := C)) hg hm hb (pa_cons ha (pa_cons (pe_glob hy hC (v := .ref C) rfl hdy) pa_nil he2) he) (by decide) (by decide) he hpl) ?_
  rintro σ H Q ⟨I, m, cs, env, er, sr, h⟩
  refine ⟨I, m, cs, env, er, sr, OutG.bindI h fun x cs1 v H1 I1 m1 s1 p1 sr1 r1 h1 => ?_⟩
  show rIsi X.K C [v, .ref C] H1 Q
  cases x with
  | non =>
    cases rp_non.mp r1
    exact ⟨_, _, _, rfl, .non, M.non, h1.okI sr1 (rp_bl.mpr rfl)⟩
  | obj c ds =>
    unfold isiD at h1
    simp only at h1
    cases hl : L.lookup c with
    | none => simp only [hl] at h1; exact h1.elim
    | some b =>
      simp only [hl] at h1
      obtain ⟨i1, k⟩ := M.ob _ (mem_lk hl)
      unfold Rp at r1
      obtain ⟨a, dx, gs, rfl, q, _⟩ := r1
      exact ⟨_, _, _, rfl, .ins (sr1.same _ _ q) i1.cl i1.ha i1.hn i1.htk i1.hm, k, h1.okI sr1 (rp_bl.mpr rfl)⟩
  | cell n =>
    unfold isiD at h1
    simp only at h1
    split at h1
    · rename_i c ks ds hc
      cases hl : L.lookup c with
      | none => simp only [hl] at h1; exact h1.elim
      | some b =>
        simp only [hl] at h1
        obtain ⟨i1, k⟩ := M.ob _ (mem_lk hl)
        obtain ⟨a, e1, rfl⟩ := rp_cell.mp r1
        obtain ⟨a', ob, q1, q2, q3, q4⟩ := sr1.at_ n _ hc (by intro z; cases z)
        rw [e1] at q1; cases q1
        cases ob with
        | ins C' dx gs =>
          obtain ⟨rfl, _, _⟩ := q4
          exact ⟨_, _, _, rfl, .ins q3 i1.cl i1.ha i1.hn i1.htk i1.hm, k, h1.okI sr1 (rp_bl.mpr rfl)⟩
        | _ => exact q4.elim
    · exact h1.elim
  | _ => exact h1.elim
end
section
variable {fa : List He.Fa} {fn : List He.DefD} {fb : List Fb} {K : PySem.W.Frag} {mg : PySem.Str → Option Value}
theorem Kn.isx (z : Kn fa fn fb K mg) (i : Nat) {x : PySem.Str} (h : fb[i]? = some (.isx x) := by rfl) : IsX K (He.ga K x) := by
  obtain ⟨h1, h2⟩ := He.ba (z.fb_ i h)
  obtain ⟨h3, h4⟩ := He.ba h2
  obtain ⟨h5, h6⟩ := He.ba h4
  obtain ⟨h7, h8⟩ := He.ba h6
  exact ⟨He.cls_ok h1, He.eqO_ok h3, He.eqO_ok h5, of_decide_eq_true h7, of_decide_eq_true h8⟩
theorem Kn.kit (z : Kn fa fn fb K mg) (i : Nat) {x y : PySem.Str} {b : Bool} (h : fb[i]? = some (.kit x y b) := by rfl) : PySem.W.kitOne K (.ref (He.ga K x)) (.ref (He.ga K y)) = some b := of_decide_eq_true (z.fb_ i h)
theorem Kn.kitN (z : Kn fa fn fb K mg) (i : Nat) {y : PySem.Str} (h : fb[i]? = some (.kitN y) := by rfl) : PySem.W.kitOne K (.type "NoneType") (.ref (He.ga K y)) = some false := of_decide_eq_true (z.fb_ i h)
end
end
end DL
end

section
set_option Elab.async false
set_option linter.all false
set_option maxRecDepth 100000
set_option maxHeartbeats 4000000
namespace DL
open PySem L2
section
variable {P : Program} {w : World} {K : PySem.W.Frag} {mg : PySem.Str → Option Value} {base : Heap} {T : Tab}
/-- the law's def, its function object in hand -/
theorem fn_mk {x qual : PySem.Str} {params : Arguments} {body : List Stmt} {scope : Scope} {f : Addr} {fd : FuncData} {N ps : List PySem.Str} {n np k : Nat} {b : SDen} (F : FunD K x qual params body scope [] [] f fd) (S : FnScope N ps scope) (hn : N.length = n := by rfl) (hp : ps.length = np := by rfl)
    (hbody : ∀ (cdv : Value) (A : Around) (outer : List PySem.Env) (s : Shared) (H : Hp) (E : XK), Room k (A.deeper (PyProof.Rows.envOfC qual scope s.heap.objs.size f cdv)) →
      DSs (cxOf (L2.CX P w) P w K mg base N qual scope f cdv A outer s H E) T (fun cls d _ H => E cls d H) body b) : FnOk P w K mg base (L2.CX P w) (k + 1) f fd ps (spD T K np (mkF n np b)) := by
  subst hn hp
  have hpl : ps.length ≤ N.length := by have := congrArg List.length S.pre; rw [List.length_take] at this; omega
  refine F.ok S (fun vs H Q E h => h.1) fun cdv A outer s H vs Q E hr h => ⟨_, hbody cdv A outer s H E hr, ?_⟩
  obtain ⟨hl, I, m, cs, ds, sr, r, h⟩ := h
  refine ⟨I, m, cs, env0 N.length ds, er_start r (by omega), sr, ?_⟩
  unfold mkF at h
  rw [if_pos (by rw [r.length]; exact hl)] at h
  exact sok_fin sr h
end
end DL
end

section
set_option Elab.async false
set_option linter.all false
set_option maxRecDepth 100000
set_option maxHeartbeats 4000000
namespace DL
open PySem L2
open Classical
noncomputable section
/-! DL17: split, join, partition, str(i), f-strings, dict displays and d[k]. -/
def joinOk (n : Nat) : Prop := n ≤ 16777216
theorem joinOk_of {n : Nat} (h : n ≤ 1000000) : joinOk n := by unfold joinOk; omega
def lg1920 (i : Int) : Prop := i.natAbs.log2 < 1920
theorem lg1920_of {i : Int} (h : i.natAbs.log2 < 1900) : lg1920 i := by unfold lg1920; omega
section
variable {X : Cx} {T : Tab} {W : WX} {e o i a b : Expr} {es : List Expr} {f g : Den D} {pos apos p : Pos}
/-- x.m(y), x a text -/
def dM1 (f g : Den D) (k : Str → D → List Cell → Out D) : Den D := fun env cs => (f env cs).bind fun x cs => match x with
  | .str a => (g env cs).bind fun y cs => k a y cs
  | _ => .no
abbrev HkT (T : Tab) (K : PySem.W.Frag) (r : V → List V → Hp → VK → Prop) (k : Str → D → List Cell → Out D) : Prop :=
  ∀ (I : Hp) (m : List Addr) (cs : List Cell) (H : Hp) (x : Str) (y : D) (u : V) (Q : VK) (E : XK), SR T K I m cs H → Rp T K I m y u → OutG T K (RD T K) I m (k x y cs) Q E → r (.str x) [u] H Q
theorem tM1_of {r : V → List V → Hp → VK → Prop} {k : Str → D → List Cell → Out D} (hk : HkT T X.K r k) {ta tb : TE} (ha : ta = tG T X.K W (RD T X.K) f) (hb : tb = tG T X.K W (RD T X.K) g) :
    ∀ σ H Q, tG T X.K W (RD T X.K) (dM1 f g k) σ H Q → tM1 r ta tb σ H Q := by
  subst ha hb
  rintro σ H Q ⟨I, m, cs, env, er, sr, h⟩
  refine ⟨I, m, cs, env, er, sr, OutG.bindI h fun x cs1 v H1 I1 m1 s1 p1 sr1 r1 h1 => ?_⟩
  cases x with
  | str a =>
    have e := rp_str.mp r1; subst e
    refine ⟨⟨a, rfl⟩, I1, m1, cs1, env, er.mono s1 p1, sr1, OutG.bindI h1 fun y cs2 u H2 I2 m2 s2 p2 sr2 r2 h2 => ?_⟩
    exact hk I2 m2 cs2 H2 a y u Q _ sr2 r2 h2
  | _ => exact h1.elim
theorem rpl_strs {K : PySem.W.Frag} {I : Hp} {m : List Addr} : ∀ ys : List Str, RpL T K I m (ys.map D.str) (ys.map V.str)
  | [] => RpL.nil
  | y :: ys => RpL.cons (rp_str.mpr rfl) (rpl_strs ys)
/-- x.split(y) -/
def splitD (a : Str) (y : D) (cs : List Cell) : Out D := match y with
  | .str b => if (b.length == 0) = false ∧ fits (a.length + 2) then .ok (.lst ((Txt.split a b).map .str)) cs else .no
  | _ => .no
theorem de_split (ho : DE X T W o f) (he : DE X T W e g) (hs : starEach [e] X.env = [(false, eval e X.env)] := by rfl) (hbase : attributeBase o "split" X.env (eval o X.env) = eval o X.env := by rfl) (hline : (apos.endLine == pos.line) = true := by rfl) :
    DE X T W (.Call (.Attribute o "split" apos) [e] [] pos) (dM1 f g splitD) := by
  refine PE.imp (pe_split ho he hs hbase hline) (tM1_of (fun I m cs H x y u Q E sr ry h => ?_) rfl rfl)
  unfold splitD at h
  cases y with
  | str b =>
    have e := rp_str.mp ry; subst e
    simp only at h
    split at h
    · rename_i hz
      exact ⟨x, b, rfl, rfl, hz.1, hz.2, fun p hp => rp_newL sr hp (rpl_strs _) h⟩
    · exact h.elim
  | _ => exact h.elim
/-- x.partition(y) -/
def partD (a : Str) (y : D) (cs : List Cell) : Out D := match y with
  | .str b => if (b.length == 0) = false ∧ fits a.length then .ok (.tup [.str (Txt.partition a b).1, .str (Txt.partition a b).2.1, .str (Txt.partition a b).2.2]) cs else .no
  | _ => .no
theorem de_partition (ho : DE X T W o f) (he : DE X T W e g) (hs : starEach [e] X.env = [(false, eval e X.env)] := by rfl) (hbase : attributeBase o "partition" X.env (eval o X.env) = eval o X.env := by rfl) (hline : (apos.endLine == pos.line) = true := by rfl) :
    DE X T W (.Call (.Attribute o "partition" apos) [e] [] pos) (dM1 f g partD) := by
  refine PE.imp (pe_partition ho he hs hbase hline) (tM1_of (fun I m cs H x y u Q E sr ry h => ?_) rfl rfl)
  unfold partD at h
  cases y with
  | str b =>
    have e := rp_str.mp ry; subst e
    simp only at h
    split at h
    · rename_i hz
      exact ⟨x, b, rfl, rfl, hz.1, hz.2, fun p hp => rp_newT sr hp (RpL.cons (rp_str.mpr rfl) (RpL.cons (rp_str.mpr rfl) (RpL.one (rp_str.mpr rfl)))) h⟩
    · exact h.elim
  | _ => exact h.elim
/-- texts -/
def strsD : List D → Option (List Str)
  | [] => some []
  | .str s :: r => (strsD r).map (s :: ·)
  | _ => none
theorem strsD_map : ∀ ys : List Str, strsD (ys.map D.str) = some ys
  | [] => rfl
  | y :: ys => by
    show (strsD (ys.map D.str)).map (y :: ·) = _
    rw [strsD_map ys]; rfl
theorem strsD_ok {K : PySem.W.Frag} {I : Hp} {m : List Addr} : ∀ {ds : List D} {vs : List V} {ns : List Str}, RpL T K I m ds vs → strsD ds = some ns → vs = ns.map V.str
  | [], vs, ns, h, e => by
    have q := h.inil; subst q
    cases e; rfl
  | d :: ds, vs, ns, h, e => by
    obtain ⟨v, r, rfl, q, k⟩ := h.inv
    cases d with
    | str s =>
      unfold strsD at e
      cases h2 : strsD ds with
      | none => rw [h2] at e; cases e
      | some l =>
        rw [h2] at e
        cases e
        rw [strsD_ok k h2, rp_str.mp q]; rfl
    | _ => cases e
/-- x.join(ys) -/
def joinD (a : Str) (y : D) (cs : List Cell) : Out D := match (itemsS cs y).bind strsD with
  | some ys => if joinOk ((ys.map (·.length)).sum + ys.length * a.length) then .ok (.str (Txt.join a ys)) cs else .no
  | none => .no
theorem de_join (ho : DE X T W o f) (he : DE X T W e g) (hs : starEach [e] X.env = [(false, eval e X.env)] := by rfl) (hbase : attributeBase o "join" X.env (eval o X.env) = eval o X.env := by rfl) (hline : (apos.endLine == pos.line) = true := by rfl) :
    DE X T W (.Call (.Attribute o "join" apos) [e] [] pos) (dM1 f g joinD) := by
  refine PE.imp (pe_join ho he hs hbase hline) (tM1_of (fun I m cs H x y u Q E sr ry h => ?_) rfl rfl)
  unfold joinD at h
  cases hi : (itemsS cs y).bind strsD with
  | none => rw [hi] at h; exact h.elim
  | some ys =>
    simp only [hi] at h
    obtain ⟨ds, h1, h2⟩ := Option.bind_eq_some_iff.mp hi
    obtain ⟨a, vs, rfl, q, rl⟩ := itemsS_ok sr ry h1
    have e := strsD_ok rl h2; subst e
    split at h
    · rename_i hz
      exact ⟨x, a, ys, rfl, rfl, q.imp (fun z => z.l) (fun z => z), hz, h.okI sr (rp_str.mpr rfl)⟩
    · exact h.elim
/-- str(i) -/
def strD (xs : List D) (cs : List Cell) : Out D := match xs with
  | [.int i] => if lg1920 i then .ok (.str (toString i)) cs else .no
  | [.str s] => .ok (.str s) cs
  | _ => .no
theorem hk_str {K : PySem.W.Frag} : HkC T K (fun xs H Q => (∃ i, xs = [.int i] ∧ i.natAbs.log2 < 1920 ∧ Q (.str (toString i)) H) ∨ ∃ a, xs = [.str a] ∧ Q (.str a) H) strD := by
  intro I m cs H xs vs Q E sr rx h
  unfold strD at h
  split at h
  · rename_i i
    obtain ⟨v, rfl, rv⟩ := rx.i1
    have e := rp_int.mp rv; subst e
    split at h
    · rename_i hz
      exact .inl ⟨i, rfl, hz, h.okI sr (rp_str.mpr rfl)⟩
    · exact h.elim
  · rename_i s
    obtain ⟨v, rfl, rv⟩ := rx.i1
    have e := rp_str.mp rv; subst e
    exact .inr ⟨s, rfl, h.okI sr (rp_str.mpr rfl)⟩
  · exact h.elim
theorem de_tostr {g : Den (List D)} (hm : X.mg "str" = none) (ha : DA X T W [e] g) (hg : Gl X "str" := by rfl) (he : starEach [e] X.env = (false, eval e X.env) :: starEach [] X.env := by rfl) : DE X T W (.Call (.Name "str" p) [e] [] pos) (dCall g strD) :=
  de_callTy (call_str_int.or SkE.call_str_str) hk_str hm ha (hg := hg) (he := he) (hpl := rfl)
/-- {x} in an f-string -/
def dFmt (f : Den D) : Den D := fun env cs => (f env cs).bind fun x cs => match x with
  | .str y => if fits y.length then .ok (.str y) cs else .no
  | .int i => if lg1920 i then .ok (.str (toString i)) cs else .no
  | _ => .no
theorem de_fmt (he : DE X T W e f) : DE X T W (.FormattedValue e (-1) none pos) (dFmt f) := by
  refine PE.imp (pe_fmt he) ?_
  rintro σ H Q ⟨I, m, cs, env, er, sr, h⟩
  refine ⟨I, m, cs, env, er, sr, OutG.bindI h fun x cs1 v H1 I1 m1 s1 p1 sr1 r1 h1 => ?_⟩
  cases x with
  | str y =>
    have e := rp_str.mp r1; subst e
    simp only at h1
    split at h1
    · rename_i hz
      exact .inl ⟨y, rfl, hz, h1.okI sr1 (rp_str.mpr rfl)⟩
    · exact h1.elim
  | int i =>
    have e := rp_int.mp r1; subst e
    simp only at h1
    split at h1
    · rename_i hz
      exact .inr ⟨i, rfl, hz, h1.okI sr1 (rp_str.mpr rfl)⟩
    · exact h1.elim
  | _ => exact h1.elim
def dJs : List (Den D) → Str → Den D
  | [], acc => fun env cs => .ok (.str acc) cs
  | f :: fs, acc => fun env cs => (f env cs).bind fun x cs => match x with
    | .str y => if fits (acc ++ y).length then dJs fs (acc ++ y) env cs else .no
    | _ => .no
def DJ (X : Cx) (T : Tab) (W : WX) (es : List Expr) (fs : List (Den D)) : Prop := PJ X es (fs.map fun f => tG T X.K W (RD T X.K) f)
theorem dj_nil : DJ X T W [] [] := PJ.nil
theorem dj_cons {fs : List (Den D)} (h : DE X T W e f) (r : DJ X T W es fs) : DJ X T W (e :: es) (f :: fs) := PJ.cons h r
theorem tJs_of {K : PySem.W.Frag} {σ : L2.St} {Q : VK} {W : WX} : ∀ (fs : List (Den D)) (acc : Str) (H : Hp) (I : Hp) (m : List Addr) (cs : List Cell) (env : Env), ER T K I m env σ → SR T K I m cs H → OutG T K (RD T K) I m (dJs fs acc env cs) Q (fun cls od H' => W cls od σ H') →
    tJs (fs.map fun f => tG T K W (RD T K) f) acc σ H fun out H1 => Q (.str out) H1
  | [], acc, H, I, m, cs, env, er, sr, h => h.okI sr (rp_str.mpr rfl)
  | f :: fs, acc, H, I, m, cs, env, er, sr, h => by
    refine ⟨I, m, cs, env, er, sr, OutG.bindI h fun x cs1 v H1 I1 m1 s1 p1 sr1 r1 h1 => ?_⟩
    cases x with
    | str y =>
      have e := rp_str.mp r1; subst e
      simp only at h1
      split at h1
      · rename_i hz
        exact ⟨y, rfl, hz, tJs_of fs (acc ++ y) H1 I1 m1 cs1 env (er.mono s1 p1) sr1 h1⟩
      · exact h1.elim
    | _ => exact h1.elim
theorem de_joined {v1 v2 : Expr} {rest : List Expr} {fs : List (Den D)} (h : DJ X T W (v1 :: v2 :: rest) fs) : DE X T W (.JoinedStr (v1 :: v2 :: rest) pos) (dJs fs Str.empty) := by
  refine PE.imp (pe_joined h) ?_
  rintro σ H Q ⟨I, m, cs, env, er, sr, h⟩
  exact tJs_of fs Str.empty H I m cs env er sr h
/-! ### {k: v, ..} and d[k] -/
def keyD : D → Option Key
  | .int i => some (.inl i)
  | .str s => some (.inr s)
  | _ => none
theorem keyD_ok {K : PySem.W.Frag} {I : Hp} {m : List Addr} {d : D} {v : V} {k : Key} (r : Rp T K I m d v) (h : keyD d = some k) : v = kV k := by
  cases d with
  | int i => cases h; exact rp_int.mp r
  | str s => cases h; exact rp_str.mp r
  | _ => cases h
def keysD : List D → Option (List Key)
  | [] => some []
  | d :: r => match keyD d, keysD r with
    | some k, some ks => some (k :: ks)
    | _, _ => none
theorem keysD_ok {K : PySem.W.Frag} {I : Hp} {m : List Addr} : ∀ {ds : List D} {vs : List V} {ks : List Key}, RpL T K I m ds vs → keysD ds = some ks → vs = ks.map kV
  | [], vs, ks, h, e => by have q := h.inil; subst q; cases e; rfl
  | d :: ds, vs, ks, h, e => by
    obtain ⟨v, r, rfl, q, k⟩ := h.inv
    unfold keysD at e
    cases h1 : keyD d with
    | none => simp [h1] at e
    | some k1 =>
      cases h2 : keysD ds with
      | none => simp [h1, h2] at e
      | some k2 =>
        simp only [h1, h2, Option.some.injEq] at e
        subst e
        rw [keyD_ok q h1, keysD_ok k h2]; rfl
def dPairs : List (Den D × Den D) → Den (List D × List D)
  | [] => fun env cs => .ok ([], []) cs
  | (f, g) :: r => fun env cs => (f env cs).bind fun x cs => (g env cs).bind fun y cs => (dPairs r env cs).bind fun p cs => .ok (x :: p.1, y :: p.2) cs
def RPs (T : Tab) (K : PySem.W.Frag) : Hp → List Addr → List D × List D → List (V × V) → Prop := fun I m p ps => RpL T K I m p.1 (ps.map (·.1)) ∧ RpL T K I m p.2 (ps.map (·.2))
theorem tPairs_of {K : PySem.W.Frag} {σ : L2.St} {W : WX} : ∀ (fs : List (Den D × Den D)) (H : Hp) (I : Hp) (m : List Addr) (cs : List Cell) (env : Env) (Q : List (V × V) → Hp → Prop), ER T K I m env σ → SR T K I m cs H →
    OutG T K (RPs T K) I m (dPairs fs env cs) Q (fun cls od H' => W cls od σ H') →
    tPairs (fs.map fun f => (tG T K W (RD T K) f.1, tG T K W (RD T K) f.2)) σ H Q
  | [], H, I, m, cs, env, Q, er, sr, h => h.okI sr ⟨RpL.nil, RpL.nil⟩
  | (f, g) :: r, H, I, m, cs, env, Q, er, sr, h => by
    refine ⟨I, m, cs, env, er, sr, OutG.bindI h fun x cs1 v H1 I1 m1 s1 p1 sr1 r1 h1 => ?_⟩
    refine ⟨I1, m1, cs1, env, er.mono s1 p1, sr1, OutG.bindI h1 fun y cs2 u H2 I2 m2 s2 p2 sr2 r2 h2 => ?_⟩
    refine tPairs_of r H2 I2 m2 cs2 env _ ((er.mono s1 p1).mono s2 p2) sr2 ?_
    exact OutG.bindI h2 fun p cs3 ps H3 I3 m3 s3 p3 sr3 r3 h3 => h3.okI sr3 ⟨RpL.cons ((r1.mono s2 p2).mono s3 p3) r3.1, RpL.cons (r2.mono s3 p3) r3.2⟩
def DPs (X : Cx) (T : Tab) (W : WX) (pos : Pos) (ks : List (Option Expr)) (vs : List Expr) (fs : List (Den D × Den D)) : Prop := PPs X pos ks vs (fs.map fun f => (tG T X.K W (RD T X.K) f.1, tG T X.K W (RD T X.K) f.2))
theorem dp_nil : DPs X T W pos [] [] [] := pps_nil
theorem dp_cons {k v : Expr} {ks : List (Option Expr)} {vs : List Expr} {fs : List (Den D × Den D)} (hk : DE X T W k f) (hv : DE X T W v g) (r : DPs X T W pos ks vs fs) : DPs X T W pos (some k :: ks) (v :: vs) ((f, g) :: fs) := pps_cons hk hv r
theorem mergeK_new : ∀ (more kvs : List (Key × V)), ((kvs ++ more).map (·.1)).Nodup → mergeK kvs more = kvs ++ more
  | [], kvs, _ => by show kvs = _; simp
  | (k, v) :: more, kvs, h => by
    show mergeK (L2.putK kvs k v) more = _
    have hno : (kvs.any fun kv => decide (kv.1 = k)) = false := by
      rw [List.any_eq_false]
      intro p hp
      simp only [decide_eq_true_eq]
      intro e
      rw [List.map_append, List.map_cons] at h
      exact (List.nodup_append.mp h).2.2 p.1 (List.mem_map_of_mem hp) k List.mem_cons_self e
    have e : L2.putK kvs k v = kvs ++ [(k, v)] := by unfold L2.putK; rw [hno]; rfl
    rw [e, mergeK_new more (kvs ++ [(k, v)]) (by simpa using h)]
    simp
/-- a new dict, its keys different -/
def dDisp (fs : List (Den D × Den D)) : Den D := fun env cs => (dPairs fs env (cs ++ [.dic [] []])).bind fun p cs' => match keysD p.1 with
  | some ks => if ks.Nodup ∧ ks.length ≤ 15 ∧ cs'[cs.length]? = some (.dic [] []) ∧ p.2.length = ks.length then .ok (.cell cs.length) (cs'.set cs.length (.dic ks p.2)) else .no
  | none => .no
theorem zip_fst {α β : Type} : ∀ (xs : List α) (ys : List β), xs.length = ys.length → (xs.zip ys).map (·.1) = xs
  | [], [], _ => rfl
  | x :: xs, y :: ys, h => by rw [List.zip_cons_cons, List.map_cons, zip_fst xs ys (by simpa using h)]
theorem zip_snd {α β : Type} : ∀ (xs : List α) (ys : List β), xs.length = ys.length → (xs.zip ys).map (·.2) = ys
  | [], [], _ => rfl
  | x :: xs, y :: ys, h => by rw [List.zip_cons_cons, List.map_cons, zip_snd xs ys (by simpa using h)]
theorem prs_eq {ps : List (V × V)} {ks : List Key} (h : ps.map (·.1) = ks.map kV) : ps = (ks.zip (ps.map (·.2))).map fun kv => (kV kv.1, kv.2) := by
  induction ps generalizing ks with
  | nil =>
    cases ks with
    | nil => rfl
    | cons k ks => cases h
  | cons p ps ih =>
    cases ks with
    | nil => cases h
    | cons k ks =>
      simp only [List.map_cons, List.cons.injEq] at h
      rw [List.map_cons, List.zip_cons_cons, List.map_cons, ← ih h.2, ← h.1]
theorem de_disp {keys : List (Option Expr)} {values : List Expr} {fs : List (Den D × Den D)} (h : DPs X T W pos keys values fs) (hall : keys.all (·.isSome) = true := by rfl) (hl : keys.length = values.length := by rfl) (h0 : keys ≠ [] := by intro z; cases z) (h15 : keys.length ≤ 15 := by decide) :
    DE X T W (.Dict keys values pos) (dDisp fs) := by
  refine PE.imp (pe_disp h hall hl h0 h15) ?_
  rintro σ H Q ⟨I, m, cs, env, er, sr, h⟩
  intro q hq
  have sr0 := sr.newC (c := .dic [] []) (o := .dK []) hq ⟨rfl, RpL.nil⟩
  refine tPairs_of fs _ I (m ++ [q]) _ env _ (er.mono (Same.refl I) (List.prefix_append _ _)) sr0 ?_
  refine OutG.bindI (OutG.up (Same.refl I) (List.prefix_append _ _) h) fun p cs1 ps H1 I1 m1 s1 p1 sr1 r1 h1 => ?_
  cases hk : keysD p.1 with
  | none => simp only [hk] at h1; exact h1.elim
  | some ks =>
    simp only [hk] at h1
    split at h1
    · rename_i hz
      obtain ⟨z1, z2, z3, z4⟩ := hz
      have gq : (m ++ [q])[cs.length]? = some q := by rw [← sr.len]; simp
      have gq1 := pre_get p1 gq
      obtain ⟨q', o, e1, e2, e3, e4⟩ := sr1.at_ _ _ z3 (by intro z; cases z)
      rw [gq1] at e1; cases e1
      cases o with
      | dK kvs0 =>
        obtain ⟨k1, k2⟩ := e4
        have k0 : kvs0 = [] := List.map_eq_nil_iff.mp k1
        subst k0
        have ek := keysD_ok r1.1 hk
        have lp : ks.length = (ps.map (·.2)).length := by rw [← r1.2.length]; exact z4.symm
        refine ⟨e3, ks.zip (ps.map (·.2)), prs_eq ek, by rw [List.length_zip]; omega, ?_⟩
        rw [mergeK_new _ [] (by rw [List.nil_append, zip_fst _ _ lp]; exact z1), List.nil_append]
        have sr2 := sr1.setC (o := .dK (ks.zip (ps.map (·.2)))) (c := .dic ks p.2) z3 (by intro z; cases z) gq1 ⟨zip_fst _ _ lp, by rw [zip_snd _ _ lp]; exact r1.2⟩
        exact h1 (.ref q) _ I1 m1 (Same.refl _) (List.prefix_refl _) sr2 (rp_cell.mpr ⟨q, gq1, rfl⟩)
      | _ => exact e4.elim
    · exact h1.elim
def lkD : List Key → List D → Key → Option D
  | k :: ks, d :: ds, x => if k = x then some d else lkD ks ds x
  | _, _, _ => none
def itemsK (cs : List Cell) : D → Option (List Key × List D)
  | .dic ks ds => some (ks, ds)
  | .cell n => match cs[n]? with
    | some (.dic ks ds) => some (ks, ds)
    | _ => none
  | _ => none
def dgetD (x y : D) (cs : List Cell) : Out D := match itemsK cs x, keyD y with
  | some (ks, ds), some k => match lkD ks ds k with
    | some d => .ok d cs
    | none => .no
  | _, _ => .no
theorem lkD_ok {K : PySem.W.Frag} {I : Hp} {m : List Addr} {k : Key} {d : D} : ∀ {ks : List Key} {ds : List D} {kvs : List (Key × V)}, kvs.map (·.1) = ks → RpL T K I m ds (kvs.map (·.2)) → lkD ks ds k = some d → ∃ v, valV kvs k = some v ∧ Rp T K I m d v
  | [], ds, kvs, e, r, h => by cases ds <;> cases h
  | k1 :: ks, [], kvs, e, r, h => by cases h
  | k1 :: ks, x :: ds, [], e, r, h => by cases e
  | k1 :: ks, x :: ds, p :: kvs, e, r, h => by
    simp only [List.map_cons, List.cons.injEq] at e
    obtain ⟨v, r', e2, q, r2⟩ := r.inv
    simp only [List.map_cons, List.cons.injEq] at e2
    unfold lkD at h
    by_cases hk : k1 = k
    · rw [if_pos hk] at h
      cases h
      exact ⟨p.2, valV_pos (e.1.trans hk), by rw [e2.1]; exact q⟩
    · rw [if_neg hk] at h
      rw [valV_neg (by rw [e.1]; exact hk)]
      exact lkD_ok e.2 (by rw [e2.2]; exact r2) h
theorem itemsK_ok {K : PySem.W.Frag} {I H : Hp} {m : List Addr} {cs : List Cell} {d : D} {ks : List Key} {ds : List D} {v : V} (sr : SR T K I m cs H) (r : Rp T K I m d v) (h : itemsK cs d = some (ks, ds)) :
    ∃ a kvs, v = .ref a ∧ Rd H a (.dK kvs) ∧ kvs.map (·.1) = ks ∧ RpL T K I m ds (kvs.map (·.2)) := by
  cases d with
  | dic ks' ds' =>
    cases h
    unfold Rp at r
    obtain ⟨a, kvs, e, q, k1, k2⟩ := r
    exact ⟨a, kvs, e, .inl (sr.same _ _ q), k1, k2⟩
  | cell n =>
    obtain ⟨a, e1, e2⟩ := rp_cell.mp r
    unfold itemsK at h
    cases hc : cs[n]? with
    | none => simp [hc] at h
    | some c =>
      cases c with
      | dic ks' ds' =>
        simp only [hc] at h
        cases h
        obtain ⟨a', o, q1, q2, q3, q4⟩ := sr.at_ n _ hc (by intro z; cases z)
        rw [e1] at q1; cases q1
        cases o with
        | dK kvs => exact ⟨a, kvs, e2, .inl q3, q4.1, q4.2⟩
        | _ => exact q4.elim
      | _ => simp [hc] at h
  | _ => cases h
theorem de_dget (hu : X.A.units + 1 < cLine) (ho : DE X T W o f) (hi : DE X T W i g) (hs : NoSl i) : DE X T W (.Subscript o i pos) (d2 f g dgetD) := by
  refine PE.imp (pe_dget hu ho hi hs) ?_
  rintro σ H Q ⟨I, m, cs, env, er, sr, h⟩
  refine ⟨I, m, cs, env, er, sr, OutG.bindI h fun x cs1 v H1 I1 m1 s1 p1 sr1 r1 h1 => ?_⟩
  refine ⟨I1, m1, cs1, env, er.mono s1 p1, sr1, OutG.bindI h1 fun y cs2 u H2 I2 m2 s2 p2 sr2 r2 h2 => ?_⟩
  unfold dgetD at h2
  cases hi : itemsK cs2 x with
  | none => simp only [hi] at h2; exact h2.elim
  | some p =>
    obtain ⟨ks, ds⟩ := p
    cases hk : keyD y with
    | none => simp only [hi, hk] at h2; exact h2.elim
    | some k =>
      simp only [hi, hk] at h2
      cases hl : lkD ks ds k with
      | none => simp only [hl] at h2; exact h2.elim
      | some d =>
        simp only [hl] at h2
        obtain ⟨a, kvs, rfl, q, k1, k2⟩ := itemsK_ok sr2 (r1.mono s2 p2) hi
        obtain ⟨w, ev, rw'⟩ := lkD_ok k1 k2 hl
        have e := keyD_ok r2 hk
        exact ⟨a, w, rfl, .inl ⟨kvs, k, q, e, ev.symm⟩, h2.okI sr2 rw'⟩
end
end
end DL
end

section
set_option Elab.async false
set_option linter.all false
set_option maxRecDepth 100000
set_option maxHeartbeats 4000000
/-! DL18: == and != by the text's own __eq__. -/
namespace OwnNe
open PySem PySem.Spec PyProof.Rows PySem.SeqAt Builtin
section
variable {prog : Program} {w : World} {A : Around} {E : Value → Shared → Prop} {s : Shared} {K : PySem.W.Frag} {x C f : Addr} {y : Value} {ox : Obj} {od : Option Obj}
theorem entry_ne {Q : Fin → Shared → Prop} (X : K.In s.heap) (I : PySem.W.InstAt s.heap x ox C od) (hs : PySem.W.findIn K (.ref C) "__eq__" = some (some (.ref f))) (hf : PySem.W.isFn K (.ref f) = true) (hu : A.units < cLine)
    (hc : wpAny (model prog w) A (call (.ref f) [.ref x, y]) (fun v s' => ∃ b, v = .bool b ∧ Q (.done (.ret (.bool (!b)))) s') E s) :
    wpAny (model prog w) A (Builtin.«object.__ne__» ⟨[.ref x, y], []⟩) Q E s := by
  unfold Builtin.«object.__ne__»
  repeat (first
    | with_reducible refine wpAny_cRoomFor hu ?_
    | (refine wpAny_bind (m := callSpecialIfBound? (.ref x) (Str.ofString "__eq__") [y])
        (PySem.W.ifBound_K X I hs hf (wpAny_mono hc (fun r s' hr => by
          obtain ⟨b, rfl, hq⟩ := hr
          repeat (first | exact hq | exact wpAny_pure hq | exact wpAny_truthy_bool hq | (refine wpAny_bind (m := truthy (.bool _)) (wpAny_truthy_bool ?_)) | wp_step)) fun _ _ e => e)))
    | wp_step)
theorem call_ne {Q : Value → Shared → Prop} (X : K.In s.heap) (I : PySem.W.InstAt s.heap x ox C od) (hm : PySem.W.mroIn K C (.type "object") = some true) (hs : PySem.W.findIn K (.ref C) "__eq__" = some (some (.ref f))) (hf : PySem.W.isFn K (.ref f) = true)
    (hu : A.units + 1 < cLine) (hc : wpAny (model prog w) A.in1 (call (.ref f) [.ref x, y]) (fun v s' => ∃ b, v = .bool b ∧ Q (.bool (!b)) s') E s) :
    wpAny (model prog w) A (call (.builtin "object.__ne__") [.ref x, y]) Q E s :=
  wpAny_call (codeAny_call_builtin F.cmp_object.ne.plain F.cmpEntry_ne (PySem.W.check_slot F.cmpKind_ne F.cmpSplit_ne (I.type.andThen (PySem.W.looks_mroIn X hm)) (F.cmpArgs_ne _ _)
    (entry_ne (A := A.in1) X I hs hf hu (wpAny_mono hc (fun v s' hv => by
      obtain ⟨b, rfl, hq⟩ := hv
      exact ⟨b, rfl, hq⟩) fun _ _ e => e))))
theorem ifBound_ne {M : Model} {args : List Value} {Q : Option Value → Shared → Prop} (X : K.In s.heap) (I : PySem.W.InstAt s.heap x ox C od) (hs : PySem.W.findIn K (.ref C) "__ne__" = some (some (.builtin "object.__ne__")))
    (h : wpAny M A (call (.builtin "object.__ne__") (.ref x :: args)) (fun v => Q (some v)) E s) : wpAny M A (callSpecialIfBound? (.ref x) "__ne__" args) Q E s := by
  simp only [callSpecialIfBound?, bindSpecialIfBound?]
  refine wpAny_holding (wpAny_bind (wpAny_bind (wpAny_bind (I.type.here ((PySem.W.looks_findIn X hs).here ?_)))))
  refine wpAny_bind (wpAny_askSetting (wpAny_ite ?_))
  have fin : wpAny M A (call (.builtin "object.__ne__") ([.ref x] ++ args) >>= fun v => pure (some v)) Q E s := wpAny_bind (wpAny_mono h (fun v s' h' => wpAny_pure h') fun _ _ h' => h')
  split
  · exact wpAny_bind (wpAny_of_eq (F.cmp_object.ne.bind _) (wpAny_pure (by exact fin)))
  · exact wpAny_tryCatch (wpAny_bind (wpAny_of_eq (F.cmp_object.ne.bind _) (wpAny_pure (by exact fin))))
theorem cmp_ne {tb : Value} {Q : Value → Shared → Prop} (hu : A.units + 1 < cLine) (X : K.In s.heap) (I : PySem.W.InstAt s.heap x ox C od) (hb : PySem.W.Looks (model prog w) s.heap (typeOf y) tb) (hn : PySem.W.notFirst K C tb = true)
    (hne : PySem.W.findIn K (.ref C) "__ne__" = some (some (.builtin "object.__ne__"))) (hm : PySem.W.mroIn K C (.type "object") = some true) (hs : PySem.W.findIn K (.ref C) "__eq__" = some (some (.ref f))) (hf : PySem.W.isFn K (.ref f) = true)
    (h : wpAny (model prog w) A.in1 (call (.ref f) [.ref x, y]) (fun v s' => ∃ b, v = .bool b ∧ Q (.bool (!b)) s') E s) : wpAny (model prog w) A (richCompare .NotEq (.ref x) (y)) Q E s := by
  have one : wpAny (model prog w) A (tryCompare (.ref x) (cmpInfo .NotEq).2.1 (y)) (fun r s' => ∃ v, r = some v ∧ Q v s') E s := by
    unfold tryCompare
    refine wpAny_bind (ifBound_ne X I hne (call_ne X I hm hs hf hu (wpAny_mono h (fun v s' hv => ?_) fun _ _ e => e)))
    obtain ⟨b, rfl, hq⟩ := hv
    exact ⟨b, rfl, wpAny_pure ⟨_, rfl, hq⟩⟩
  unfold richCompare
  simp only [oneThing_ref]
  refine wpAny_holding (wpAny_bind (wpAny_cRoomFor (Nat.lt_of_succ_lt hu) ?_))
  refine wpAny_bind (I.type.here (wpAny_bind (hb.here ?_)))
  split
  · rename_i q
    have e : PySem.W.subIn K tb (.ref C) = some false := by
      rcases Bool.or_eq_true_iff.mp hn with e | e
      · rw [beq_iff_eq.mp e] at q; simp at q
      · exact beq_iff_eq.mp e
    refine wpAny_bind ((PySem.W.looks_subIn X e).here ?_)
    simp only [Bool.false_eq_true, if_false]
    refine wpAny_bind (wpAny_mono one (fun r s' z => ?_) fun _ _ e => e)
    obtain ⟨v, rfl, hq⟩ := z
    exact wpAny_pure hq
  · refine wpAny_bind (wpAny_pure ?_)
    simp only [Bool.false_eq_true, if_false]
    refine wpAny_bind (wpAny_mono one (fun r s' z => ?_) fun _ _ e => e)
    obtain ⟨v, rfl, hq⟩ := z
    exact wpAny_pure hq
theorem none_eq {Q : Value → Shared → Prop} (hu : A.units < cLine) (X : K.In s.heap) (I : PySem.W.InstAt s.heap x ox C od) (hsub : PySem.W.subIn K (.ref C) (.type "NoneType") = some false)
    (hs : PySem.W.findIn K (.ref C) "__eq__" = some (some (.ref f))) (hf : PySem.W.isFn K (.ref f) = true)
    (h : wpAny (model prog w) A (call (.ref f) [.ref x, .none]) (fun v s' => ∃ b, v = .bool b ∧ Q (.bool b) s') E s) : wpAny (model prog w) A (richCompare .Eq .none (.ref x)) Q E s := by
  have hn : s.TypeIs .none "NoneType" := rfl
  have one : wpAny (model prog w) A (tryCompare (.ref x) "__eq__" .none) (fun r s' => ∃ v, r = some v ∧ Q v s') E s := by
    unfold tryCompare
    refine wpAny_bind (PySem.W.ifBound_K X I hs hf (wpAny_mono h (fun v s' hv => ?_) fun _ _ e => e))
    obtain ⟨b, rfl, hq⟩ := hv
    exact wpAny_pure ⟨_, rfl, hq⟩
  have hne : ((Value.type "NoneType") != (Value.ref C)) = true := by first | rfl | simp
  simp only [richCompare, cmpInfo, hn.oneThing_none]
  refine wpAny_holding (wpAny_bind (wpAny_cRoomFor hu ?_))
  refine wpAny_bind (wpAny_typeOf hn (wpAny_bind (I.type.here ?_)))
  simp only [hne, if_true]
  refine wpAny_bind ((PySem.W.looks_subIn X hsub).here ?_)
  simp only [Bool.false_eq_true, if_false, Bool.not_false, if_true]
  refine wpAny_bind (m := tryCompare .none _ (.ref x)) (wpAny_tryCompare_declines hn F.slot_NoneType_eq (call_gives F.slot_NoneType_eq hn F.entry_NoneType_eq (F.args_NoneType_eq_2 _ _) (NoneType___eq___none_ref_0 x) ⟨rfl, ?_⟩))
  refine wpAny_bind (wpAny_mono one (fun r s' z => ?_) fun _ _ e => e)
  obtain ⟨v, rfl, hq⟩ := z
  exact wpAny_pure hq
theorem none_ne {Q : Value → Shared → Prop} (hu : A.units + 1 < cLine) (X : K.In s.heap) (I : PySem.W.InstAt s.heap x ox C od) (hsub : PySem.W.subIn K (.ref C) (.type "NoneType") = some false)
    (hne : PySem.W.findIn K (.ref C) "__ne__" = some (some (.builtin "object.__ne__"))) (hm : PySem.W.mroIn K C (.type "object") = some true)
    (hs : PySem.W.findIn K (.ref C) "__eq__" = some (some (.ref f))) (hf : PySem.W.isFn K (.ref f) = true)
    (h : wpAny (model prog w) A.in1 (call (.ref f) [.ref x, .none]) (fun v s' => ∃ b, v = .bool b ∧ Q (.bool (!b)) s') E s) : wpAny (model prog w) A (richCompare .NotEq .none (.ref x)) Q E s := by
  have hn : s.TypeIs .none "NoneType" := rfl
  have one : wpAny (model prog w) A (tryCompare (.ref x) "__ne__" .none) (fun r s' => ∃ v, r = some v ∧ Q v s') E s := by
    unfold tryCompare
    refine wpAny_bind (ifBound_ne X I hne (call_ne X I hm hs hf hu (wpAny_mono h (fun v s' hv => ?_) fun _ _ e => e)))
    obtain ⟨b, rfl, hq⟩ := hv
    exact ⟨b, rfl, wpAny_pure ⟨_, rfl, hq⟩⟩
  have hnq : ((Value.type "NoneType") != (Value.ref C)) = true := by first | rfl | simp
  simp only [richCompare, cmpInfo, hn.oneThing_none]
  refine wpAny_holding (wpAny_bind (wpAny_cRoomFor (Nat.lt_of_succ_lt hu) ?_))
  refine wpAny_bind (wpAny_typeOf hn (wpAny_bind (I.type.here ?_)))
  simp only [hnq, if_true]
  refine wpAny_bind ((PySem.W.looks_subIn X hsub).here ?_)
  simp only [Bool.false_eq_true, if_false, Bool.not_false, if_true]
  refine wpAny_bind (m := tryCompare .none _ (.ref x)) (wpAny_tryCompare_declines hn F.slot_NoneType_ne (call_gives F.slot_NoneType_ne hn F.entry_NoneType_ne (F.args_NoneType_ne_2 _ _) (NoneType___ne___none_ref_0 x) ⟨rfl, ?_⟩))
  refine wpAny_bind (wpAny_mono one (fun r s' z => ?_) fun _ _ e => e)
  obtain ⟨v, rfl, hq⟩ := z
  exact wpAny_pure hq
end
end OwnNe
end

section
set_option Elab.async false
set_option linter.all false
set_option maxRecDepth 100000
set_option maxHeartbeats 4000000
namespace DL
open PySem L2 PyProof.Rows
open Classical
noncomputable section
/-! DL19: == and != by the text's own __eq__, by its denotation. -/
section
variable {X : Cx} {T : Tab} {W : WX} {k : Nat} {f : Addr} {den : FDen}
theorem pass_no : Passes (L2.CX X.prog X.w) X (fun _ _ _ => False) := fun _ _ _ _ _ _ _ ⟨_, _, _, _, _, _, _, _, _, _, _, _, h⟩ => h.elim
/-- the own == is called -/
theorem eq_call (c : DF X.prog X.w X.K X.mg X.base T k f 2 den) {A : Around} {pins : List (Addr × Obj)} {s : Shared} {σ : L2.St} {H : Hp} {a b : Addr} {Q : VK} (hr : Room k A) (fr : A.frames = X.A.frames) (I : Inv X pins σ H s)
    (h : ∃ I m cs d1 d2, SR T X.K I m cs H ∧ Rp T X.K I m d1 (.ref a) ∧ Rp T X.K I m d2 (.ref b) ∧ OutG T X.K (RD T X.K) I m (den [d1, d2] cs) Q (fun _ _ _ => False)) :
    wpAny (model X.prog X.w) A (call (.ref f) [.ref a, .ref b]) (fun w s' => ∃ z H', Inv X pins σ H' s' ∧ RelV z w ∧ Q z H') X.xe s := by
  obtain ⟨fd, ps, hl, F, hb⟩ := c.ex
  obtain ⟨I0, m, cs, d1, d2, sr, r1, r2, ho⟩ := h
  have hsp : spD T X.K 2 den [.ref a, .ref b] H Q (fun _ _ _ => False) := ⟨rfl, I0, m, cs, [d1, d2], sr, RpL.cons r1 (RpL.one r2), ho⟩
  have e0 : Env0 X.prog X.w X.K X.mg X.base A X.stack s H := by
    have e := I.env0
    exact ⟨by rw [fr]; exact e.frames, e.mod, e.bs, e.bsz, e.funs, e.frf, e.hok, e.bare⟩
  have rr : Vals [V.ref a, V.ref b] [Value.ref a, Value.ref b] := .cons rfl (.cons rfl .nil)
  refine wpAny_call (codeAny_mono (F.run A X.stack s H ⟨[.ref a, .ref b], []⟩ [.ref a, .ref b] [.ref a, .ref b] _ (fun _ _ _ => False) hr e0 (by
    have := hb s [.ref a, .ref b] I.kIn (by simpa using hl.symm)
    simpa using this) rr hsp) fun r s' hq => ?_)
  cases r with
  | error e => exact (pass_no (X := X) pins σ H s e s' I hq)
  | ok fl =>
    cases fl with
    | ret w =>
      obtain ⟨z, H', I', rz, ez⟩ := I.after hq
      exact ⟨z, H', I', rz, ez⟩
    | next => exact False.elim hq
    | brk => exact False.elim hq
    | cont => exact False.elim hq
/-- a class whose == is the def at f -/
structure OwnC (K : PySem.W.Frag) (f C : Addr) : Prop where
  eq : PySem.W.findIn K (.ref C) "__eq__" = some (some (.ref f))
  ne : PySem.W.findIn K (.ref C) "__ne__" = some (some (.builtin "object.__ne__"))
  fn : PySem.W.isFn K (.ref f) = true
  mro : PySem.W.mroIn K C (.type "object") = some true
/-- the classes CS: each has the own ==, none is another's subclass -/
def OwnS (T : Tab) (K : PySem.W.Frag) (f : Addr) (CS : List Nat) : Prop := (∀ c ∈ CS, OwnC K f (T.ca c)) ∧ ∀ c ∈ CS, ∀ c' ∈ CS, PySem.W.notFirst K (T.ca c) (.ref (T.ca c')) = true
def rOwn (T : Tab) (K : PySem.W.Frag) (f : Addr) (den : FDen) (neg : Bool) : R2 := fun x y H Q => ∃ a b C C' dx dy gs hs, x = .ref a ∧ y = .ref b ∧ H a = some (.ins C dx gs) ∧ H b = some (.ins C' dy hs) ∧ OwnC K f C ∧ PySem.W.notFirst K C (.ref C') = true ∧
  ∃ I m cs d1 d2, SR T K I m cs H ∧ Rp T K I m d1 x ∧ Rp T K I m d2 y ∧ OutG T K (RD T K) I m (den [d1, d2] cs) (fun v H' => ∃ r, v = .bl r ∧ Q (.bl (if neg then !r else r)) H') (fun _ _ _ => False)
theorem op_ownEq (c : DF X.prog X.w X.K X.mg X.base T k f 2 den) (hr : Room k X.A) : OpR X (compareOp .Eq) (rOwn T X.K f den false) := by
  intro pins s σ H x y v u Q I rx ry h
  obtain ⟨a, b, C, C', dx, dy, gs, hs, rfl, rfl, ha, hb, oc, nf, h⟩ := h
  cases rx
  cases ry
  obtain ⟨mA, J, _⟩ := ins_get I.hok ha
  obtain ⟨mB, J', _⟩ := ins_get I.hok hb
  obtain ⟨od, J, _⟩ := J.look
  obtain ⟨od', J', _⟩ := J'.look
  obtain ⟨m, hF⟩ := I.fr
  show wpAny (model X.prog X.w) X.A (richCompare .Eq (.ref a) (.ref b)) (EP X pins σ Q) X.xe s
  refine PySem.W.cmp_K (op := .Eq) (tb := .ref C') hr.units0 hF I.ok.mod.kin J J'.type nf oc.eq oc.fn (wpAny_mono (eq_call c hr rfl I h) (fun w s' z => ?_) fun _ _ x => x)
  obtain ⟨z, H', I', rz, r, rfl, q⟩ := z
  cases rz
  exact ⟨.bl r, H', I', rfl, q⟩
theorem op_ownNe (c : DF X.prog X.w X.K X.mg X.base T k f 2 den) (hr : Room (k + 1) X.A) : OpR X (compareOp .NotEq) (rOwn T X.K f den true) := by
  intro pins s σ H x y v u Q I rx ry h
  obtain ⟨a, b, C, C', dx, dy, gs, hs, rfl, rfl, ha, hb, oc, nf, h⟩ := h
  cases rx
  cases ry
  obtain ⟨mA, J, _⟩ := ins_get I.hok ha
  obtain ⟨mB, J', _⟩ := ins_get I.hok hb
  obtain ⟨od, J, _⟩ := J.look
  obtain ⟨od', J', _⟩ := J'.look
  show wpAny (model X.prog X.w) X.A (richCompare .NotEq (.ref a) (.ref b)) (EP X pins σ Q) X.xe s
  refine OwnNe.cmp_ne (tb := .ref C') hr.in1.units0 I.kIn J J'.type nf oc.ne oc.mro oc.eq oc.fn (wpAny_mono (eq_call c hr.in1 rfl I h) (fun w s' z => ?_) fun _ _ x => x)
  obtain ⟨z, H', I', rz, r, rfl, q⟩ := z
  cases rz
  exact ⟨r, rfl, .bl (!r), H', I', rfl, q⟩
/-! ### their denotations -/
def isOb : D → Option Nat
  | .obj c _ => some c
  | _ => none
def outB (neg : Bool) : Out D → Out D
  | .ok (.bl r) cs => .ok (.bl (if neg then !r else r)) cs
  | _ => .no
def ownD (CS : List Nat) (den : FDen) (neg : Bool) (x y : D) (cs : List Cell) : Out D := match isOb x, isOb y with
  | some c, some c' => if c ∈ CS ∧ c' ∈ CS then outB neg (den [x, y] cs) else .no
  | _, _ => .no
theorem hk_own {K : PySem.W.Frag} {CS : List Nat} {neg : Bool} (S : OwnS T K f CS) : Hk2 T K (rOwn T K f den neg) (ownD CS den neg) := by
  intro I m cs H x y v u Q E sr rx ry h
  unfold ownD at h
  cases x with
  | obj c xs =>
    cases y with
    | obj c' ys =>
      simp only [isOb] at h
      split at h
      · rename_i hc
        have rx' := rx
        have ry' := ry
        unfold Rp at rx' ry'
        obtain ⟨a, dx, gs, rfl, ea, _, _⟩ := rx'
        obtain ⟨b, dy, hs, rfl, eb, _, _⟩ := ry'
        refine ⟨a, b, _, _, dx, dy, gs, hs, rfl, rfl, sr.same _ _ ea, sr.same _ _ eb, S.1 c hc.1, S.2 c hc.1 c' hc.2, I, m, cs, _, _, sr, rx, ry, ?_⟩
        unfold outB at h
        cases hd : den [.obj c xs, .obj c' ys] cs with
        | ok d cs1 =>
          rw [hd] at h
          cases d with
          | bl r =>
            intro v H' I' m' s p sr' r'
            have e := rp_bl.mp r'
            subst e
            exact ⟨r, rfl, h (.bl (if neg then !r else r)) H' I' m' s p sr' (rp_bl.mpr rfl)⟩
          | _ => exact h.elim
        | exn => rw [hd] at h; exact h.elim
        | no => rw [hd] at h; exact h.elim
      · exact h.elim
    | _ => exact h.elim
  | _ => exact h.elim
variable {a b e : Expr} {g h : Den D} {pos : Pos}
theorem dc_ownEq {CS : List Nat} {j : Nat} (c : DF X.prog X.w X.K X.mg X.base T k f 2 den) (S : OwnS T X.K f CS) (hr : Room j X.A) (hk : k ≤ j := by decide) (ha : DE X T W a g) (hb : DE X T W b h) : DC X T W .Eq a b (d2 g h (ownD CS den false)) :=
  dc_op (op_ownEq c (hr.mono hk)) (hk_own S) ha hb
theorem dc_ownNe {CS : List Nat} {j : Nat} (c : DF X.prog X.w X.K X.mg X.base T k f 2 den) (S : OwnS T X.K f CS) (hr : Room j X.A) (hk : k + 1 ≤ j := by decide) (ha : DE X T W a g) (hb : DE X T W b h) : DC X T W .NotEq a b (d2 g h (ownD CS den true)) :=
  dc_op (op_ownNe c (hr.mono hk)) (hk_own S) ha hb
/-! ### == of tuples that hold such objects: only where it is True -/
/-- the own == says True of two frozen objects -/
def OwnT (CS : List Nat) (den : FDen) (x y : D) : Prop := (∃ c c', isOb x = some c ∧ isOb y = some c' ∧ c ∈ CS ∧ c' ∈ CS) ∧ D.lt 0 x = true ∧ D.lt 0 y = true ∧ ∃ cs', den [x, y] [] = .ok (.bl true) cs'
def DOwn (T : Tab) (K : PySem.W.Frag) (f : Addr) (CS : List Nat) (den : FDen) : Eqv := fun v u H => ∃ a b C C' dx dy gs hs, v = .ref a ∧ u = .ref b ∧ H a = some (.ins C dx gs) ∧ H b = some (.ins C' dy hs) ∧ OwnC K f C ∧ PySem.W.notFirst K C (.ref C') = true ∧
  ∃ x y, Rp T K H [] x v ∧ Rp T K H [] y u ∧ ∃ cs', den [x, y] [] = .ok (.bl true) cs'
theorem mon_own {K : PySem.W.Frag} {CS : List Nat} : Mon (DOwn T K f CS den) := by
  intro v u H H' e h
  obtain ⟨a, b, C, C', dx, dy, gs, hs, rfl, rfl, ha, hb, oc, nf, x, y, rx, ry, q⟩ := h
  exact ⟨a, b, C, C', dx, dy, gs, hs, rfl, rfl, e _ _ ha, e _ _ hb, oc, nf, x, y, Rp.mono (fun b u z => e b u z) (List.prefix_refl _) rx, Rp.mono (fun b u z => e b u z) (List.prefix_refl _) ry, q⟩
theorem sr_all {K : PySem.W.Frag} {H : Hp} (htb : T.tb = []) : SR T K H [] [] H := ⟨fun _ _ e => e, rfl, fun n c e => by simp at e, fun n n' c c' a e => by simp at e, (by rw [htb]; exact fun _ h => nomatch h), fun h => absurd htb h⟩
theorem rcG_own {CS : List Nat} (htb : T.tb = []) (c : DF X.prog X.w X.K X.mg X.base T k f 2 den) : RcG X k (DOwn T X.K f CS den) := by
  intro A pins s σ H v u w z sb I rv ru h
  obtain ⟨a, b, C, C', dx, dy, gs, hs, rfl, rfl, ha, hb, oc, nf, x, y, rx, ry, cs', q⟩ := h
  cases rv
  cases ru
  obtain ⟨mA, J, _⟩ := ins_get I.hok ha
  obtain ⟨mB, J', _⟩ := ins_get I.hok hb
  obtain ⟨od, J, _⟩ := J.look
  obtain ⟨od', J', _⟩ := J'.look
  obtain ⟨m, hF⟩ := I.fr
  refine PySem.W.cmp_K (op := .Eq) (tb := .ref C') sb.room.units0 hF I.ok.mod.kin J J'.type nf oc.eq oc.fn (wpAny_mono (eq_call (Q := fun z H' => z = .bl true ∧ Ext H H') c sb.room sb.fr I ⟨H, [], [], x, y, sr_all htb, rx, ry, ?_⟩) (fun w s' z => ?_) fun _ _ x => x)
  · rw [q]
    intro v H' I' m' s p sr' r'
    exact ⟨rp_bl.mp r', fun b u z => sr'.same _ _ (s _ _ z)⟩
  · obtain ⟨z, H', I', rz, rfl, e⟩ := z
    cases rz
    exact ⟨rfl, H', I', e⟩
def scal : D → Bool
  | .non => true
  | .bl _ => true
  | .int _ => true
  | .str _ => true
  | _ => false
/-- equal in depth n: the same scalar, own, or tuples item by item -/
def EqN (CS : List Nat) (den : FDen) : Nat → D → D → Prop
  | 0, x, y => OwnT CS den x y ∨ (scal x = true ∧ x = y)
  | n + 1, x, y => EqN CS den n x y ∨ ∃ xs ys, x = .tup xs ∧ y = .tup ys ∧ xs.length = ys.length ∧ ∀ (i : Nat) (p q : D), xs[i]? = some p → ys[i]? = some q → EqN CS den n p q
def DN (T : Tab) (K : PySem.W.Frag) (f : Addr) (CS : List Nat) (den : FDen) : Nat → Eqv
  | 0 => fun v u H => DOwn T K f CS den v u H ∨ DFlat v u H
  | n + 1 => fun v u H => DN T K f CS den n v u H ∨ DTup K (DN T K f CS den n) v u H
theorem mon_dn {K : PySem.W.Frag} {CS : List Nat} : ∀ n, Mon (DN T K f CS den n)
  | 0 => mon_own.or mon_flat
  | n + 1 => (mon_dn n).or (mon_tup (mon_dn n))
theorem eqG_dn {CS : List Nat} (htb : T.tb = []) (c : DF X.prog X.w X.K X.mg X.base T k f 2 den) : ∀ n, EqG X (k + n) (DN T X.K f CS den n)
  | 0 => ((rcG_own htb c).eqG fun _ _ _ d => let ⟨a, b, _, _, _, _, _, _, hx, hy, _⟩ := d; ⟨a, b, hx, hy⟩).or (eqG_flat.mono (Nat.zero_le _))
  | n + 1 => ((eqG_dn htb c n).mono (by omega)).or (eqG_tup (mon_dn n) (eqG_dn htb c n))
theorem scal_ok {K : PySem.W.Frag} {I : Hp} {m : List Addr} {x : D} {v u : V} (h : scal x = true) (r : Rp T K I m x v) (r2 : Rp T K I m x u) (H : Hp) : DFlat v u H := by
  cases x with
  | non => rw [rp_non.mp r, rp_non.mp r2]; exact ⟨rfl, rfl, by simp [eqV]⟩
  | bl b => rw [rp_bl.mp r, rp_bl.mp r2]; exact ⟨rfl, rfl, by simp [eqV]⟩
  | int b => rw [rp_int.mp r, rp_int.mp r2]; exact ⟨rfl, rfl, by simp [eqV]⟩
  | str b => rw [rp_str.mp r, rp_str.mp r2]; exact ⟨rfl, rfl, by simp [eqV]⟩
  | _ => cases h
theorem eqN_ok {K : PySem.W.Frag} {CS : List Nat} (S : OwnS T K f CS) {I H : Hp} {m : List Addr} {cs : List Cell} (sr : SR T K I m cs H) : ∀ (n : Nat) (x y : D) (v u : V), Rp T K I m x v → Rp T K I m y u → EqN CS den n x y → DN T K f CS den n v u H
  | 0, x, y, v, u, rx, ry, h => by
    rcases h with ⟨⟨c, c', e1, e2, h1, h2⟩, l1, l2, q⟩ | ⟨h, e⟩
    · left
      have rx0 := Rp.mono sr.same (List.prefix_refl _) (Rp.cut l1 rx)
      have ry0 := Rp.mono sr.same (List.prefix_refl _) (Rp.cut l2 ry)
      rw [List.take_zero] at rx0 ry0
      cases x with
      | obj cx xs =>
        cases y with
        | obj cy ys =>
          cases e1; cases e2
          have rx' := rx
          have ry' := ry
          unfold Rp at rx' ry'
          obtain ⟨a, dx, gs, rfl, ea, _, _⟩ := rx'
          obtain ⟨b, dy, hs, rfl, eb, _, _⟩ := ry'
          exact ⟨a, b, _, _, dx, dy, gs, hs, rfl, rfl, sr.same _ _ ea, sr.same _ _ eb, S.1 _ h1, S.2 _ h1 _ h2, _, _, rx0, ry0, q⟩
        | _ => cases e2
      | _ => cases e1
    · subst e
      exact .inr (scal_ok h rx ry H)
  | n + 1, x, y, v, u, rx, ry, h => by
    rcases h with h | ⟨xs, ys, rfl, rfl, hl, h⟩
    · exact .inl (eqN_ok S sr n x y v u rx ry h)
    · right
      obtain ⟨a, vs, rfl, q1, r1⟩ := rp_tup.mp rx
      obtain ⟨b, us, rfl, q2, r2⟩ := rp_tup.mp ry
      refine ⟨a, b, vs, us, rfl, rfl, SqT.same sr.same q1, SqT.same sr.same q2, by rw [← r1.length, ← r2.length]; exact hl, fun i w z hw hz => ?_⟩
      obtain ⟨p, hp, rp⟩ := r1.getV hw
      obtain ⟨q, hq, rq⟩ := r2.getV hz
      exact eqN_ok S sr n p q w z rp rq (h i p q hp hq)
theorem SR.extH {K : PySem.W.Frag} {I H H' : Hp} {m : List Addr} {cs : List Cell} (s : SR T K I m cs H) (e : Ext H H') : SR T K I m cs H' :=
  ⟨fun b u z => e _ _ (s.same _ _ z), s.len, fun n c z l => let ⟨a, o, h1, h2, h3, h4⟩ := s.at_ n c z l; ⟨a, o, h1, h2, e _ _ h3, h4⟩, s.inj, s.tabs.ext e, s.ntb⟩
/-- tuples, True alone -/
def eqOT (CS : List Nat) (den : FDen) (n : Nat) (x y : D) (cs : List Cell) : Out D := if (∃ xs ys, x = .tup xs ∧ y = .tup ys ∧ xs.length = ys.length ∧ ∀ (i : Nat) (p q : D), xs[i]? = some p → ys[i]? = some q → EqN CS den n p q) then .ok (.bl true) cs else .no
theorem hk_eqOT {K : PySem.W.Frag} {CS : List Nat} {n : Nat} (S : OwnS T K f CS) : Hk2 T K (rEqG (DTup K (DN T K f CS den n))) (eqOT CS den n) := by
  intro I m cs H x y v u Q E sr rx ry h
  unfold eqOT at h
  split at h
  · rename_i hq
    obtain ⟨xs, ys, rfl, rfl, hl, hp⟩ := hq
    obtain ⟨a, vs, rfl, q1, r1⟩ := rp_tup.mp rx
    obtain ⟨b, us, rfl, q2, r2⟩ := rp_tup.mp ry
    refine ⟨⟨a, b, vs, us, rfl, rfl, SqT.same sr.same q1, SqT.same sr.same q2, by rw [← r1.length, ← r2.length]; exact hl, fun i w z hw hz => ?_⟩, fun H' e => ?_⟩
    · obtain ⟨p, hp1, rp⟩ := r1.getV hw
      obtain ⟨q, hq1, rq⟩ := r2.getV hz
      exact eqN_ok S sr n p q w z rp rq (hp i p q hp1 hq1)
    · exact h (.bl true) H' I m (Same.refl I) (List.prefix_refl _) (sr.extH e) (rp_bl.mpr rfl)
  · exact h.elim
theorem dc_eqOT {CS : List Nat} {j n : Nat} (c : DF X.prog X.w X.K X.mg X.base T k f 2 den) (S : OwnS T X.K f CS) (hr : Room j X.A) (hk : k + n + 1 ≤ j := by decide) (ha : DE X T W a g) (hb : DE X T W b h) (htb : T.tb = [] := by rfl) : DC X T W .Eq a b (d2 g h (eqOT CS den n)) :=
  dc_op (op_eqG (rcG_tup (mon_dn n) (eqG_dn htb c n)) (hr.mono hk)) (hk_eqOT S) ha hb
/-! ### the own + of two objects of one class -/
def rBin (T : Tab) (K : PySem.W.Frag) (C : Addr) (den : FDen) : R2 := fun x y H Q => ∃ a b dx dy gs hs, x = .ref a ∧ y = .ref b ∧ H a = some (.ins C dx gs) ∧ H b = some (.ins C dy hs) ∧
  ∃ I m cs d1 d2, SR T K I m cs H ∧ Rp T K I m d1 x ∧ Rp T K I m d2 y ∧ OutG T K (RD T K) I m (den [d1, d2] cs) (fun v H' => ∃ r, v = .ref r ∧ Q (.ref r) H') (fun _ _ _ => False)
theorem op_ownAdd {C : Addr} (c : DF X.prog X.w X.K X.mg X.base T k f 2 den) (hr : Room k X.A) (sf : PySem.W.selfFirst X.K C = true) (hm : Meth X.K C "__add__" f) : OpR X (binaryOp .Add) (rBin T X.K C den) := by
  intro pins s σ H x y v u Q I rx ry h
  obtain ⟨a, b, dx, dy, gs, hs, rfl, rfl, ha, hb, h⟩ := h
  cases rx
  cases ry
  obtain ⟨mA, J, _⟩ := ins_get I.hok ha
  obtain ⟨mB, J', _⟩ := ins_get I.hok hb
  obtain ⟨od, J, _⟩ := J.look
  obtain ⟨od', J', _⟩ := J'.look
  obtain ⟨m, hF⟩ := I.fr
  refine PySem.W.binop_K (op := .Add) hF I.ok.mod.kin J J'.type sf hm.at_ hm.fn (wpAny_mono (eq_call c hr rfl I h) (fun w s' z => ?_) fun _ _ x => x)
  obtain ⟨z, H', I', rz, r, rfl, q⟩ := z
  cases rz
  exact ⟨.ref r, H', I', rfl, q⟩
def ownAddD (C : Nat) (den : FDen) (x y : D) (cs : List Cell) : Out D := if isOb x = some C ∧ isOb y = some C then (match den [x, y] cs with
  | .ok (.obj c fs) cs => .ok (.obj c fs) cs
  | _ => .no) else .no
theorem hk_ownAdd {K : PySem.W.Frag} {C : Nat} : Hk2 T K (rBin T K (T.ca C) den) (ownAddD C den) := by
  intro I m cs H x y v u Q E sr rx ry h
  unfold ownAddD at h
  split at h
  · rename_i hc
    cases x with
    | obj cx xs =>
      cases y with
      | obj cy ys =>
        obtain ⟨e1, e2⟩ := hc
        cases e1; cases e2
        have rx' := rx
        have ry' := ry
        unfold Rp at rx' ry'
        obtain ⟨a, dx, gs, rfl, ea, _, _⟩ := rx'
        obtain ⟨b, dy, hs, rfl, eb, _, _⟩ := ry'
        refine ⟨a, b, dx, dy, gs, hs, rfl, rfl, sr.same _ _ ea, sr.same _ _ eb, I, m, cs, _, _, sr, rx, ry, ?_⟩
        cases hd : den [.obj C xs, .obj C ys] cs with
        | ok d cs1 =>
          rw [hd] at h
          cases d with
          | obj c fs =>
            intro v H' I' m' s p sr' r'
            have r2 := r'
            unfold RD Rp at r2
            obtain ⟨a2, _, _, rfl, _⟩ := r2
            exact ⟨a2, rfl, h (.ref a2) H' I' m' s p sr' r'⟩
          | _ => exact h.elim
        | exn => rw [hd] at h; exact h.elim
        | no => rw [hd] at h; exact h.elim
      | _ => cases hc.2
    | _ => cases hc.1
  · exact h.elim
theorem de_ownAdd {C j : Nat} (c : DF X.prog X.w X.K X.mg X.base T k f 2 den) (hr : Room j X.A) (sf : PySem.W.selfFirst X.K (T.ca C) = true) (hm : Meth X.K (T.ca C) "__add__" f) (ha : DE X T W a g) (hb : DE X T W b h) (hk : k ≤ j := by decide) : DE X T W (.BinOp a .Add b pos) (d2 g h (ownAddD C den)) :=
  de_op (op_ownAdd c (hr.mono hk) sf hm) hk_ownAdd ha hb
end
section
variable {X : Cx} {T : Tab} {W : WX} {a b : Expr} {g h : Den D} {pos : Pos}
/-! ### == with the empty tuple -/
def rEqE (K : PySem.W.Frag) : R2 := fun x y H Q => ∃ a b xs, x = .ref a ∧ y = .ref b ∧ SqT K H a xs ∧ SqT K H b [] ∧ Q (.bl (xs.length == 0)) H
theorem op_eqE (hu : X.A.units < cLine) : OpR X (compareOp .Eq) (rEqE X.K) := by
  intro pins s σ H x y v u Q I rx ry h
  obtain ⟨a, b, xs, rfl, rfl, ha, hb, q⟩ := h
  cases rx
  cases ry
  obtain ⟨its, r1, t1, _⟩ := I.tuple ha
  obtain ⟨its2, r2, t2, _⟩ := I.tuple hb
  cases r2
  refine SeqAt.eq_tupleAt (e := fun _ => true) t1 t2 hu (fun j h1 h2 => by simp at h2) ⟨.bl (xs.length == 0), H, I, ?_, q⟩
  have e := r1.length
  simp [e]
  rfl
def eqE (x y : D) (cs : List Cell) : Out D := match x, y with
  | .tup xs, .tup [] => .ok (.bl (xs.length == 0)) cs
  | _, _ => .no
theorem hk_eqE {K : PySem.W.Frag} : Hk2 T K (rEqE K) eqE := by
  intro I m cs H x y v u Q E sr rx ry h
  unfold eqE at h
  split at h
  · rename_i xs
    obtain ⟨a, vs, rfl, q1, r1⟩ := rp_tup.mp rx
    obtain ⟨b, us, rfl, q2, r2⟩ := rp_tup.mp ry
    have e := r2.inil
    subst e
    exact ⟨a, b, vs, rfl, rfl, SqT.same sr.same q1, SqT.same sr.same q2, by rw [← r1.length]; exact h.okI sr (rp_bl.mpr rfl)⟩
  · exact h.elim
theorem dc_eqE {j : Nat} (hr : Room j X.A) (ha : DE X T W a g) (hb : DE X T W b h) : DC X T W .Eq a b (d2 g h eqE) :=
  dc_op (op_eqE (hr.mono (Nat.zero_le _)).units0) hk_eqE ha hb
theorem hu_of {j : Nat} (hr : Room j X.A) (hk : 1 ≤ j := by decide) : X.A.units + 1 < cLine := (hr.mono hk).in1.units0
end
section
variable {fa : List He.Fa} {fn : List He.DefD} {fb : List Fb} {K : PySem.W.Frag} {mg : PySem.Str → Option Value}
theorem Kn.own (z : Kn fa fn fb K mg) (i : Nat) {x : PySem.Str} {p : PySem.Str × Option PySem.Str} (h : fb[i]? = some (.own x p) := by rfl) : OwnC K (He.fAd K p) (He.ga K x) := by
  obtain ⟨h1, h2⟩ := He.ba (z.fb_ i h)
  obtain ⟨h3, h4⟩ := He.ba h2
  obtain ⟨h5, h6⟩ := He.ba h4
  exact ⟨He.eqO_ok h1, He.eqO_ok h3, h5, of_decide_eq_true h6⟩
theorem Kn.nf (z : Kn fa fn fb K mg) (i : Nat) {x y : PySem.Str} (h : fb[i]? = some (.nf x y) := by rfl) : PySem.W.notFirst K (He.ga K x) (.ref (He.ga K y)) = true := z.fb_ i h
theorem Kn.slf (z : Kn fa fn fb K mg) (i : Nat) {x : PySem.Str} (h : fb[i]? = some (.slf x) := by rfl) : PySem.W.selfFirst K (He.ga K x) = true := z.fb_ i h
end
end
end DL
end

section
set_option Elab.async false
set_option linter.all false
set_option maxRecDepth 100000
set_option maxHeartbeats 4000000
/-! DL20: several except clauses, each with or without a name; raise C(e, ..). -/
namespace DL
open PySem PySem.Spec PyProof.Rows L2
/-- what the clauses wish: class, the name's slot, the suite -/
abbrev Cl : Type := Value × Option Nat × (Addr → Value → Option Addr → TS)
def wCl (K : PySem.W.Frag) (Wout : WX) (D : Ends) : List Cl → WX
  | [] => Wout
  | (c, some i, ts) :: r => fun cls d σ H => ∃ b, PySem.W.exmOne K cls c = some b ∧
      (b = true → ∀ a, H a = none → ts a cls d { nx := fun σ' H' => D.nx (σ'.set i none) H', rt := D.rt, bk := fun σ' H' => D.bk (σ'.set i none) H', ct := fun σ' H' => D.ct (σ'.set i none) H' } (σ.set i (some (.ref a))) H) ∧ (b = false → wCl K Wout D r cls d σ H)
  | (c, none, ts) :: r => fun cls d σ H => ∃ b, PySem.W.exmOne K cls c = some b ∧ (b = true → ∀ a, H a = none → ts a cls d D σ H) ∧ (b = false → wCl K Wout D r cls d σ H)
inductive HdA (X : Cx) : List ExceptHandler → List Cl → Prop
  | nil : HdA X [] []
  | cons {x : PySem.Str} {c : Value} {ts : Addr → Value → Option Addr → TS} {b₀ : Stmt} {suite : List Stmt} {np pos' : Pos} {hds : List ExceptHandler} {l : List Cl} (hc : Names X x c)
      (hsu : ∀ (a : Addr) (oe : Obj) (cls : Value) (d : Option Addr) (pn : List (Addr × Obj)), Zc cls d oe → (∃ vs, oe.data = .fields vs) → PSs (X.suite a ((a, oe) :: pn)) (b₀ :: suite) (ts a cls d)) (r : HdA X hds l) :
      HdA X (.ExceptHandler (some (.Name x np)) none (b₀ :: suite) pos' :: hds) ((c, none, ts) :: l)
  | consA {x n : PySem.Str} {i : Nat} {c : Value} {ts : Addr → Value → Option Addr → TS} {b₀ : Stmt} {suite : List Stmt} {np pos' : Pos} {hds : List ExceptHandler} {l : List Cl} (hi : X.N[i]? = some n) (hln : X.env.kindOf n = some .local) (hc : Names X x c)
      (hsu : ∀ (a : Addr) (oe : Obj) (cls : Value) (d : Option Addr) (pn : List (Addr × Obj)), Zc cls d oe → (∃ vs, oe.data = .fields vs) → PSs (X.suite a ((a, oe) :: pn)) (b₀ :: suite) (ts a cls d)) (r : HdA X hds l) :
      HdA X (.ExceptHandler (some (.Name x np)) (some n) (b₀ :: suite) pos' :: hds) ((c, some i, ts) :: l)
section
variable {X : Cx} {body : List Stmt} {h₀ : ExceptHandler} {hds : List ExceptHandler} {l : List Cl} {pos : Pos} {tb : WX → TS} {Wout : WX}
theorem ps_tryA (hs : X.stack = X.env :: X.outer) (hf : X.env.frame = some X.env.locals) (hN : X.N.Nodup) (tk : Takes X Wout)
    (hb : ∀ (W : WX) (pn : List (Addr × Obj)) (xe : Value → Shared → Prop), Takes (X.tr pn xe) W → PassesOwn (model X.prog X.w) X.A X.env xe → PSs (X.tr pn xe) body (tb W))
    (hh : HdA X (h₀ :: hds) l) : PS X (.Try body (h₀ :: hds) [] [] pos) (fun D σ H => tb (wCl X.K Wout D l) D σ H) := by
  refine ⟨fun pins s σ H D I h => ?_⟩
  have ok := I.ok
  have hfr : X.A.frames = some (X.env :: X.outer) := by rw [ok.frames, hs]
  refine wpAny_Try_except ?_
  refine wpAny_mono ((hb (wCl X.K Wout D l) (X.pn ++ pins) (fun e s₁ => wpAny (model X.prog X.w) X.A (noteFrame e X.env) (fun _ s₂ => wpAny (model X.prog X.w) X.A (setFlight e none) (fun _ s₃ =>
    wpAny (model X.prog X.w) X.A (handleBy e X.env (h₀ :: hds)) (SP X pins D) X.xe s₃) X.xe s₂) X.xe s₁) (fun u s' xx => ?_) PassesOwn.looking).run [] s σ H D (I.toTry _) h) (fun f s1 hsp => ?_) (fun e s1 he => he)
  · obtain ⟨a, B, sI, pins', σ', H', cls, d, rfl, J', nb, up, sky, na, os, ag, w⟩ := xx
    have J : Inv X pins σ' H' sI := J'.ofTry ok
    have sky' : Sky B (X.env :: X.outer) a (Zc cls d) X.env.locals s'.heap := by rw [← hs]; exact sky
    show wpAny _ X.A (noteFrame (.ref a) X.env) _ _ _
    refine Sky.land Zc.steady hfr hf sky' fun h3 fl3 up3 => ?_
    have J3 : Inv X pins σ' H' { s' with heap := h3 } := J.landed nb fl3.1 (up.trans up3) os ag
    obtain ⟨oe3, vs3, he3, hz3, hd3⟩ := fl3.there
    have notFr : ∀ {h : Heap} {o : Obj} {vs : Array Value}, h.FunFrames B (X.env :: X.outer) → h.get? a = some o → o.data = .fields vs → a ∉ frs (X.env :: X.outer) := fun {h o vs} ff e dd hm => by
      obtain ⟨_, o', e', hnf⟩ := ff.mem hm
      rw [e] at e'; cases e'
      exact hnf _ dd
    have nfr := notFr fl3.2.2.1 he3 hd3
    have nL : a ≠ X.env.locals := fun z => nfr (List.mem_filterMap.mpr ⟨X.env, List.mem_cons_self, by rw [hf, z]⟩)
    have nF : a ∉ X.fs := fun hm => by
      obtain ⟨e, he, q⟩ := List.mem_filterMap.mp hm
      exact nfr (List.mem_filterMap.mpr ⟨e, List.mem_cons_of_mem _ he, q⟩)
    have S3 := J3.suite he3 hd3 na nL nF
    have go : ∀ {hds' : List ExceptHandler} {l' : List Cl}, HdA X hds' l' → wCl X.K Wout D l' cls d σ' H' →
        wpAny (model X.prog X.w) X.A (handleBy (.ref a) X.env hds') (SP X pins D) X.xe { s' with heap := h3 } := by
      intro hds' l' hk
      induction hk with
      | nil =>
        intro w
        refine wpAny_handleBy_nil ?_
        obtain ⟨k1, k2, k3, oe, vs, T, oT, ts', he, hz, hd, h1, hr⟩ := id fl3
        unfold PySem.passOn
        refine wpAny_bind (wpAny_field he hd h1 ?_)
        rw [if_neg (show ¬ ((Value.ref T == Value.none) = true) from by simp)]
        have fin : wpAny (model X.prog X.w) X.A (setFlight (.ref a) X.env.frame) (fun _ s4 => wpAny (model X.prog X.w) X.A (throw (.ref a) : Sem Flow) (SP X pins D) X.xe s4) X.xe { s' with heap := h3 } := by
          rw [hf]
          refine HandSPX.setFlight_upZ fl3 fun h4 hh4 up4 => wpAny_throw (tk _ _ ?_)
          exact ⟨a, B, sI, pins, σ', H', cls, d, rfl, J, nb, (up.trans up3).trans up4, .inr (.inr (by rw [hs]; exact hh4)), na, os, ag, w⟩
        first
          | exact wpAny_bind (wpAny_pure (wpAny_bind fin))
          | exact wpAny_bind fin
      | @cons x c ts b₀ suite np pos' hds2 l2 hc hsu r ih =>
        intro w
        obtain ⟨b, hb1, hyes, hno⟩ := w
        refine wpAny_handleBy_cons (codeAny_handlers_test ?_) (by intro q; cases q)
        have LT : PySem.W.Looks (model X.prog X.w) h3 (typeOf (.ref a)) cls := fun A Q E s k q => wpAny_typeOf_ref (k _ _ he3) (by rw [hz3.1]; exact q)
        have LM := PySem.W.exm_one (M := model X.prog X.w) (J3.kIn) LT hb1
        have test : ∀ {Q : Value → Shared → Prop} {E : Value → Shared → Prop}, Q c { s' with heap := h3 } → wpAny (model X.prog X.w) (X.A.mark (some (.ref a))) (eval (.Name x np) X.env) Q E { s' with heap := h3 } := fun {Q E} q => by
          obtain ⟨hg, hdbg, hm | ⟨hm, hv, hnn⟩⟩ := hc
          · exact ld_glob (X := X.suite a ((a, oe3) :: (X.pn ++ pins))) S3 hg hm q hdbg
          · exact ld_blt (X := X.suite a ((a, oe3) :: (X.pn ++ pins))) S3 hg hm hv q hnn hdbg
        refine test (LM.here ?_)
        cases b with
        | true =>
          refine codeAny_handlers_suite ?_
          refine HandSPX.lands_againZ fl3 fun h4 fl4 up4 => ?_
          have J4 : Inv X pins σ' H' { s' with heap := h4 } := J.landed nb fl4.1 ((up.trans up3).trans up4) os ag
          obtain ⟨oe4, vs4, he4, hz4, hd4⟩ := fl4.there
          have S4 := J4.suite he4 hd4 na nL nF
          refine wpAny_mono ((hsu a oe4 cls d (X.pn ++ pins) hz4 ⟨_, hd4⟩).run [] _ _ H' _ S4 (hyes rfl a na)) (fun f s6 hsp => ?_) (fun _ _ z => False.elim z)
          cases f with
          | next =>
            obtain ⟨σ6, H6, S6, q6⟩ := hsp
            exact ⟨_, _, S6.unsuite ok, q6⟩
          | brk =>
            obtain ⟨σ6, H6, S6, q6⟩ := hsp
            exact ⟨_, _, S6.unsuite ok, q6⟩
          | cont =>
            obtain ⟨σ6, H6, S6, q6⟩ := hsp
            exact ⟨_, _, S6.unsuite ok, q6⟩
          | ret u =>
            obtain ⟨v6, σ6, H6, S6, r6, q6⟩ := hsp
            exact ⟨_, _, _, S6.unsuite ok, r6, q6⟩
        | false =>
          show wpAny _ X.A (handleBy (.ref a) X.env hds2) _ _ _
          exact ih (hno rfl)
      | @consA x n i c ts b₀ suite np pos' hds2 l2 hi hln hc hsu r ih =>
        intro w
        obtain ⟨b, hb1, hyes, hno⟩ := w
        have hloc : Loc X.env.scope n := .inl hln
        refine wpAny_handleBy_cons (codeAny_handlers_test ?_) (by intro q; cases q)
        have LT : PySem.W.Looks (model X.prog X.w) h3 (typeOf (.ref a)) cls := fun A Q E s k q => wpAny_typeOf_ref (k _ _ he3) (by rw [hz3.1]; exact q)
        have LM := PySem.W.exm_one (M := model X.prog X.w) (J3.kIn) LT hb1
        have test : ∀ {Q : Value → Shared → Prop} {E : Value → Shared → Prop}, Q c { s' with heap := h3 } → wpAny (model X.prog X.w) (X.A.mark (some (.ref a))) (eval (.Name x np) X.env) Q E { s' with heap := h3 } := fun {Q E} q => by
          obtain ⟨hg, hdbg, hm | ⟨hm, hv, hnn⟩⟩ := hc
          · exact ld_glob (X := X.suite a ((a, oe3) :: (X.pn ++ pins))) S3 hg hm q hdbg
          · exact ld_blt (X := X.suite a ((a, oe3) :: (X.pn ++ pins))) S3 hg hm hv q hnn hdbg
        refine test (LM.here ?_)
        cases b with
        | true =>
          refine codeAny_handlers_suite_as ?_
          refine HandSPX.lands_againZ fl3 fun h4 fl4 up4 => ?_
          have J4 : Inv X pins σ' H' { s' with heap := h4 } := J.landed nb fl4.1 ((up.trans up3).trans up4) os ag
          obtain ⟨oe4, vs4, he4, hz4, hd4⟩ := fl4.there
          have S4 := J4.suite he4 hd4 na nL nF
          refine store_ok (X := X.suite a ((a, oe4) :: (X.pn ++ pins))) (v := .ref a) S4 hN hi hloc rfl (fun s5 S5 => ?_) (.inr hln)
          refine wpAny_mono ((hsu a oe4 cls d (X.pn ++ pins) hz4 ⟨_, hd4⟩).run [] s5 _ H' _ S5 (hyes rfl a na)) (fun f s6 hsp => ?_) (fun _ _ z => False.elim z)
          have end_ : ∀ {σ6 : L2.St} {H6 : Hp} {Q : Shared → Prop}, Inv (X.suite a ((a, oe4) :: (X.pn ++ pins))) [] σ6 H6 s6 → (∀ s7, Inv X pins (σ6.set i none) H6 s7 → Q s7) →
              wpAny (model X.prog X.w) X.A (do bindName X.env n .none; unbindBehindTheSuite X.env n pos') (fun _ s7 => Q s7) X.xe s6 := fun {σ6 H6 Q} S6 hq => gone_ok (S6.unsuite ok) hN hi hln hq
          cases f with
          | next =>
            obtain ⟨σ6, H6, S6, q6⟩ := hsp
            exact end_ S6 fun s7 J7 => ⟨_, _, J7, q6⟩
          | brk =>
            obtain ⟨σ6, H6, S6, q6⟩ := hsp
            exact end_ S6 fun s7 J7 => ⟨_, _, J7, q6⟩
          | cont =>
            obtain ⟨σ6, H6, S6, q6⟩ := hsp
            exact end_ S6 fun s7 J7 => ⟨_, _, J7, q6⟩
          | ret u =>
            obtain ⟨v6, σ6, H6, S6, r6, q6⟩ := hsp
            exact end_ S6 fun s7 J7 => ⟨_, _, _, J7, r6, q6⟩
        | false =>
          show wpAny _ X.A (handleBy (.ref a) X.env hds2) _ _ _
          exact ih (hno rfl)
    exact go hh w
  · cases f with
    | next =>
      obtain ⟨σ', H', J', q⟩ := hsp
      exact wpAny_execs_nil ⟨σ', H', J'.ofTry ok, q⟩
    | brk =>
      obtain ⟨σ', H', J', q⟩ := hsp
      exact ⟨σ', H', J'.ofTry ok, q⟩
    | cont =>
      obtain ⟨σ', H', J', q⟩ := hsp
      exact ⟨σ', H', J'.ofTry ok, q⟩
    | ret u =>
      obtain ⟨v, σ', H', J', r, q⟩ := hsp
      exact ⟨v, σ', H', J'.ofTry ok, r, q⟩
end
end DL
end

section
set_option Elab.async false
set_option linter.all false
set_option maxRecDepth 100000
set_option maxHeartbeats 4000000
/-! DL21: try, its clauses of one `return`; raise C(e, ..). -/
namespace DL
open PySem PySem.Spec PyProof.Rows L2
open Classical
noncomputable section
/-- a denotation that sees the caught exception: class, keys, fields -/
abbrev XDen (α : Type) := Nat → List Nat → List D → Den α
def tX {α β : Type} (T : Tab) (K : PySem.W.Frag) (a : Addr) (cls : Value) (od : Option Addr) (i : Option Nat) (R : Hp → List Addr → α → β → Prop) (f : XDen α) : L2.St → Hp → (β → Hp → Prop) → Prop := fun σ H Q =>
  ∃ c ks fs I m cs env, ER T K I m env σ ∧ SR T K I m cs H ∧ ExR T K I m c ks fs cls od ∧ (∀ j, i = some j → σ[j]? = some (some (.ref a))) ∧ OutG T K R I m (f c ks fs env cs) Q (fun _ _ _ => False)
section
variable {X : Cx} {T : Tab} {a : Addr} {oe : Obj} {pn : List (Addr × Obj)} {cls : Value} {od : Option Addr} {i : Option Nat} {e : Expr} {es : List Expr} {pos p : Pos}
def DX (X : Cx) (T : Tab) (a : Addr) (oe : Obj) (pn : List (Addr × Obj)) (cls : Value) (od : Option Addr) (i : Option Nat) (e : Expr) (f : XDen D) : Prop := PE (X.suite a ((a, oe) :: pn)) e (tX T X.K a cls od i (RD T X.K) f)
def DXs (X : Cx) (T : Tab) (a : Addr) (oe : Obj) (pn : List (Addr × Obj)) (cls : Value) (od : Option Addr) (i : Option Nat) (es : List Expr) (f : XDen (List D)) : Prop := PA (X.suite a ((a, oe) :: pn)) es (tX T X.K a cls od i (RL T X.K) f)
theorem dx_of {f : Den D} (h : DE (X.suite a ((a, oe) :: pn)) T (fun _ _ _ _ => False) e f) : DX X T a oe pn cls od i e (fun _ _ _ => f) :=
  PE.imp h fun σ H Q ⟨_, _, _, I, m, cs, env, er, sr, _, _, h⟩ => ⟨I, m, cs, env, er, sr, h⟩
/-- e.k, e the clause's name -/
def xAt (C k : Nat) : XDen D := fun c ks fs _ cs => if c = C then (match atK k ks fs with
  | some d => .ok d cs
  | none => .no) else .no
theorem dx_attr {j k C : Nat} {n fn : PySem.Str} (inj : ∀ i j, T.nm i = T.nm j → i = j) (hf : T.nm k = fn) (xf : XfC X.K (T.ca C)) (hno : PySem.W.findIn X.K (.ref (T.ca C)) fn = some none) (hz : Zc cls od oe) (hfs : ∃ vs, oe.data = .fields vs)
    (hv : PE (X.suite a ((a, oe) :: pn)) (.Name n p) (tVar j)) (hb : attributeBase (.Name n p) fn X.env (eval (.Name n p) X.env) = eval (.Name n p) X.env := by rfl) :
    DX X T a oe pn cls od (some j) (.Attribute (.Name n p) fn pos) (xAt C k) := by
  subst hf
  refine PE.imp (pe_xf xf hno hz hfs hv hb) ?_
  rintro σ H Q ⟨c, ks, fs, I, m, cs, env, er, sr, xr, hs, h⟩
  refine ⟨.ref a, hs j rfl, rfl, ?_⟩
  unfold xAt at h
  by_cases hc : c = C
  · rw [if_pos hc] at h
    subst hc
    refine ⟨xr.1, ?_⟩
    rcases xr.2 with ⟨_, rfl, rfl⟩ | ⟨dd, gs, h1, h2, h3, h4⟩
    · simp [atK] at h
      exact h.elim
    · cases hk : atK k ks fs with
      | none => simp only [hk] at h; exact h.elim
      | some d =>
        simp only [hk] at h
        obtain ⟨mk, w, h5, h6⟩ := atK_ok inj h3 h4 hk
        exact ⟨dd, gs, w, h1, sr.same _ _ h2, h5, h.okI sr h6⟩
  · rw [if_neg hc] at h; exact h.elim
def xNil : XDen (List D) := fun _ _ _ _ cs => .ok [] cs
def xCons (f : XDen D) (g : XDen (List D)) : XDen (List D) := fun c ks fs env cs => (f c ks fs env cs).bind fun x cs => (g c ks fs env cs).bind fun xs cs => .ok (x :: xs) cs
theorem dxs_nil : DXs X T a oe pn cls od i [] xNil := PA.imp pa_nil fun σ H Q ⟨_, _, _, I, m, cs, env, er, sr, _, _, h⟩ => OutG.okI h sr RpL.nil
theorem dxs_cons {f : XDen D} {g : XDen (List D)} (ha : DX X T a oe pn cls od i e f) (hb : DXs X T a oe pn cls od i es g) (hs : starEach (e :: es) X.env = (false, eval e X.env) :: starEach es X.env := by rfl) : DXs X T a oe pn cls od i (e :: es) (xCons f g) := by
  refine PA.imp (pa_cons ha hb hs) ?_
  rintro σ H Q ⟨c, ks, fs, I, m, cs, env, er, sr, xr, hsl, h⟩
  refine ⟨c, ks, fs, I, m, cs, env, er, sr, xr, hsl, OutG.bindI h fun x cs1 v H1 I1 m1 s1 p1 sr1 r1 h1 => ?_⟩
  refine ⟨c, ks, fs, I1, m1, cs1, env, er.mono s1 p1, sr1, xr.mono s1 p1, hsl, OutG.bindI h1 fun y cs2 u H2 I2 m2 s2 p2 sr2 r2 h2 => ?_⟩
  exact h2.okI sr2 (RpL.cons (r1.mono s2 p2) r2)
def xTup (f : XDen (List D)) : XDen D := fun c ks fs env cs => (f c ks fs env cs).bind fun xs cs => if fits xs.length then .ok (.tup xs) cs else .no
theorem dx_tup {g : XDen (List D)} {j} (h : DXs X T a oe pn cls od i es g) : DX X T a oe pn cls od i (.Tuple es j pos) (xTup g) := by
  refine PE.imp (pe_tup h) ?_
  rintro σ H Q ⟨c, ks, fs, I, m, cs, env, er, sr, xr, hsl, h⟩
  refine ⟨c, ks, fs, I, m, cs, env, er, sr, xr, hsl, OutG.bindI h fun x cs1 v H1 I1 m1 s1 p1 sr1 r1 h1 => ?_⟩
  split at h1
  · rename_i hz
    exact ⟨by rw [← RpL.length r1]; exact hz, fun p hp => rp_newT sr1 hp r1 h1⟩
  · exact h1.elim
end
/-! ### the clauses -/
structure Hd where
  tbl : List (Nat × Bool)
  slot : Option Nat
  f : XDen D
def offE : Option Nat → Env → Env
  | some i, env => env.set i none
  | none, env => env
def slotOk : Option Nat → Env → Bool
  | some i, env => decide (i < env.length)
  | none, _ => true
def sHd : List Hd → Nat → List Nat → List D → SDen
  | [], c, ks, fs => fun env cs => .ex c ks fs env cs
  | h :: r, c, ks, fs => fun env cs => match h.tbl.lookup c with
    | some true => if slotOk h.slot env = true then (match h.f c ks fs (offE h.slot env) cs with
      | .ok d cs => .rt d cs
      | _ => .no) else .no
    | some false => sHd r c ks fs env cs
    | none => .no
def sTry (g : SDen) (hs : List Hd) : SDen := fun env cs => match g env cs with
  | .ex c ks fs env' cs' => sHd hs c ks fs env' cs'
  | o => o
/-- the table tells of each class whether the clause's class takes it -/
def TblOk (T : Tab) (K : PySem.W.Frag) (cv : Value) (tbl : List (Nat × Bool)) : Prop := ∀ p ∈ tbl, PySem.W.exmOne K (.ref (T.ca p.1)) cv = some p.2
theorem TblOk.nil {T : Tab} {K : PySem.W.Frag} {cv : Value} : TblOk T K cv [] := fun _ h => nomatch h
theorem TblOk.cons {T : Tab} {K : PySem.W.Frag} {cv : Value} {n : Nat} {b : Bool} {r : List (Nat × Bool)} (h : PySem.W.exmOne K (.ref (T.ca n)) cv = some b) (hr : TblOk T K cv r) : TblOk T K cv ((n, b) :: r) := fun p hp => by
  rcases List.mem_cons.mp hp with e | e
  · subst e; exact h
  · exact hr p e
inductive HdX (X : Cx) (T : Tab) : List ExceptHandler → List Hd → Prop
  | nil : HdX X T [] []
  | cons {x : PySem.Str} {cv : Value} {e : Expr} {p np pos' : Pos} {hds : List ExceptHandler} {l : List Hd} {tbl : List (Nat × Bool)} {f : XDen D} (hc : Names X x cv) (ht : TblOk T X.K cv tbl)
      (hsu : ∀ (a : Addr) (oe : Obj) (cls : Value) (d : Option Addr) (pn : List (Addr × Obj)), Zc cls d oe → (∃ vs, oe.data = .fields vs) → DX X T a oe pn cls d none e f) (r : HdX X T hds l) :
      HdX X T (.ExceptHandler (some (.Name x np)) none [.Return (some e) p] pos' :: hds) (⟨tbl, none, f⟩ :: l)
  | consA {x n : PySem.Str} {i : Nat} {cv : Value} {e : Expr} {p np pos' : Pos} {hds : List ExceptHandler} {l : List Hd} {tbl : List (Nat × Bool)} {f : XDen D} (hi : X.N[i]? = some n) (hln : X.env.kindOf n = some .local) (hc : Names X x cv) (ht : TblOk T X.K cv tbl)
      (hsu : ∀ (a : Addr) (oe : Obj) (cls : Value) (d : Option Addr) (pn : List (Addr × Obj)), Zc cls d oe → (∃ vs, oe.data = .fields vs) → DX X T a oe pn cls d (some i) e f) (r : HdX X T hds l) :
      HdX X T (.ExceptHandler (some (.Name x np)) (some n) [.Return (some e) p] pos' :: hds) (⟨tbl, some i, f⟩ :: l)
section
variable {X : Cx} {T : Tab} {W : WX} {pos : Pos}
theorem hd_all {hds : List ExceptHandler} {hs : List Hd} (h : HdX X T hds hs) : ∃ l : List Cl, HdA X hds l ∧
    ∀ (D : Ends) (c : Nat) (ks : List Nat) (fs : List DL.D) (env : Env) (cs : List Cell) (I : Hp) (m : List Addr) (cls : Value) (od : Option Addr) (σ : L2.St) (H : Hp), ER T X.K I m env σ → SR T X.K I m cs H → ExR T X.K I m c ks fs cls od →
      SOk T X.K W I m (sHd hs c ks fs env cs) D → wCl X.K W D l cls od σ H := by
  induction h with
  | nil =>
    refine ⟨[], .nil, fun D c ks fs env cs I m cls od σ H er sr xr h => ?_⟩
    exact h cls od σ H I m (Same.refl I) (List.prefix_refl _) sr er xr
  | @cons x cv e p np pos' hds l tbl f hc ht hsu r ih =>
    obtain ⟨l', hA, ih⟩ := ih
    refine ⟨(cv, none, fun a cls d => fun D σ H => tX T X.K a cls d none (RD T X.K) f σ H D.rt) :: l', .cons hc (fun a oe cls d pn hz hf => pss_one (ps_ret (hsu a oe cls d pn hz hf))) hA, ?_⟩
    intro D c ks fs env cs I m cls od σ H er sr xr h
    unfold sHd at h
    cases ht2 : tbl.lookup c with
    | none => simp only [ht2] at h; exact h.elim
    | some b =>
      have hex : PySem.W.exmOne X.K cls cv = some b := by
        rw [xr.1]
        exact ht (c, b) (mem_lk ht2)
      refine ⟨b, hex, fun hb a _ => ?_, fun hb => ?_⟩
      · subst hb
        simp only [ht2] at h
        refine ⟨c, ks, fs, I, m, cs, env, er, sr, xr, (fun j z => nomatch z), ?_⟩
        show OutG T X.K (RD T X.K) I m (f c ks fs env cs) D.rt _
        rw [if_pos (show slotOk none env = true from rfl)] at h
        change SOk T X.K W I m (match f c ks fs env cs with
          | .ok d cs => SO.rt d cs
          | _ => .no) D at h
        cases hf : f c ks fs env cs with
        | ok d cs1 =>
          rw [hf] at h
          exact fun v H' I' m' s p sr' r' => h v H' I' m' s p sr' r'
        | exn => rw [hf] at h; exact h.elim
        | no => rw [hf] at h; exact h.elim
      · subst hb
        simp only [ht2] at h
        exact ih D c ks fs env cs I m cls od σ H er sr xr h
  | @consA x n i cv e p np pos' hds l tbl f hi hln hc ht hsu r ih =>
    obtain ⟨l', hA, ih⟩ := ih
    refine ⟨(cv, some i, fun a cls d => fun D σ H => tX T X.K a cls d (some i) (RD T X.K) f σ H D.rt) :: l', .consA hi hln hc (fun a oe cls d pn hz hf => pss_one (ps_ret (hsu a oe cls d pn hz hf))) hA, ?_⟩
    intro D c ks fs env cs I m cls od σ H er sr xr h
    unfold sHd at h
    cases ht2 : tbl.lookup c with
    | none => simp only [ht2] at h; exact h.elim
    | some b =>
      have hex : PySem.W.exmOne X.K cls cv = some b := by
        rw [xr.1]
        exact ht (c, b) (mem_lk ht2)
      refine ⟨b, hex, fun hb a _ => ?_, fun hb => ?_⟩
      · subst hb
        simp only [ht2] at h
        by_cases hso : slotOk (some i) env = true
        rotate_left
        · rw [if_neg hso] at h; exact h.elim
        rw [if_pos hso] at h
        have hi2 : i < σ.length := by rw [← er.len]; exact of_decide_eq_true hso
        refine ⟨c, ks, fs, I, m, cs, env.set i none, er.setN, sr, xr, fun j z => ?_, ?_⟩
        · cases z
          exact List.getElem?_set_self hi2
        · show OutG T X.K (RD T X.K) I m (f c ks fs (env.set i none) cs) D.rt _
          change SOk T X.K W I m (match f c ks fs (env.set i none) cs with
            | .ok d cs => SO.rt d cs
            | _ => .no) D at h
          cases hf : f c ks fs (env.set i none) cs with
          | ok d cs1 =>
            rw [hf] at h
            exact fun v H' I' m' s p sr' r' => h v H' I' m' s p sr' r'
          | exn => rw [hf] at h; exact h.elim
          | no => rw [hf] at h; exact h.elim
      · subst hb
        simp only [ht2] at h
        exact ih D c ks fs env cs I m cls od σ H er sr xr h
theorem ds_try {body : List Stmt} {h₀ : ExceptHandler} {hds : List ExceptHandler} {hs : List Hd} {g : SDen} (hs' : X.stack = X.env :: X.outer) (hf : X.env.frame = some X.env.locals) (hN : X.N.Nodup) (tk : Takes X W)
    (hb : ∀ (W : WX) (pn : List (Addr × Obj)) (xe : Value → Shared → Prop), Takes (X.tr pn xe) W → DSs (X.tr pn xe) T W body g) (hh : HdX X T (h₀ :: hds) hs) : DS X T W (.Try body (h₀ :: hds) [] [] pos) (sTry g hs) := by
  obtain ⟨l, hA, hl⟩ := hd_all (W := W) hh
  refine PS.imp (ps_tryA (tb := fun W => tS T X.K W g) hs' hf hN tk (fun W pn xe tk _ => hb W pn xe tk) hA) ?_
  rintro B σ H ⟨I, m, cs, env, er, sr, h⟩
  refine ⟨I, m, cs, env, er, sr, ?_⟩
  unfold sTry at h
  cases hg : g env cs with
  | ex c ks fs env' cs' =>
    rw [hg] at h
    intro cls od σ' H' I' m' s p sr' er' xr
    exact hl B c ks fs env' cs' I' m' cls od σ' H' er' sr' xr (SOk.up s p h)
  | nx => rw [hg] at h; exact h
  | rt => rw [hg] at h; exact h
  | bk => rw [hg] at h; exact h
  | ct => rw [hg] at h; exact h
  | no => rw [hg] at h; exact h
end
end
end DL
end

section
set_option Elab.async false
set_option linter.all false
set_option maxRecDepth 100000
set_option maxHeartbeats 4000000
/-! DL22: raise C(e, ..), C an own class whose __init__ keeps its arguments. -/
namespace DL
open PySem PySem.Spec PyProof.Rows L2
open Classical
noncomputable section
/-- what such an __init__ promises -/
def spI (K : PySem.W.Frag) (fns : List PySem.Str) : Sp := fun vs H Q _ => ∃ (a C : Addr) (ws : List V), vs = .ref a :: ws ∧ ws.length = fns.length ∧ OexC K C ∧ (∀ f ∈ fns, PySem.W.findIn K (.ref C) f = some none) ∧ H a = some (exo a C none) ∧
  ∀ (dx : Addr) (H2 : Hp), H dx = none → dx ≠ a → H2 a = some (exo a C (some dx)) → H2 dx = some (exd dx (fns.zip ws).reverse) → (∀ b, b ≠ a → b ≠ dx → H2 b = H b) → Q .non H2
section
variable {P : Program} {w : World} {K : PySem.W.Frag} {mg : PySem.Str → Option Value} {base : Heap}
theorem init1 {x qual : PySem.Str} {params : Arguments} {scope : Scope} {f : Addr} {fd : FuncData} {p fn : PySem.Str} {q1 q2 q3 q4 : Pos} (F : FunD K x qual params [.Assign [.Attribute (.Name "self" q1) fn q2] (.Name p q3) q4] scope [] [] f fd) (S : FnScope ["self", p] ["self", p] scope)
    (v0 : Vis scope "self") (v1 : Vis scope p) (d1 : (p == ("__debug__" : PySem.Str)) = false) (d2 : (p == ("__classdict__" : PySem.Str)) = false) : FnOk P w K mg base (L2.CX P w) 1 f fd ["self", p] (spI K [fn]) := by
  refine F.ok S (fun vs H Q E h => ?_) fun cdv A outer s H vs Q E hr h => ⟨_, pss_one (ps_ost (pe_var (i := 0) rfl v0) (pe_var (i := 1) rfl v1 d1 d2)), ?_⟩
  · obtain ⟨a, C, ws, rfl, hl, _⟩ := h
    simp at hl ⊢; omega
  · obtain ⟨a, C, ws, rfl, hl, T, hno, ea, h⟩ := h
    match ws, hl with
    | [y], _ =>
      refine ⟨y, rfl, .ref a, rfl, a, C, rfl, T, hno fn (by simp), .inl ⟨ea, fun dx hn ne => ?_⟩⟩
      refine h dx _ hn ne upd_same ?_ fun b h1 h2 => ?_
      · rw [upd_ne ne, upd_same]; rfl
      · rw [upd_ne h1, upd_ne h2]
theorem init2 {x qual : PySem.Str} {params : Arguments} {scope : Scope} {f : Addr} {fd : FuncData} {p r fn gn : PySem.Str} {q1 q2 q3 q4 q5 q6 q7 q8 : Pos}
    (F : FunD K x qual params [.Assign [.Attribute (.Name "self" q1) fn q2] (.Name p q3) q4, .Assign [.Attribute (.Name "self" q5) gn q6] (.Name r q7) q8] scope [] [] f fd) (S : FnScope ["self", p, r] ["self", p, r] scope)
    (v0 : Vis scope "self") (v1 : Vis scope p) (d1 : (p == ("__debug__" : PySem.Str)) = false) (d2 : (p == ("__classdict__" : PySem.Str)) = false) (v2 : Vis scope r) (d3 : (r == ("__debug__" : PySem.Str)) = false) (d4 : (r == ("__classdict__" : PySem.Str)) = false) : FnOk P w K mg base (L2.CX P w) 1 f fd ["self", p, r] (spI K [fn, gn]) := by
  refine F.ok S (fun vs H Q E h => ?_) fun cdv A outer s H vs Q E hr h => ⟨_, pss_cons (ps_ost (pe_var (i := 0) rfl v0) (pe_var (i := 1) rfl v1 d1 d2)) (pss_one (ps_ost (pe_var (i := 0) rfl v0) (pe_var (i := 2) rfl v2 d3 d4))), ?_⟩
  · obtain ⟨a, C, ws, rfl, hl, _⟩ := h
    simp at hl ⊢; omega
  · obtain ⟨a, C, ws, rfl, hl, T, hno, ea, h⟩ := h
    match ws, hl with
    | [y, z], _ =>
      refine ⟨y, rfl, .ref a, rfl, a, C, rfl, T, hno fn (by simp), .inl ⟨ea, fun dx hn ne => ?_⟩⟩
      refine ⟨z, rfl, .ref a, rfl, a, C, rfl, T, hno gn (by simp), .inr ⟨dx, [(fn, y)], upd_same, by rw [upd_ne ne, upd_same], by simp, ?_⟩⟩
      refine h dx _ hn ne ?_ ?_ fun b h1 h2 => ?_
      · rw [upd_ne (Ne.symm ne), upd_same]
      · rw [upd_same]; rfl
      · rw [upd_ne h2, upd_ne h1, upd_ne h2]
end
/-- an own exception class c that keeps its arguments under the keys ks -/
structure EX (P : Program) (w : World) (K : PySem.W.Frag) (mg : PySem.Str → Option Value) (base : Heap) (T : Tab) (c : Nat) (ks : List Nat) : Prop where
  oex : OexC K (T.ca c)
  no : ∀ f ∈ ks.map T.nm, PySem.W.findIn K (.ref (T.ca c)) f = some none
  ini : ∃ f fd ps, PySem.W.findIn K (.ref (T.ca c)) "__init__" = some (some (.ref f)) ∧ PySem.W.typeIn K (.ref f) = some (.type "function") ∧ FnOk P w K mg base (L2.CX P w) 1 f fd ps (spI K (ks.map T.nm)) ∧ Binds K fd ps []
def sRaise (c : Nat) (ks : List Nat) (g : Den (List D)) : SDen := fun env cs => (g env cs).bindS env fun ds cs => if ds.length = ks.length ∧ few ds.length then .ex c ks.reverse ds.reverse env cs else .no
section
variable {X : Cx} {T : Tab} {W : WX} {e : Expr} {es : List Expr} {p pos pos' : Pos}
theorem ds_raise {c j : Nat} {ks : List Nat} {x : PySem.Str} {g : Den (List D)} (hc : X.calm = true) (tk : Takes X W) (Z : EX X.prog X.w X.K X.mg X.base T c ks) (hr : Room j X.A) (hm : X.mg x = some (.ref (T.ca c))) (ha : DA X T W (e :: es) g) (hj : 2 ≤ j := by decide) (hg : Gl X x := by rfl)
    (hdb : (x == ("__debug__" : PySem.Str)) = false := by decide) (he : starEach (e :: es) X.env = (false, eval e X.env) :: starEach es X.env := by rfl) (hpl : (backTo pos (starEach es X.env)).any (·.1) = false := by rfl) :
    DS X T W (.Raise (some (.Call (.Name x p) (e :: es) [] pos)) none pos') (sRaise c ks g) := by
  obtain ⟨f, fd, ps, i1, i2, F, hb⟩ := Z.ini
  refine PS.imp (ps_raise hc tk (pmk_oex (ds := []) (dvs := []) Z.oex i1 i2 F (hr.mono hj) hb .nil pass_no hg hm ha hdb he hpl)) ?_
  rintro B σ H ⟨I, m, cs, env, er, sr, h⟩
  refine ⟨I, m, cs, env, er, sr, SOk.bindE h er fun ds cs1 vs H1 I1 m1 s1 p1 sr1 r1 h1 => ?_⟩
  by_cases hz : ds.length = ks.length ∧ few ds.length
  · rw [if_pos hz] at h1
    have lv : vs.length = ks.length := by rw [← r1.length]; exact hz.1
    have fw : vs.length ≤ 1000 := by rw [← r1.length]; exact Nat.le_of_lt hz.2
    refine ⟨fw, fun a hn => ⟨a, T.ca c, vs, by rw [List.append_nil], by rw [List.length_map]; exact lv, Z.oex, Z.no, upd_same, fun dx H2 hdx ne ea ed hrest => ?_⟩⟩
    have hd1 : H1 dx = none := by rw [upd_ne ne] at hdx; exact hdx
    refine ⟨rfl, dx, _, ea, ed, hd1, ?_⟩
    have eH : upd (del H2 a) dx (.xd ((ks.map T.nm).zip vs).reverse) = upd H1 dx (.xd ((ks.map T.nm).zip vs).reverse) := by
      funext b
      by_cases hb1 : b = dx
      · subst hb1; rw [upd_same, upd_same]
      · rw [upd_ne hb1, upd_ne hb1]
        by_cases hb2 : b = a
        · subst hb2; rw [del_same, hn]
        · rw [del_ne hb2, hrest b hb2 hb1, upd_ne hb2]
    rw [eH]
    obtain ⟨sr2, s2⟩ := sr1.newI (o := .xd ((ks.map T.nm).zip vs).reverse) hd1
    refine h1 (.ref (T.ca c)) (some dx) σ _ _ _ s2 (List.prefix_refl _) sr2 ((er.mono s1 p1).mono s2 (List.prefix_refl _)) ⟨rfl, .inr ⟨dx, _, rfl, upd_same, ?_, ?_⟩⟩
    · rw [List.map_reverse, zip_fst _ _ (by rw [List.length_map]; exact lv.symm), List.map_reverse]
    · rw [List.map_reverse, zip_snd _ _ (by rw [List.length_map]; exact lv.symm)]
      exact (RpL.mono s2 (List.prefix_refl _) r1).reverse
  · rw [if_neg hz] at h1; exact h1.elim
end
section
variable {fa : List He.Fa} {fn : List He.DefD} {fb : List Fb} {K : PySem.W.Frag} {mg : PySem.Str → Option Value}
theorem Kn.xcls (z : Kn fa fn fb K mg) (i : Nat) {x : PySem.Str} (h : fb[i]? = some (.xcls x) := by rfl) : OexC K (He.ga K x) ∧ XfC K (He.ga K x) ∧ PySem.W.findIn K (.ref (He.ga K x)) "__init__" = some (some (.ref (He.ma K (He.ga K x) "__init__"))) ∧ PySem.W.typeIn K (.ref (He.ma K (He.ga K x) "__init__")) = some (.type "function") := by
  obtain ⟨h1, h2⟩ := He.ba (z.fb_ i h)
  obtain ⟨h3, h4⟩ := He.ba h2
  obtain ⟨h5, h6⟩ := He.ba h4
  exact ⟨oexB_ok h1, xfB_ok h3, He.eqO_ok h5, of_decide_eq_true h6⟩
end
end
end DL
end

section
set_option Elab.async false
set_option linter.all false
set_option maxRecDepth 100000
set_option maxHeartbeats 4000000
/-! DL23: x(lambda: e), x a def whose body is try: a() / except ..: return .. and a rest. -/
namespace DL
open PySem PySem.Spec PyProof.Rows L2 LamX
open Classical
noncomputable section
section
variable {T : Tab} {K : PySem.W.Frag} {I H H1 : Hp} {m : List Addr} {cs : List Cell}
theorem SR.extN (s : SR T K I m cs H) (ht : T.tb ≠ []) (e : ExtN H H1) (t : Tabs T.tb H1) : SR T K I m cs H1 :=
  ⟨fun b u z => e b u (s.same b u z) fun ps q => s.ntb ht b ps (by rw [z, q]), s.len, fun n c h l => let ⟨a, o, q1, q2, q3, q4⟩ := s.at_ n c h l; ⟨a, o, q1, q2, e a o q3 q4.plain.1, q4⟩, s.inj, t, s.ntb⟩
/-- a thing of the heap, known from now on -/
theorem SR.know {p : Addr} {f : Heap → Prop} (s : SR T K I m cs H) (e : H p = some (.ext f)) : SR T K (L2.upd I p (.ext f)) m cs H ∧ Same I (L2.upd I p (.ext f)) := by
  refine ⟨⟨fun b u z => ?_, s.len, fun n c h l => ?_, s.inj, s.tabs, fun ht b ps z => ?_⟩, fun b u z => ?_⟩
  · by_cases hb : b = p
    · subst hb; rw [upd_same] at z; rw [e, ← z]
    · rw [upd_ne hb] at z; exact s.same b u z
  · obtain ⟨a, o, q1, q2, q3, q4⟩ := s.at_ n c h l
    have hb : a ≠ p := fun z => by
      rw [z, e] at q3
      exact q4.plain.2 f (Option.some.inj q3).symm
    exact ⟨a, o, q1, by rw [upd_ne hb]; exact q2, q3, q4.mono (fun b u z => by
      by_cases hb : b = p
      · subst hb; rw [upd_same, ← e, s.same b u z]
      · rw [upd_ne hb]; exact z) (List.prefix_refl _)⟩
  · by_cases hb : b = p
    · subst hb; rw [upd_same] at z; cases z
    · rw [upd_ne hb] at z; exact s.ntb ht b ps z
  · by_cases hb : b = p
    · subst hb; rw [upd_same, ← e, s.same b u z]
    · rw [upd_ne hb]; exact z
end
section
variable {X : Cx} {pins : List (Addr × Obj)} {σ : L2.St} {H HZ : Hp} {s s1 : Shared}
/-- a(), in the def that got the lambda, its exceptions told of the very state -/
theorem act_here {CXg : CXT} {Eg : XK} {Ng : List PySem.Str} {qg : PySem.Str} {sg : Scope} {g f c' : Addr} {cdg pm ctv : Value} {params : Arguments} {body : Expr} {scope : Scope} {k i : Nat} {a : PySem.Str} {pn : List (Addr × Obj)} {xe : Value → Shared → Prop} {W : WX} {tb : XK → TE} {p1 p2 : Pos}
    (I : Inv X pins σ H s) (L : LamS X.env.scope scope) (hf : s.heap.get? f = some (PySem.W.kla_obj "<lambda>" (X.env.qual ++ "<lambda>") params body scope (cloFrom X.env.cells scope.names []) pm c' ctv)) (hfn : H f = none) (hfr : f ∉ frs X.stack)
    (hbind : bindArgs (PySem.W.kla_fn "<lambda>" (X.env.qual ++ "<lambda>") params body scope (cloFrom X.env.cells scope.names []) pm (.ref c') ctv) ⟨[], []⟩ = pure [])
    (tk : Takes ((cxOf CXg X.prog X.w X.K X.mg X.base Ng qg sg g cdg X.A X.stack s H Eg).tr pn xe) W) (hr : Room (k + 1) (X.A.deeper (envOfC qg sg s.heap.objs.size g cdg)))
    (hbody : ∀ (A : Around) (outer : List PySem.Env) (s : Shared) (H : Hp) (E : XK), Room k (A.deeper (lamEnv X scope s.heap.objs.size f c')) → PE (lamCx X A outer s H E scope f c') body (tb E))
    (hN : Ng[i]? = some a) (hv : Vis sg a) (hd : (a == ("__debug__" : PySem.Str)) = false := by decide) (hcd : (a == ("__classdict__" : PySem.Str)) = false := by decide) :
    PE ((cxOf CXg X.prog X.w X.K X.mg X.base Ng qg sg g cdg X.A X.stack s H Eg).tr pn xe) (.Call (.Name a p1) [] [] p2)
      (fun σZ HZ Q => σZ[i]? = some (some (.ref f)) ∧ HZ c' = some (CodeO c' (X.env.qual ++ "<lambda>")) ∧ tb (WE W σZ) σ HZ Q) := by
  refine ⟨fun pinsZ sZ σZ HZ Q IZ h => ?_⟩
  obtain ⟨hs, hc, ht⟩ := h
  refine wpAny_Call_Name_kw (thn ((pe_var (pos := p1) (i := i) hN hv hd hcd).run pinsZ sZ σZ HZ (fun v H1 => v = .ref f ∧ H1 = HZ) IZ ⟨.ref f, hs, rfl, rfl⟩) fun u s1 ⟨v, H1, I1, r1, q1⟩ => ?_)
  obtain ⟨ev, eH⟩ := q1
  subst ev
  rw [eH] at I1
  obtain rfl : u = Value.ref f := r1
  have of1 : s1.heap.get? f = some (PySem.W.kla_obj "<lambda>" (X.env.qual ++ "<lambda>") params body scope (cloFrom X.env.cells scope.names []) pm c' ctv) := I1.base.keep f _ hf hfn hfr (fun z => nomatch (show f ∈ ([] : List Addr) from z))
  refine PySem.W.callWith_F0 ⟨_, _, _, _, of1⟩ ?_
  have un : Un (frs X.stack) [] H HZ s.heap s1.heap := I1.base
  obtain ⟨⟨oc, vs, t, hoc, hdc, hvc⟩, _, _⟩ := I1.hok c' _ hc
  have rc : codeAny (model X.prog X.w) (X.A.deeper (envOfC qg sg s.heap.objs.size g cdg)) (.call (.ref f) ⟨[], []⟩) (CR (L2.CX X.prog X.w) (envOfC qg sg s.heap.objs.size g cdg :: X.stack) X.prog X.w HZ s1 Q (WE W σZ)) s1 := by
    refine PySem.W.kla_callFunE hr.depth of1 rfl L.co L.gen rfl ⟨c', oc, vs, t, rfl, hoc, hdc, hvc⟩ ?_
    rw [hbind]
    refine wpAny_pure (wpAny_newFunctionEnv (fun y hy => (L.own y hy).2) (fun y hy => absurd hy (by simp)) (fun h₁ hns hsb => ⟨I1.nolimit.fresh _ hsb, ?_⟩) L.kind)
    show codeAny _ _ (.expr body (lamEnv X scope s1.heap.objs.size f c')) _ _
    have kp : ∀ b o, s1.heap.get? b = some o → h₁.get? b = some o := fun b o e => hsb.extBut b o (Nat.ne_of_lt (Heap.lt_size e)) (Heap.get?_push_of_some _ e)
    have J : Inv (lamCx X (X.A.deeper (envOfC qg sg s.heap.objs.size g cdg)) (envOfC qg sg s.heap.objs.size g cdg :: X.stack) s1 HZ (WE W σZ) scope f c') [] σ HZ { s1 with heap := h₁, toks := s1.toks + ([] : List (PySem.Str × Value)).length } :=
      lam_start2 I L I1.env0 hr.hd un hns kp
    refine PySem.W.kla_codeExpr (wpAny_mono ((hbody _ _ s1 HZ (WE W σZ) (hr.deeper _)).run [] _ _ HZ Q J ht) (fun v s' hq => ?_) fun e s' hq => hq)
    obtain ⟨w', H', J', rv, q⟩ := hq
    exact ⟨w', H', J'.os, J'.bare, J'.base, J'.hok, rv, q⟩
  have hx := passAt tk σZ
  refine wpAny_call (codeAny_mono rc fun r s' hq => ?_)
  cases r with
  | error e => exact hx pinsZ HZ s1 e s' I1 hq
  | ok fl =>
    cases fl with
    | ret u => exact I1.after hq
    | next => exact False.elim hq
    | brk => exact False.elim hq
    | cont => exact False.elim hq
end
/-- the def's context: nothing leaves it -/
abbrev zCx (X : Cx) (Ng : List PySem.Str) (x : PySem.Str) (sg : Scope) (g : Addr) (cdg : Value) (s : Shared) (H : Hp) : Cx := cxOf C8.CX0 X.prog X.w X.K X.mg X.base Ng x sg g cdg X.A X.stack s H C8.E0
/-- the def that calls what it got -/
def Gives (X : Cx) (Ng : List PySem.Str) (x : PySem.Str) (sg : Scope) (g : Addr) (cdg : Value) (bg : List Stmt) (a : PySem.Str) (q : PySem.Str) (TT : (XK → Hp → VK → Prop) → Hp → VK → Prop) : Prop :=
  ∀ (f c' : Addr) (s : Shared) (H : Hp) (Q : VK) (tl : XK → Hp → VK → Prop),
    (∀ (W : WX) (pn : List (Addr × Obj)) (xe : Value → Shared → Prop) (p1 p2 : Pos), Takes ((zCx X Ng x sg g cdg s H).tr pn xe) W →
      PE ((zCx X Ng x sg g cdg s H).tr pn xe) (.Call (.Name a p1) [] [] p2) (fun σZ HZ Q => σZ[0]? = some (some (.ref f)) ∧ HZ c' = some (CodeO c' q) ∧ tl (WE W σZ) HZ Q)) →
    H c' = some (CodeO c' q) → TT tl H Q →
    ∃ t, PSs (zCx X Ng x sg g cdg s H).nox bg t ∧ t { nx := fun _ H' => Q .non H', rt := Q } (L2.start Ng [.ref f]) H
section
variable {X : Cx}
/-- x(lambda: body) -/
theorem pe_lamS {T : List (Addr × PySem.Str)} {TT : (XK → Hp → VK → Prop) → Hp → VK → Prop} {x a : PySem.Str} {g c P : Addr} {k : Nat} {pg : Arguments} {bg : List Stmt} {sg : Scope} {dV kV doc pm cdv ct oc : Value} {an od : Option Addr} {osl : Array (Option Value)} {Ng : List PySem.Str}
    {params : Arguments} {body : Expr} {scope : Scope} {t : XK → TE} {p lpos pos : Pos} (hg : Gl X x) (hm : X.mg x = some (.ref g)) (hk : PySem.W.keepIn X.K (.ref g) = true)
    (lk : X.K.lookup g = some ⟨oc, od, .func (PySem.W.fnOf x x pg bg sg dV kV doc pm an cdv ct), osl⟩) (hcg : PySem.W.codeIn X.K cdv x = true) (hb : L2.Binds X.K (PySem.W.fnOf x x pg bg sg dV kV doc pm an cdv ct) [a] []) (Sg : FnScope Ng [a] sg) (hNg : Ng[0]? = some a) (hva : Vis sg a)
    (hG : Gives X Ng x sg g cdv bg a (X.env.qual ++ "<lambda>") TT)
    (TB : TabB X.base X.mg c P) (hcode : X.env.code = .ref c) (hmT : (P, X.env.qual ++ "<lambda>") ∈ T) (hu : ∀ p ∈ T, p.1 = P → p.2 = X.env.qual ++ "<lambda>") (hr : Room (k + 2) X.A) (L : LamS X.env.scope scope) (hdef : defaultsOf params X.env = ([], []))
    (hbind : ∀ (q : PySem.Str) (cl : List (PySem.Str × Addr)) (pm cv ctv : Value), bindArgs (PySem.W.kla_fn "<lambda>" q params body scope cl pm cv ctv) ⟨[], []⟩ = pure [])
    (hbody : ∀ (A : Around) (outer : List PySem.Env) (s : Shared) (H : Hp) (E : XK) (f c' : Addr), Room k (A.deeper (lamEnv X scope s.heap.objs.size f c')) → PE (lamCx X A outer s H E scope f c') body (t E))
    (hdb : (x == ("__debug__" : PySem.Str)) = false := by decide) (hd : (a == ("__debug__" : PySem.Str)) = false := by decide) (hcd : (a == ("__classdict__" : PySem.Str)) = false := by decide) :
    PE X (.Call (.Name x p) [.Lambda params body scope lpos] [] pos) (tLam T TT t) := by
  refine ⟨fun pins s σ H Q I h => ?_⟩
  obtain ⟨hT, h⟩ := h
  refine wpAny_Call_Name_kw (ld_glob I hg hm ?_ hdb)
  refine PySem.W.callWith_K (h₀ := X.base) I.ok.mod.kin hk ?_ (by rfl) (by rfl)
  show wpAny _ _ (spliced ((false, eval (.Lambda params body scope lpos) X.env) :: backTo pos (starEach [] X.env))) _ _ s
  refine Calls.spliced_cons (lam_make2 I TB hcode hmT hu hT hdef (L.has I.ok) fun f c' pm' ctv H1 s' I1 eN T1 hf hfn hfr hco => ?_)
  refine Calls.spliced_nil ⟨I1.kIn, ?_⟩
  have rc : codeAny (model X.prog X.w) X.A (.call (.ref g) ⟨[.ref f], []⟩) (CR C8.CX0 X.stack X.prog X.w H1 s' Q C8.E0) s' := by
    refine run_ofS (N := Ng) (ps := [a]) (us := [.ref f]) (vs := [.ref f]) lk hcg Sg hr I1.env0 (hb s' [.ref f] I1.kIn rfl) (.cons rfl .nil) rfl fun hr' => ?_
    obtain ⟨t', ht', hq'⟩ := hG f c' s' H1 Q (fun E H' Q' => t E σ H' Q') (fun W pn xe p1 p2 tk => act_here (i := 0) I1 L hf hfn hfr (hbind _ _ _ _ _) tk hr' (fun A outer s H E hr2 => hbody A outer s H E f c' hr2) hNg hva hd hcd) hco (h H1 eN T1)
    exact ⟨t', ht'.nox, hq'⟩
  refine wpAny_call (codeAny_mono rc fun r s2 hq => ?_)
  cases r with
  | error e => exact (show False from hq).elim
  | ok fl =>
    cases fl with
    | ret u => exact I1.after hq
    | next => exact False.elim hq
    | brk => exact False.elim hq
    | cont => exact False.elim hq
end
end
end DL
end

section
set_option Elab.async false
set_option linter.all false
set_option maxRecDepth 100000
set_option maxHeartbeats 4000000
/-! DL24: x(lambda: e) by denotations. -/
namespace DL
open PySem PySem.Spec PyProof.Rows L2 LamX
open Classical
noncomputable section
/-- the action's statement -/
def sAct (act : List Cell → Out D) : SDen := fun env cs => (act cs).bindS env fun _ cs => .nx env cs
/-- what the def makes of an action: try: a() / clauses, then g -/
def dActF (n : Nat) (hs : List Hd) (g : SDen) (act : List Cell → Out D) : List Cell → Out D := fun cs => match finS cs (sSeq (sTry (sAct act) hs) g (List.replicate n none) cs) with
  | .ok d cs => .ok d cs
  | _ => .no
/-- the reading of such a def: act is what the action comes to -/
def TTd (T : Tab) (K : PySem.W.Frag) (n : Nat) (hs : List Hd) (g : SDen) : (XK → Hp → VK → Prop) → Hp → VK → Prop := fun tl H Q =>
  ∃ I m cs act, SR T K I m cs H ∧ (∀ I' m' cs' H' Q' E', Same I I' → m <+: m' → SR T K I' m' cs' H' → OutG T K (RD T K) I' m' (act cs') Q' E' → tl E' H' Q') ∧ OutG T K (RD T K) I m (dActF n hs g act cs) Q (fun _ _ _ => False)
theorem er_none {T : Tab} {K : PySem.W.Frag} {I : Hp} {m : List Addr} {σ : L2.St} {n : Nat} (h : σ.length = n) : ER T K I m (List.replicate n none) σ := ⟨by simp [h], fun i d e => by
  rw [List.getElem?_replicate] at e
  split at e <;> cases e⟩
section
variable {X : Cx} {T : Tab}
theorem act_gives {Ng : List PySem.Str} {x a q : PySem.Str} {sg : Scope} {g : Addr} {cdg : Value} {p1 p2 p3 pos : Pos} {h₀ : ExceptHandler} {hds : List ExceptHandler} {rest : List Stmt} {hs : List Hd} {gd : SDen} (hnd : Ng.Nodup) (hlen : 1 ≤ Ng.length)
    (hh : ∀ (s : Shared) (H : Hp), HdX (zCx X Ng x sg g cdg s H).nox T (h₀ :: hds) hs) (hr : ∀ (s : Shared) (H : Hp), DSs (zCx X Ng x sg g cdg s H).nox T (fun _ _ _ _ => False) rest gd) (hsw : ∀ (s : Shared) (H : Hp) (pn : List (Addr × Obj)) (xe : Value → Shared → Prop), swapsWith (.Call (.Name a p1) [] [] p2) none p3.line ((zCx X Ng x sg g cdg s H).nox.tr pn xe).env = pure false) :
    Gives X Ng x sg g cdg (.Try [.Expr (.Call (.Name a p1) [] [] p2) p3] (h₀ :: hds) [] [] pos :: rest) a q (TTd T X.K Ng.length hs gd) := by
  intro f c' s H Q tl act hc hTT
  obtain ⟨I, m, cs, actd, sr, htl, ho⟩ := hTT
  obtain ⟨l, hA, hl⟩ := hd_all (W := fun _ _ _ _ => False) (hh s H)
  have hs0 : (L2.start Ng [V.ref f])[0]? = some (some (V.ref f)) := rfl
  have ls : (L2.start Ng [V.ref f]).length = Ng.length := by unfold L2.start; simp; omega
  have er := er_none (T := T) (K := X.K) (I := I) (m := m) ls
  refine ⟨_, pss_cons (ps_tryA (X := (zCx X Ng x sg g cdg s H).nox) (tb := fun W D σ H => σ[0]? = some (some (V.ref f)) ∧ H c' = some (CodeO c' q) ∧ tl (WE W σ) H (fun _ H1 => D.nx σ H1)) rfl rfl hnd L2.takes0
    (fun W pn xe tk _ => pss_one (ps_expr (act W pn xe p1 p2 tk) (hsw s H pn xe))) hA) (hr s H), hs0, hc, ?_⟩
  have ho' : OutG T X.K (RD T X.K) I m (finS cs (sSeq (sTry (sAct actd) hs) gd (List.replicate Ng.length none) cs)) Q (fun _ _ _ => False) := by
    unfold dActF at ho
    cases hf : finS cs (sSeq (sTry (sAct actd) hs) gd (List.replicate Ng.length none) cs) with
    | ok d cs1 => rw [hf] at ho; exact ho
    | exn => rw [hf] at ho; exact ho.elim
    | no => rw [hf] at ho; exact ho.elim
  have hk := sok_fin sr ho'
  refine htl I m cs H _ _ (Same.refl I) (List.prefix_refl _) sr ?_
  unfold sSeq sTry sAct at hk
  cases ha : actd cs with
  | ok d cs1 =>
    simp only [ha, Out.bindS] at hk
    intro v H' I' m' s1 p1 sr1 r1
    exact ⟨I', m', cs1, _, er.mono s1 p1, sr1, SOk.up s1 p1 hk⟩
  | exn c ks fs cs1 =>
    simp only [ha, Out.bindS] at hk
    intro cls od H' I' m' s1 p1 sr1 xr
    refine hl _ c ks fs _ cs1 I' m' cls od _ H' (er.mono s1 p1) sr1 xr ?_
    cases hq : sHd hs c ks fs (List.replicate Ng.length none) cs1 with
    | nx env2 cs2 =>
      simp only [hq] at hk
      intro σ' H2 I2 m2 s2 p2 sr2 er2
      exact ⟨I2, m2, cs2, env2, er2, sr2, SOk.up (s1.trans s2) (p1.trans p2) hk⟩
    | rt d cs2 =>
      simp only [hq] at hk
      exact SOk.up s1 p1 hk
    | bk => simp only [hq] at hk; exact fun σ' H2 I2 m2 s2 p2 => hk σ' H2 I2 m2 (s1.trans s2) (p1.trans p2)
    | ct => simp only [hq] at hk; exact fun σ' H2 I2 m2 s2 p2 => hk σ' H2 I2 m2 (s1.trans s2) (p1.trans p2)
    | ex => simp only [hq] at hk; exact fun cls2 od2 σ' H2 I2 m2 s2 p2 sr2 er2 xr2 => hk cls2 od2 σ' H2 I2 m2 (s1.trans s2) (p1.trans p2) sr2 er2 xr2
    | no => simp only [hq] at hk; exact hk.elim
  | no =>
    simp only [ha, Out.bindS] at hk
    exact hk.elim
/-- x(lambda: body) -/
def dLam (n : Nat) (hs : List Hd) (g : SDen) (fb : Den D) : Den D := fun env cs => dActF n hs g (fun cs => fb env cs) cs
theorem de_lam {W : WX} {n : Nat} {hs : List Hd} {gd : SDen} {fb : Den D} {e : Expr} (ht : T.tb ≠ []) (h : PE X e (tLam T.tb (TTd T X.K n hs gd) fun E => tG T X.K (fun cls od _ H => E cls od H) (RD T X.K) fb)) : DE X T W e (dLam n hs gd fb) := by
  refine PE.imp h ?_
  rintro σ H Q ⟨I, m, cs, env, er, sr, h⟩
  refine ⟨sr.tabs, fun H1 eN T1 => ?_⟩
  have sr1 := sr.extN ht eN T1
  refine ⟨I, m, cs, fun cs' => fb env cs', sr1, fun I' m' cs' H' Q' E' s p sr' ho => ⟨I', m', cs', env, er.mono s p, sr', ho⟩, ?_⟩
  unfold dLam at h
  cases hd : dActF n hs gd (fun cs => fb env cs) cs with
  | ok d cs1 => rw [hd] at h; exact h
  | exn c ks fs cs1 =>
    unfold dActF at hd
    split at hd <;> cases hd
  | no => rw [hd] at h; exact h.elim
end
end
end DL
end

section
set_option Elab.async false
set_option linter.all false
set_option maxRecDepth 100000
set_option maxHeartbeats 4000000
/-! DL25: defs that make lambdas; the law's end with tables of code objects. -/
namespace DL
open PySem PySem.Spec PyProof.Rows L2 LamX
open Classical
noncomputable section
section
variable {P : Program} {w : World} {K : PySem.W.Frag} {mg : PySem.Str → Option Value} {base : Heap} {T : Tab}
/-- a def that makes lambdas: its code object is known -/
theorem df_mkL {x qual : PySem.Str} {params : Arguments} {body : List Stmt} {scope : Scope} {pd : He.Defn} {N ps : List PySem.Str} {n np k : Nat} {b : SDen} (F : ∃ fd, FunD K x qual params body scope [] [] (He.fAd K pd) fd) (S : FnScope N ps scope) (hn : N.length = n := by rfl) (hp : ps.length = np := by rfl)
    (hb : ∀ (kV doc pm : Value) (an : Option Addr) (cdv ct : Value) (us : List Value), us.length = ps.length → bindArgs (PySem.W.fnOf x qual params body scope .none kV doc pm an cdv ct) ⟨us, []⟩ = pure (ps.zip us))
    (hbody : ∀ (A : Around) (outer : List PySem.Env) (s : Shared) (H : Hp) (E : XK), Room k (A.deeper (envOfC qual scope s.heap.objs.size (He.fAd K pd) (.ref (He.cT K pd).1))) →
      DSs (cxOf (L2.CX P w) P w K mg base N qual scope (He.fAd K pd) (.ref (He.cT K pd).1) A outer s H E) T (fun cls d _ H => E cls d H) body b) : DF P w K mg base T (k + 1) (He.fAd K pd) np (mkF n np b) := by
  subst hn hp
  obtain ⟨fd, F⟩ := F
  have hpl : ps.length ≤ N.length := by have := congrArg List.length S.pre; rw [List.length_take] at this; omega
  have F0 := F
  refine ⟨⟨fd, ps, rfl, ?_, F0.bindsN hb⟩, F.kp, fun ds cs hn => if_neg hn⟩
  obtain ⟨oc, od, dV, kV, doc, pm, an, cdv, ct, osl, rfl, lk, hcd, _, _⟩ := F.ex
  obtain ⟨c, rfl⟩ := He.codeIn_ref hcd
  have ec : (He.cT K pd).1 = c := He.codeOf_eq lk rfl
  refine fn_of lk hcd S (fun vs H Q E h => h.1) fun A outer s H vs Q E hr h => ?_
  rw [← ec] at hr ⊢
  refine ⟨_, hbody A outer s H E hr, ?_⟩
  obtain ⟨hl, I, m, cs, ds, sr, r, h⟩ := h
  refine ⟨I, m, cs, env0 N.length ds, er_start r (by omega), sr, ?_⟩
  unfold mkF at h
  rw [if_pos (by rw [r.length]; exact hl)] at h
  exact sok_fin sr h
end
theorem tb_uniq {tb : List (Addr × PySem.Str)} (h : (tb.map (·.1)).Nodup) {i : Nat} {P : Addr} {q : PySem.Str} (e : tb[i]? = some (P, q)) : (P, q) ∈ tb ∧ ∀ p ∈ tb, p.1 = P → p.2 = q := by
  refine ⟨List.mem_of_getElem? e, fun p hp e2 => ?_⟩
  obtain ⟨j, hj, e3⟩ := List.mem_iff_getElem.mp hp
  have e4 : (tb.map (·.1))[i]? = (tb.map (·.1))[j]? := by
    rw [List.getElem?_map, List.getElem?_map, e, List.getElem?_eq_getElem hj, e3]
    simp [e2]
  have hi : i < (tb.map (·.1)).length := by simpa using (List.getElem?_eq_some_iff.mp e).1
  have ij := (List.getElem?_inj hi h).mp e4
  subst ij
  rw [List.getElem?_eq_getElem hj] at e
  have := Option.some.inj e
  rw [← e3, this]
section
variable {X : Cx} {T : Tab} {W : WX}
theorem de_lamcall {x a : PySem.Str} {g c Pt : Addr} {pg : Arguments} {bg : List Stmt} {sg : Scope} {Ng : List PySem.Str} {n k j i : Nat} {hs : List Hd} {gd : SDen} {fb : Den D} {params : Arguments} {body : Expr} {scope : Scope} {p lpos pos : Pos}
    (F : ∃ fd, FunD X.K x x pg bg sg [] [] g fd) (Sg : FnScope Ng [a] sg) (hm : X.mg x = some (.ref g)) (hG : ∀ cdv : Value, Gives X Ng x sg g cdv bg a (X.env.qual ++ "<lambda>") (TTd T X.K n hs gd))
    (TB : TabB X.base X.mg c Pt) (hcode : X.env.code = .ref c) (hnd : (T.tb.map (·.1)).Nodup) (hi : T.tb[i]? = some (Pt, X.env.qual ++ "<lambda>")) (hr : Room j X.A) (L : LamS X.env.scope scope)
    (hbd : ∀ (kV doc pm : Value) (an : Option Addr) (cdv ct : Value) (us : List Value), us.length = [a].length → bindArgs (PySem.W.fnOf x x pg bg sg .none kV doc pm an cdv ct) ⟨us, []⟩ = pure ([a].zip us))
    (hbind : ∀ (q : PySem.Str) (cl : List (PySem.Str × Addr)) (pm cv ctv : Value), bindArgs (PySem.W.kla_fn "<lambda>" q params body scope cl pm cv ctv) ⟨[], []⟩ = pure [])
    (hbody : ∀ (A : Around) (outer : List PySem.Env) (s : Shared) (H : Hp) (E : XK) (f c' : Addr), Room k (A.deeper (lamEnv X scope s.heap.objs.size f c')) → DE (lamCx X A outer s H E scope f c') T (fun cls od _ H => E cls od H) body fb)
    (hk : k + 2 ≤ j := by decide) (hNg : Ng[0]? = some a := by rfl) (hva : Vis sg a := by first | exact Or.inl rfl | exact Or.inr (Or.inl rfl)) (hdef : defaultsOf params X.env = ([], []) := by rfl) (hg : Gl X x := by rfl)
    (hdb : (x == ("__debug__" : PySem.Str)) = false := by decide) (hd : (a == ("__debug__" : PySem.Str)) = false := by decide) (hcd : (a == ("__classdict__" : PySem.Str)) = false := by decide) :
    DE X T W (.Call (.Name x p) [.Lambda params body scope lpos] [] pos) (dLam n hs gd fb) := by
  obtain ⟨fd, F⟩ := F
  have hb := F.bindsN hbd
  have kp := F.kp
  obtain ⟨oc, od, dV, kV, doc, pm, an, cdv, ct, osl, rfl, lk, hcd', _, _⟩ := F.ex
  obtain ⟨h1, h2⟩ := tb_uniq hnd hi
  exact de_lam (fun z => by rw [z] at hi; cases hi) (pe_lamS (T := T.tb) hg hm kp lk hcd' hb Sg hNg hva (hG cdv) TB hcode h1 h2 (hr.mono hk) L hdef hbind hbody hdb hd hcd)
end
/-! ### the law's end -/
theorem walk_ofXT {l : PySem.W.OpenLaw} {n k : Nat} {q : Program} {loose : List PySem.Str} {XP : (PySem.Str → Option Value) → Heap → Prop} {YP : World → Heap → Prop} {d : DefRec} {x : PySem.Str}
    (hn : l.most = some n) (hn2 : n ≤ sizeLine) (hdf : d.params.defaults = []) (hr : Room k callerA)
    (F : ∀ (w : World) (mg : PySem.Str → Option Value) (fa : Addr) (h : Heap), YP w h → h.Ns mainGlobals mg → mg d.name = some (.ref fa) →
      ∃ (K : PySem.W.Frag) (fd : FuncData) (cs : List (Addr × Addr)) (sp : Sp), K.In h ∧ (∀ p ∈ cs, h.get? p.2 = some { cls := .none, data := .fields #[] }) ∧ (∀ p ∈ cs, K.lookup p.2 = none) ∧ (∀ p ∈ cs, PySem.W.CodeHd h p.1 p.2) ∧ (∀ (s : Shared) (u : Value), BindsTo s fd ⟨[u], []⟩ [(x, u)]) ∧
        (∀ (H : Hp) (a : Addr) (ns : List Int), ns.length ≤ n → (∀ z ∈ ns, Builtin.Int.intBits z ≤ 1048576) → (∀ p ∈ cs, H p.2 = some (.tbl #[])) → SqX K H a (ns.map V.int) → sp [.ref a] H (fun v _ => v = .bl true) fun _ _ _ => False) ∧
        ∀ base : Heap, K.In base → base.Ns mainGlobals mg → (∀ p ∈ cs, TabB base mg p.1 p.2) → FnOk l.prog w K mg base (L2.CX l.prog w) k fa fd [x] sp) :
    PySem.W.WalkO q loose XP YP l.row.toRowW d [] (fun f vs => PySem.call f vs) := by
  refine Att.attach_callB hn hdf fun w s₀ s₁ mg mb fa o pm cd doc a vs ns G Y ho hd hcd hmg hobj hints hlen hbits hg => ?_
  obtain ⟨K, fd, cs, sp, KX, hT, nT, C, hb, hsp, hF⟩ := F w mg fa _ Y G.T.g hmg
  refine law_callTs KX G.T.g G.T.b G.T.builtins G.T.nolimit hg hT nT C G.T.bmain hobj hints (Nat.le_trans hlen hn2) hr hF hb (fun H hH hS => hsp H a ns hlen hbits hH ?_) fun H e s' hc => ?_
  · rcases hS with h | ⟨o', its, n', h1, h2, h3, h4, h5, h6⟩
    · exact .inl h
    · have e := KX a o' h1
      rw [hobj] at e
      cases e
      have h4' : Data.seq vs.toArray 0 = Data.seq its n' := h4
      cases h4'
      exact .inr ⟨vs.toArray, _, h1, h5, h6⟩
  · obtain ⟨_, _, _, _, _, _, _, _, _, _, _, _, z⟩ := hc
    exact z
/-- the heap without the tables -/
def noT (H : Hp) : Hp := fun a => match H a with
  | some (.tbl _) => none
  | o => o
theorem noT_some {H : Hp} {a : Addr} {o : HO} (h : H a = some o) (n : ∀ ps, o ≠ .tbl ps) : noT H a = some o := by
  unfold noT
  rw [h]
  cases o with
  | tbl ps => exact absurd rfl (n ps)
  | _ => rfl
theorem noT_of {H : Hp} {a : Addr} {o : HO} (h : noT H a = some o) : H a = some o ∧ ∀ ps, o ≠ .tbl ps := by
  unfold noT at h
  cases e : H a with
  | none => rw [e] at h; cases h
  | some u =>
    rw [e] at h
    cases u with
    | tbl ps => cases h
    | _ => cases h; exact ⟨rfl, fun ps z => nomatch z⟩
theorem law_spT {T : Tab} {K : PySem.W.Frag} {den : FDen} {H : Hp} {a : Addr} {ns : List Int} (hS : SqX K H a (ns.map V.int)) (hT : Tabs T.tb H) (h : ∃ cs, den [.lst (ns.map D.int)] [] = .ok (.bl true) cs) : spD T K 1 den [.ref a] H (fun v _ => v = .bl true) fun _ _ _ => False := by
  obtain ⟨cs, e⟩ := h
  have r : RpL T K (noT H) [] (ns.map D.int) (ns.map V.int) := by
    clear e hS
    induction ns with
    | nil => exact RpL.nil
    | cons i r ih => exact RpL.cons (rp_int.mpr rfl) ih
  have hS' : SqX K (noT H) a (ns.map V.int) := by
    rcases hS with (h | ⟨o, h⟩) | h
    · exact .inl (.inl (noT_some h fun ps z => nomatch z))
    · exact .inl (.inr ⟨o, noT_some h fun ps z => nomatch z⟩)
    · exact .inr h
  refine ⟨rfl, noT H, [], [], [.lst (ns.map D.int)], ⟨fun b u z => (noT_of z).1, rfl, fun n c e => by simp at e, fun n n' c c' a e => by simp at e, hT, fun _ b ps z => (noT_of z).2 ps rfl⟩, RpL.one (rp_lst.mpr ⟨a, _, rfl, hS', r⟩), ?_⟩
  rw [e]
  exact fun v H' I' m' _ _ _ r => rp_bl.mp r
end
end DL
end

section
set_option Elab.async false
set_option linter.all false
set_option maxRecDepth 100000
set_option maxHeartbeats 4000000
/-! DL26: xs.insert(i, y). -/
namespace DL
open PySem L2
open Classical
noncomputable section
section
variable {X : Cx} {T : Tab} {W : WX} {o e e2 : Expr} {f : Den D} {pos apos : Pos}
def insertD (x : D) (xs : List D) (cs : List Cell) : Out D := match x, xs with
  | .cell n, [.int i, y] => match cs[n]? with
    | some (.lst ys) => if fitsL ys.length ∧ 0 ≤ i ∧ in63 i then .ok .non (cs.set n (.lst (ys.take i.toNat ++ [y] ++ ys.drop i.toNat))) else .no
    | _ => .no
  | _, _ => .no
theorem hk_insert {K : PySem.W.Frag} : HkM T K (fun x vs H Q => ∃ (l : Addr) (xs : List V) (i : Int) (y : V), x = .ref l ∧ vs = [.int i, y] ∧ H l = some (.lst xs) ∧ xs.length < sizeLine ∧ 0 ≤ i ∧ i < 2 ^ 63 ∧ Q .non (upd H l (.lst (xs.take i.toNat ++ [y] ++ xs.drop i.toNat)))) insertD := by
  intro I m cs H x xs v vs Q E sr rx rxs h
  unfold insertD at h
  split at h
  · rename_i n i y
    obtain ⟨w, u, rfl, r1, r2⟩ := rxs.i2
    have ew := rp_int.mp r1
    subst ew
    split at h
    · rename_i ys hc
      split at h
      · rename_i hz
        obtain ⟨a, us, rfl, ea, q1, q2⟩ := cell_lst sr rx hc
        have sr2 := sr.setC (o := .lst (us.take i.toNat ++ [u] ++ us.drop i.toNat)) (c := .lst (ys.take i.toNat ++ [y] ++ ys.drop i.toNat)) hc (by intro z; cases z) ea ((q2.take.append (RpL.one r2)).append q2.drop)
        exact ⟨a, us, i, u, rfl, rfl, q1, by rw [← q2.length]; exact hz.1, hz.2.1, hz.2.2.2, h.okI sr2 (rp_non.mpr rfl)⟩
      · exact h.elim
    · exact h.elim
  · exact h.elim
theorem de_insert {g : Den (List D)} (ho : DE X T W o f) (ha : DA X T W [e, e2] g) (hbase : attributeBase o "insert" X.env (eval o X.env) = eval o X.env := by rfl) (hs : starEach [e, e2] X.env = (false, eval e X.env) :: starEach [e2] X.env := by rfl)
    (hfew : ((backTo pos (starEach [e, e2] X.env)).all (fun x => !x.1) && (backToKw pos (keywordEach [] X.env)).all (fun x => x.1.isSome) && decide ([e, e2].length + ([] : List Keyword).length + (if ([] : List Keyword).isEmpty then 0 else 1) < 30)) = true := by rfl) (hline : (apos.endLine == pos.line) = true := by rfl) (hpl : (backTo pos (starEach [e2] X.env)).any (·.1) = false := by rfl) :
    DE X T W (.Call (.Attribute o "insert" apos) [e, e2] [] pos) (dML f g insertD) :=
  PE.imp (pe_bm PySem.F.plainAttrs_list PySem.F.slot_list_insert PySem.F.type_list_insert mt_insert ho ha hbase hfew hline hs hpl) (tBM_of hk_insert rfl rfl)
/-! list(range(e)), kept as a cell -/
def small24 (i : Int) : Prop := i ≤ 16777216
def lRngD (x : D) (cs : List Cell) : Out D := match x with
  | .int j => if in62 j ∧ small24 j then .ok (.cell cs.length) (cs ++ [.lst (rngL 0 j.toNat)]) else .no
  | _ => .no
theorem rpl_rng {K : PySem.W.Frag} {I : Hp} {m : List Addr} (l : List Nat) : RpL T K I m (l.map fun (i : Nat) => D.int (0 + (i : Int))) (l.map fun i => V.int (0 + (i : Nat))) := by
  induction l with
  | nil => exact RpL.nil
  | cons a r ih => exact RpL.cons (rp_int.mpr rfl) ih
theorem de_lRng {p p2 pos2 : Pos} (hm1 : X.mg "list" = none) (hm2 : X.mg "range" = none) (ha : DE X T W e f) (hc : X.calm = true := by rfl) (hg1 : Gl X "list" := by rfl) (hg2 : Gl X "range" := by rfl)
    (na1 : starEach [e] X.env = (false, eval e X.env) :: starEach [] X.env := by rfl) (na2 : starEach [.Call (.Name "range" p2) [e] [] pos2] X.env = (false, eval (.Call (.Name "range" p2) [e] [] pos2) X.env) :: starEach [] X.env := by rfl) :
    DE X T W (.Call (.Name "list" p) [.Call (.Name "range" p2) [e] [] pos2] [] pos) (d1 f lRngD) := by
  refine PE.imp (pe_listRg hc hg1 hm1 (prg_1 hg2 hm2 ha na1) na2) ?_
  rintro σ H Q ⟨I, m, cs, env, er, sr, h⟩
  refine ⟨I, m, cs, env, er, sr, OutG.bindI h fun x cs1 v H1 I1 m1 s1 p1 sr1 r1 h1 => ?_⟩
  unfold lRngD at h1
  split at h1
  · rename_i j
    split at h1
    · rename_i hz
      obtain ⟨⟨z1, z2⟩, z3⟩ := hz
      unfold small24 at z3
      refine ⟨j, rp_int.mp r1, ⟨by omega, by omega, z1, z2, by omega⟩, fun q hq => ?_⟩
      refine rp_newC (c := .lst (rngL 0 j.toNat)) sr1 hq ?_ h1
      have e : rgV 0 j = (List.range j.toNat).map fun i => V.int (0 + (i : Nat)) := by unfold rgV; rw [Int.sub_zero]
      rw [e]
      exact rpl_rng _
    · exact h1.elim
  · exact h1.elim
/-! a list or a tuple, walked -/
def itA (f : Den D) : Den ItV := fun env cs => (f env cs).bind fun x cs => match x with
  | .tup xs => .ok ⟨xs, noChk⟩ cs
  | .lst xs => .ok ⟨xs, noChk⟩ cs
  | .cell n => match cs[n]? with
    | some (.lst xs) => .ok ⟨xs, fun cs => cs[n]? = some (.lst xs)⟩ cs
    | _ => .no
  | _ => .no
theorem itA_or (f : Den D) (env : Env) (cs : List Cell) : itA f env cs = itL f env cs ∨ itA f env cs = itT f env cs := by
  unfold itA itL itT
  cases f env cs with
  | ok x cs1 => cases x <;> first | exact .inl rfl | exact .inr rfl
  | exn => exact .inl rfl
  | no => exact .inl rfl
theorem di_any {tg : Expr} (h : DE X T W e f) : DI X T W tg e (itA f) := by
  refine ⟨fun pins s σ H R I q => ?_⟩
  obtain ⟨I', m, cs, env, er, sr, h1⟩ := q
  rcases itA_or f env cs with z | z
  · exact (di_list (tg := tg) h).run pins s σ H R I ⟨I', m, cs, env, er, sr, z ▸ h1⟩
  · exact (di_tup (tg := tg) h).run pins s σ H R I ⟨I', m, cs, env, er, sr, z ▸ h1⟩
end
end
end DL
end

section
set_option Elab.async false
set_option linter.all false
set_option maxRecDepth 100000
set_option maxHeartbeats 4000000
/-! DL27: enumerate of a tuple. -/
namespace DL
open PySem PySem.Spec PyProof.Rows L2
open Classical
noncomputable section
theorem meets_enum1 {v : Value} {o : Obj} {H : Heap → Prop} (B : Begins v o H) :
    Meets (Builtin.«enumerate.__new__» ⟨[.type "enumerate", v], []⟩) (fun _ R s => H s.heap ∧
      R (.ok (.ret (.ref (s.heap.push o).objs.size))) { s with heap := (s.heap.push o).push { cls := .type "enumerate", data := .fields #[.none, .bool false, .ref s.heap.objs.size, rawInt 0, .none, .none] } }) :=
  .of_wp fun prog w A R s h => by
    obtain ⟨hp, g, d, tk, os⟩ := s; obtain ⟨h1, h⟩ := h
    have hsub := sub_enumerate
    have q1 : ∀ {A' : Around} {E : Value → Shared → Prop} {Q : Value → Shared → Prop}, Q (.ref hp.objs.size) ⟨hp.push o, g, d, tk, os⟩ → wpAny (model prog w) A' (pyIter v) Q E ⟨hp, g, d, tk, os⟩ :=
      fun q => B.iter prog w _ _ ⟨hp, g, d, tk, os⟩ _ h1 q
    wp_walk using q1
    refine wpAny_stack_any fun st => wpAny_pure ?_
    split
    · rename_i c _ _ _ _ _
      cases (c == Value.type "enumerate")
      · wp_walk using q1
        exact ⟨_, rfl, h⟩
      · wp_walk using q1
        exact ⟨_, rfl, h⟩
    · wp_walk using q1
      exact ⟨_, rfl, h⟩
section
variable {prog : Program} {w : World} {A : Around} {E : Value → Shared → Prop} {s : Shared}
theorem call_enum1 {v : Value} {o : Obj} {H : Heap → Prop} {Q : Value → Shared → Prop} (B : Begins v o H) (h1 : H s.heap)
    (h : ∀ h', IsEnum h' (s.heap.objs.size + 1) s.heap.objs.size 0 .none → h'.get? s.heap.objs.size = some o → h'.objs.size = s.heap.objs.size + 2 →
      (∀ b o, s.heap.get? b = some o → h'.get? b = some o) → Q (.ref (s.heap.objs.size + 1)) { s with heap := h' }) :
    wpAny (model prog w) A (call (.type "enumerate") [v]) Q E s := by
  refine callType_new F.called_enumerate (by decide) (F.typeCall_enumerate_1 _) (F.newCall_enumerate_1 _) (fun obj => F.args_object_init_2 obj _) F.entry_enumerate_new
    (meets_enum1 B) ⟨h1, ?_⟩
  have hz : (s.heap.push o).objs.size = s.heap.objs.size + 1 := Heap.size_push ..
  show _ ∧ _
  rw [hz]
  have he : IsEnum ((s.heap.push o).push { cls := .type "enumerate", data := .fields #[.none, .bool false, .ref s.heap.objs.size, rawInt 0, .none, .none] }) (s.heap.objs.size + 1) s.heap.objs.size 0 .none := by
    have := Heap.get?_push_size (s.heap.push o) (o := { cls := .type "enumerate", data := .fields #[.none, .bool false, .ref s.heap.objs.size, rawInt 0, .none, .none] }) rfl
    rw [hz] at this; exact this
  refine ⟨⟨_, he, rfl⟩, h _ he (Heap.get?_push_of_some _ (Heap.get?_push_size _ B.free)) (by rw [Heap.size_push, hz]) fun b o x => Heap.get?_push_of_some _ (Heap.get?_push_of_some _ x)⟩
end
theorem pyNext_enumT_end {prog : Program} {w : World} {A : Around} {E : Value → Shared → Prop} {s : Shared} {e it l : Addr} {i : Nat} {items : Array Value} {old : Value} {Q : Option Value → Shared → Prop} (hh : A.handled = none)
    (he : IsEnum s.heap e it i old) (hit : s.heap.IsTupleIter it l i) (hl : s.heap.IsTuple l items) (hx : items[i]? = none)
    (hQ : ∀ h', Heap.ExtBut it s.heap h' → Q none { s with heap := h' }) : wpAny (model prog w) A (pyNext (.ref e)) Q E s := by
  have hT : s.TypeIs (.ref e) "enumerate" := ⟨_, he, rfl⟩
  unfold pyNext
  refine wpAny_bind (wpAny_attempt (wpAny_callSpecial?_slot (name := Str.ofString "__next__") hT F.slot_enumerate_next
    (wpAny_call_entry F.slot_enumerate_next hT F.entry_enumerate_next ?_ (F.args_enumerate_next_1 _))))
  show wpAny _ _ (field (.ref e) 2 >>= _) _ _ _
  refine wpAny_bind (wpAny_field he rfl (x := .ref it) rfl ?_)
  refine wpAny_bind (wpAny_nextOf_tuple_end hh hit hl hx fun h' x he' hx' => ?_)
  obtain ⟨o, ho, hc⟩ := hx'
  refine wpAny_bind (wpAny_isInstance (T := "StopIteration") (b := true) ⟨o, ho, hc⟩ isSubtype_stop ?_)
  exact wpAny_pure (hQ _ he')
/-- the tuple at a as it stands at each turn, each item in a new pair -/
def IteT (K : PySem.W.Frag) (a : Addr) : It :=
  ⟨fun i H => ∃ (xs : List V) (x : V), SqT K H a xs ∧ xs[i]? = some x, fun i H v H' => ∃ T x, v = .ref T ∧ H T = none ∧ H' = upd H T (.tup [.int (i : Nat), x]) ∧ ∀ xs, SqT K H a xs → xs[i]? = some x, fun i H => ∃ xs : List V, SqT K H a xs ∧ xs.length ≤ i⟩
theorem turn_enumT {P : Program} {w : World} {K : PySem.W.Frag} {elts : List Expr} {kk : Nat} {tpos : Pos} (a e it : Addr) :
    Turn P w K (.Tuple elts kk tpos) (IteT K a) [e, it] e (fun i h => (∃ old, IsEnum h e it ((i : Nat) : Int) old) ∧ h.IsTupleIter it a i ∧ e ≠ it ∧ a ≠ it ∧ a ≠ e) where
  mem := by simp
  obj := fun i h st b hb => by
    obtain ⟨⟨old, he⟩, ⟨o, ho, hc, hd⟩, _⟩ := st
    have e' : b = e ∨ b = it := by simpa using hb
    rcases e' with z | z
    · rw [z]; exact ⟨_, he, fun v q => nomatch q⟩
    · rw [z]; exact ⟨o, ho, fun v q => by rw [hd] at q; cases q⟩
  keep := fun i h h' st k => let ⟨⟨old, he⟩, hi, hne⟩ := st; ⟨⟨old, k e (by simp) _ he⟩, hi.at fun o q => k it (by simp) o q, hne⟩
  item := by
    intro X hP hw hK hc i pins s σ H E I hf st hg
    subst hP hw hK
    obtain ⟨⟨old, he⟩, hit, hne, hai, hae⟩ := st
    obtain ⟨xs, x, hq, hx⟩ := hg
    obtain ⟨its, rv, p, hz⟩ := I.tuple hq
    obtain ⟨u, hu, ru⟩ := rv.get hx
    have hel : e < s.heap.objs.size := Heap.lt_size he
    have hil : it < s.heap.objs.size := by obtain ⟨_, q, _⟩ := hit; exact Heap.lt_size q
    have hi : i < its.toArray.size := by
      have := (List.getElem?_eq_some_iff.mp hu).1
      simpa using this
    have D := Draws.tuple (prog := X.prog) (w := X.w) (A := X.A.in1) (I.ok.hd hc) it a hai its.toArray
    refine wpAny_pyNext_enum_itemD D he ⟨hit, p⟩ hi hne (by simp [hne, Ne.symm hae]) fun x2 h' tk hx2 ho st' hT hsz hk => ?_
    have ex2 : x2 = u := by
      have : its.toArray[i]? = some u := by simpa using hu
      exact Option.some.inj (hx2.symm.trans this)
    subst ex2
    refine ⟨_, rfl, wpAny_letOwnedTupleGo_enum (s := { s with heap := h', toks := tk + 1 }) ho fun h'' he' sb => ?_⟩
    have hT2 : h''.get? s.heap.objs.size = some { cls := .type "tuple", data := .seq #[.int i tk, x2] } := (sb.2 _ (Nat.ne_of_gt hel)).trans hT
    have new : ObjOk X.prog X.w (upd H s.heap.objs.size (.tup [.int (i : Nat), x])) h'' s.heap.objs.size (.tup [.int (i : Nat), x]) :=
      ⟨by show 2 ≤ sizeLine; decide, [.int i tk, x2], .cons ⟨_, rfl⟩ (.cons ru .nil), ⟨_, hT2, rfl, _, rfl⟩⟩
    have I1 : Inv X pins σ (upd H s.heap.objs.size (.tup [.int (i : Nat), x])) { s with heap := h'', toks := tk + 1 } :=
      I.turnedNew (ch := [e, it]) (fun b ob hb q => (sb.2 b (fun z => hb (by simp [z]))).trans (hk b ob (fun z => hb (by simp [z])) (fun z => hb (by simp [z])) q)) hf (Nat.le_refl _) new
    refine ⟨.ref s.heap.objs.size, _, I1, rfl, ⟨_, x, rfl, I.hok.fresh (Nat.le_refl _), rfl, fun ys hy => by rw [I.tuple_inj hy hq]; exact hx⟩, ⟨⟨x2, ?_⟩, st'.1.at fun o q => (sb.2 it (Ne.symm hne)).trans q, hne, hai, hae⟩, fun b hb => ?_⟩
    · have e1 : ((i + 1 : Nat) : Int) = (i : Int) + 1 := by omega
      rw [e1]; exact he'
    · have hb' : b < s.heap.objs.size := by
        have e' : b = e ∨ b = it := by simpa using hb
        rcases e' with z | z
        · rw [z]; exact hel
        · rw [z]; exact hil
      rw [upd_ne (Nat.ne_of_lt hb')]
      exact (hf b hb).1
  done := by
    intro X hP hw hK hc i pins s σ H E I hf st hg
    subst hP hw hK
    obtain ⟨⟨old, he⟩, hit, hne, hai, hae⟩ := st
    obtain ⟨xs, hq, hx⟩ := hg
    obtain ⟨its, rv, p, hz⟩ := I.tuple hq
    obtain ⟨f0, f1, f2, f3, f4, f5⟩ := hf it (by simp)
    have hl := rv.length
    exact pyNext_enumT_end (I.ok.hd hc) he hit p (by simp; omega) fun h' eb => ⟨rfl, I.turned (t' := s.toks) (fun b o hb q => eb b o hb q) f0 f1 f3 f4 f5⟩
  self := fun A i s Q E st h => let ⟨⟨_, he⟩, _⟩ := st; wpAny_pyIter_enum he h
def iEnumT (K : PySem.W.Frag) (ta : TA) : TI := fun σ H R => ta σ H fun vs H1 => ∃ a xs, vs = [.ref a] ∧ SqT K H1 a xs ∧ R (IteT K a) H1
theorem pi_enumT {X : Cx} {e : Expr} {ta : TA} {p pos tpos : Pos} {elts : List Expr} {kk : Nat} (hg : Gl X "enumerate") (hm : X.mg "enumerate" = none) (ha : PA X [e] ta) (hs : starEach [e] X.env = [(false, eval e X.env)] := by rfl) :
    PI X (.Tuple elts kk tpos) (.Call (.Name "enumerate" p) [e] [] pos) (iEnumT X.K ta) := by
  refine ⟨fun pins s σ H R I h => ?_⟩
  refine Call_ (ld_blt I hg hm boot_enumerate (PyProof.Rows.callWith_type1 (thn (ha.run pos pins s σ H _ I h) fun us s1 ⟨vs, H1, I1, r1, q1⟩ => ?_) hs rfl))
  obtain ⟨a, xs, ex, hq, q⟩ := q1
  subst ex
  cases r1 with
  | cons r rr =>
    cases rr
    cases r
    obtain ⟨its, rv, p', hz⟩ := I1.tuple hq
    have hal : a < s1.heap.objs.size := by obtain ⟨o, ho, _⟩ := id p'; exact Heap.lt_size ho
    refine call_enum1 (begins_tuple a its.toArray) p' fun h' he hit hsz hk => wpAny_pyIter_enum he ?_
    have I2 : Inv X pins σ H1 { s1 with heap := h' } := I1.kept (t' := s1.toks) hk
    refine ⟨s1.heap.objs.size + 1, [s1.heap.objs.size + 1, s1.heap.objs.size], _, _, H1, rfl, I2, turn_enumT a (s1.heap.objs.size + 1) s1.heap.objs.size, ⟨⟨.none, he⟩, ⟨_, hit, rfl, rfl⟩, Nat.succ_ne_self _, Nat.ne_of_lt hal, Nat.ne_of_lt (Nat.lt_succ_of_lt hal)⟩, fun b hb => ?_, q⟩
    have e' : b = s1.heap.objs.size + 1 ∨ b = s1.heap.objs.size := by simpa using hb
    have hle : s1.heap.objs.size ≤ b := by
      rcases e' with z | z
      · rw [z]; exact Nat.le_add_right _ _
      · rw [z]; exact Nat.le_refl _
    exact I1.fpOk hle (I1.hok.fresh hle)
section
variable {X : Cx} {T : Tab} {W : WX} {e : Expr} {g : Den (List D)} {p pos : Pos}
theorem RI.enumT {K : PySem.W.Frag} {I : Hp} {m : List Addr} {xs : List D} {a : Addr} (h : TpA T K I m xs a) : RI T K I m ⟨enumD 0 xs, noChk⟩ (IteT K a) := by
  intro I' m' cs' H' s2 p2 sr2 hk
  obtain ⟨us, q1, q2⟩ := h I' m' cs' H' s2 p2 sr2
  refine ⟨fun i d hd => ?_, us, q1, by rw [enumD_len, q2.length]; exact Nat.le_refl _⟩
  obtain ⟨x, hx, rfl⟩ := enumD_get hd
  obtain ⟨v, e1, r1⟩ := q2.get hx
  refine ⟨⟨us, v, q1, e1⟩, fun y H2 yl => ?_⟩
  obtain ⟨Tt, x', rfl, hT, rfl, hy⟩ := yl
  have e2 := hy us q1
  rw [e1] at e2; cases e2
  obtain ⟨sr3, s3⟩ := sr2.newI (o := .tup [.int (i : Nat), v]) hT
  have e0 : ((0 + i : Nat) : Int) = ((i : Nat) : Int) := by simp
  refine ⟨_, s3, sr3, rp_tup.mpr ⟨Tt, _, rfl, .inl (.inl upd_same), RpL.cons (rp_int.mpr (by rw [e0])) (RpL.one (r1.mono s3 (List.prefix_refl _)))⟩⟩
def itEnT (g : Den (List D)) : Den ItV := fun env cs => (g env cs).bind fun ds cs => match ds with
  | [.tup xs] => .ok ⟨enumD 0 xs, noChk⟩ cs
  | _ => .no
theorem di_enumT {elts : List Expr} {kk : Nat} {tpos : Pos} (hm : X.mg "enumerate" = none) (ha : DA X T W [e] g) (hg : Gl X "enumerate" := by rfl) (hs : starEach [e] X.env = [(false, eval e X.env)] := by rfl) :
    DI X T W (.Tuple elts kk tpos) (.Call (.Name "enumerate" p) [e] [] pos) (itEnT g) := by
  refine PI.imp (pi_enumT hg hm ha hs) ?_
  rintro σ H Q ⟨I, m, cs, env, er, sr, h⟩
  refine ⟨I, m, cs, env, er, sr, OutG.bindI h fun ds cs1 vs H1 I1 m1 s1 p1 sr1 r1 h1 => ?_⟩
  split at h1
  · obtain ⟨v, rfl, rv⟩ := r1.i1
    obtain ⟨a, rfl, L⟩ := TpA.of rv
    obtain ⟨us, q1, q2⟩ := L I1 m1 cs1 H1 (Same.refl _) (List.prefix_refl _) sr1
    exact ⟨a, us, rfl, q1, h1.okI sr1 (RI.enumT L)⟩
  · exact h1.elim
/-- a list, a cell or a tuple -/
def itEnA (g : Den (List D)) : Den ItV := fun env cs => (g env cs).bind fun ds cs => match ds with
  | [.tup xs] => .ok ⟨enumD 0 xs, noChk⟩ cs
  | [.lst xs] => .ok ⟨enumD 0 xs, noChk⟩ cs
  | [.cell n] => (match cs[n]? with
    | some (.lst xs) => .ok ⟨enumD 0 xs, fun cs => cs[n]? = some (.lst xs)⟩ cs
    | _ => .no)
  | _ => .no
theorem itEnA_or (g : Den (List D)) (env : Env) (cs : List Cell) : itEnA g env cs = itEn g env cs ∨ itEnA g env cs = itEnT g env cs := by
  unfold itEnA itEn itEnT
  cases g env cs with
  | ok ds cs1 =>
    match ds with
    | [] => exact .inl rfl
    | [x] => cases x <;> first | exact .inl rfl | exact .inr rfl
    | x :: y :: r => cases x <;> exact .inl rfl
  | exn => exact .inl rfl
  | no => exact .inl rfl
theorem di_enumA {elts : List Expr} {kk : Nat} {tpos : Pos} (hm : X.mg "enumerate" = none) (ha : DA X T W [e] g) (hg : Gl X "enumerate" := by rfl) (hs : starEach [e] X.env = [(false, eval e X.env)] := by rfl) :
    DI X T W (.Tuple elts kk tpos) (.Call (.Name "enumerate" p) [e] [] pos) (itEnA g) := by
  refine ⟨fun pins s σ H R I q => ?_⟩
  obtain ⟨I', m, cs, env, er, sr, h1⟩ := q
  rcases itEnA_or g env cs with z | z
  · exact (di_enum (elts := elts) (kk := kk) (tpos := tpos) hm ha hg hs).run pins s σ H R I ⟨I', m, cs, env, er, sr, z ▸ h1⟩
  · exact (di_enumT (elts := elts) (kk := kk) (tpos := tpos) hm ha hg hs).run pins s σ H R I ⟨I', m, cs, env, er, sr, z ▸ h1⟩
end
end
end DL
end

section
set_option Elab.async false
set_option linter.all false
set_option maxRecDepth 100000
set_option maxHeartbeats 4000000
/-! DL28: a comprehension whose element may let an exception out of a call. -/
namespace DL
open PySem PySem.Spec PyProof.Rows L2
open Classical
noncomputable section
section
variable {X : Cx} {W : WX}
/-- out of a call in the element -/
theorem comp_raises {pins pins' : List (Addr × Obj)} {σ σ' : L2.St} {s3 s s' : Shared} {H3 H' : Hp} {scope : Scope} {cl : List (PySem.Str × Addr)} {fp : List Addr} {u : Value} {E : XK}
    (tk : Takes X W) (hs : X.stack = X.env :: X.outer) (hf : X.env.frame = some X.env.locals) (I3 : Inv X pins σ H3 s3) (hfp : ∀ b ∈ fp, FpOk X pins H3 b) (hE : ∀ cls d H, E cls d H → W cls d σ H)
    (I : Inv (X.blk s3 H3 scope (compEnvC scope cl s3.heap.objs.size X.env) fp) pins' σ' H' s) (c : L2.CX X.prog X.w X.stack H' s E u s') :
    notedBy (model X.prog X.w) X.A (compEnvC scope cl s3.heap.objs.size X.env) (CompFails (model X.prog X.w) X.A X.xe (compEnvC scope cl s3.heap.objs.size X.env)) u s' := by
  obtain ⟨a, B, H2, cls, d, rfl, fl, hok, ub, na, os, ag, hw⟩ := c
  have hw := hE _ _ _ hw
  generalize hC : s3.heap.objs.size = C at I ⊢
  have nstk : C ∉ frs X.stack := fun hm => by
    obtain ⟨_, o, ho, _⟩ := I3.stack.mem hm
    have h9 := Heap.lt_size ho
    rw [hC] at h9
    exact Nat.lt_irrefl _ h9
  -- the ground with the frames
  obtain ⟨G, g1, g2⟩ := restrict s'.heap fun b => (B.get? b).isSome || decide (b ∈ frs X.stack)
  have st : B.StaysIn s'.heap := fl.1
  have gB : ∀ b o, B.get? b = some o → G.get? b = some o := fun b o e => by
    rw [g1 b (by simp [e])]
    exact st b o e
  have gF : ∀ b, b ∈ frs X.stack → G.get? b = s'.heap.get? b := fun b hb => g1 b (by simp [hb])
  have og : ∀ b o, G.get? b = some o → s'.heap.get? b = some o ∧ ((B.get? b).isSome = true ∨ b ∈ frs X.stack) := fun b o e => by
    cases q : ((B.get? b).isSome || decide (b ∈ frs X.stack)) with
    | false => rw [g2 b q] at e; cases e
    | true =>
      rw [g1 b q] at e
      exact ⟨e, by simpa [Bool.or_eq_true] using q⟩
  have J : Inv (X.blk s3 H3 scope (compEnvC scope cl C X.env) fp) pins' σ' H2 { s with heap := G, gens := s'.gens, drawn := s'.drawn, toks := s'.toks } := by
    refine I.call (ch := []) ⟨fun b o e n hb _ => gB b o (ub.keep b o e n hb), fun b o e n hb _ => ?_, fun b o e n _ => ub.free b o e n, fun b o e _ => ?_, ub.tups, ub.frzs, ub.tbls⟩ (hok.kept gB) ag (fun _ z => nomatch z)
    · obtain ⟨sl, q⟩ := ub.slot b o e hb
      exact ⟨sl, by rw [gF b hb]; exact q⟩
    · by_cases hb : b ∈ frs X.stack
      · obtain ⟨sl, q⟩ := ub.slot b o e hb
        exact ⟨_, by rw [gF b hb]; exact q⟩
      · obtain ⟨o', q⟩ := ub.there b o e hb
        exact ⟨o', gB b o' q⟩
  have nb : ∀ b o, G.get? b = some o → b ∉ frs X.stack → B.get? b = some o := fun b o e hb => by
    obtain ⟨e', h⟩ := og b o e
    rcases h with h | h
    · obtain ⟨o', q⟩ := Option.isSome_iff_exists.mp h
      have z := st b o' q
      rw [e'] at z; cases z
      exact q
    · exact absurd h hb
  generalize hsI : ({ s with heap := G, gens := s'.gens, drawn := s'.drawn, toks := s'.toks } : Shared) = sI at J
  have hG : sI.heap = G := by rw [← hsI]
  have osI : sI.os = s.os := by rw [← hsI]
  have J2 : Inv X pins σ H2 sI := I3.call' (ch := fp) J.os J.base J.hok J.bare fun b hb => ⟨(hfp b hb).2.2.2.1, (hfp b hb).2.1, (hfp b hb).2.2.2.2.1, (hfp b hb).2.2.2.2.2⟩
  have nC : H2 C = none := J.free
  obtain ⟨f0, f1, f2, f3, f4, f5⟩ := I3.fpOk (b := C) (Nat.le_of_eq hC) nC
  have J3 : Inv X pins σ H2 { sI with heap := PySem.W.hideAll sI.heap [C] } := J2.turned (t' := sI.toks) (fun b o hb e => PySem.W.hideAll_get _ e (by simpa using hb)) f0 f1 f3 f4 f5
  have hid : ∀ (h : Heap) b o, (PySem.W.hideAll h [C]).get? b = some o → b ≠ C ∧ h.get? b = some o := fun h b o e => by
    refine ⟨fun z => ?_, PySem.W.of_hideAll _ e⟩
    rw [z, PySem.W.hideAll_none [C] (by simp)] at e
    cases e
  have hno : ∀ b, B.get? b = none → (PySem.W.hideAll B [C]).get? b = none := fun b e => by
    cases q : (PySem.W.hideAll B [C]).get? b with
    | none => rfl
    | some o => rw [(hid B b o q).2] at e; cases e
  have fl' : HandSPX.FlyingZ (PySem.W.hideAll B [C]) X.stack a (Zc cls d) s'.heap := by
    obtain ⟨k1, k2, k3, oe, vs, T, oT, ts, he, hz, hd, h1, hnT, r⟩ := fl
    exact ⟨fun b o e => k1 b o (hid B b o e).2, hno a k2, funFrames_none k3 fun L hL => hno L (k3.mem hL).1, oe, vs, T, oT, ts, he, hz, hd, h1, hno T hnT, r⟩
  have hfr : X.A.frames = some (X.env :: X.outer) := by rw [I3.ok.frames, hs]
  rw [hs] at fl'
  show wpAny _ _ (noteFrame (.ref a) (compEnvC scope cl C X.env)) _ _ s'
  rw [noteFrame_env _ (show (compEnvC scope cl C X.env).frame = X.env.frame from rfl)]
  refine HandSPX.looks_onZ Zc.steady hfr hf fl' fun h1 hH up1 => ?_
  have upG : sI.heap.UpToSlots s'.heap := Heap.UpToSlots.of_keeps fun b o e => (og b o (hG ▸ e)).1
  obtain ⟨m, hn, _⟩ := J.loc
  have hn : sI.heap.Ns C m := hn
  have hn1 : h1.Ns C m := hn.upToSlots fun b o e nf => (upG.trans up1) b o e nf
  obtain ⟨k1, k2, k3, oe, vs, T, oT, ts, he, hz, hd, hv1, hnT, hTe, hT, hdT, h3⟩ := hH
  obtain ⟨oL, es, ep, hoL, hdL, _⟩ := id hn1
  have aC : a ≠ C := fun z => by
    rw [z, hoL] at he; cases he
    rw [hdL] at hd; cases hd
  have TC : T ≠ C := fun z => by
    rw [z, hoL] at hT; cases hT
    rw [hdL] at hdT; cases hdT
  refine ⟨m, hn1, fun h2 m2 hn2 sb => ?_⟩
  have hn2 : h2.Ns C m2 := hn2
  have sb : Heap.SameBut C h1 h2 := sb
  have k1' : (PySem.W.hideAll B [C]).StaysIn h2 := fun b o e => (sb.2 b (hid B b o e).1).trans (k1 b o e)
  have k3' := Heap.FunFrames.sameBut sb hn2 k3
  unfold PySem.passOn
  refine wpAny_bind (wpAny_field ((sb.2 a aC).trans he) hd hv1 ?_)
  rw [if_neg (show ¬ ((Value.ref T == Value.none) = true) from by simp)]
  rw [show (compEnvC scope cl C X.env).frame = some X.env.locals from hf]
  refine wpAny_bind (HandSPX.setFlight_anyZ k1' k3' ⟨oe, vs, T, oT, ts, (sb.2 a aC).trans he, hz, hd, hv1, hnT, hTe, (sb.2 T TC).trans hT, hdT, h3⟩ fun h4 q1 q2 q3 up4 => ?_)
  refine wpAny_throw ?_
  refine tk _ _ ⟨a, PySem.W.hideAll B [C], { sI with heap := PySem.W.hideAll sI.heap [C] }, pins, σ, H2, cls, d, rfl, J3, fun b o e hb => ?_, fun b o e nf => ?_, .inr (.inr ?_), na, ?_, ag, hw⟩
  · obtain ⟨e1, e2⟩ := hid _ b o e
    exact PySem.W.hideAll_get _ (nb b o (hG ▸ e2) hb) (by simpa using e1)
  · obtain ⟨e1, e2⟩ := hid _ b o e
    obtain ⟨sl, e3⟩ := (upG.trans up1) b o e2 nf
    obtain ⟨sl2, e4⟩ := up4 b _ ((sb.2 b e1).trans e3) nf
    exact ⟨sl2, e4⟩
  · rw [hs]
    exact ⟨q1, k2, q2, q3⟩
  · show s'.os = sI.os
    rw [osI]; exact os
end
section
variable {X : Cx}
theorem lcR_core {W : WX} (tk : Takes X W) (hs0 : X.stack = X.env :: X.outer) (hf0 : X.env.frame = some X.env.locals) {pins : List (Addr × Obj)} {s : Shared} {σ : L2.St} {H : Hp} {Q : VK} {elt tg iter : Expr} {ifs : List Expr} {scope : Scope} {own : List (PySem.Str × Nat)} {pos pos' : Pos} {wi : TI} {g : TG} {tt : TT} {te : TE} {use : Option (Value → Sem Unit)} {Qf : Value → Shared → Prop}
    (hc : X.calm = true) (hN : X.N.Nodup) (I : Inv X pins σ H s) (hi : PI X tg iter wi) (ok : BlkOk X.N X.env.scope scope own)
    (hg : ∀ (s : Shared) (H : Hp) (C : Addr) (cl : List (PySem.Str × Addr)) (fp : List Addr), PG (X.blk s H scope (compEnvC scope cl C X.env) fp) tg g) (ht : ∀ (s : Shared) (H : Hp) (C : Addr) (cl : List (PySem.Str × Addr)) (fp : List Addr), PTs (X.blk s H scope (compEnvC scope cl C X.env) fp) ifs tt)
    (he : ∀ (s : Shared) (H : Hp) (C : Addr) (cl : List (PySem.Str × Addr)) (fp : List Addr), (∀ τ, PassesAt (L2.CX X.prog X.w) ((X.blk s H scope (compEnvC scope cl C X.env) fp).wish (notedBy (model X.prog X.w) X.A (compEnvC scope cl C X.env) (CompFails (model X.prog X.w) X.A X.xe (compEnvC scope cl C X.env)))) τ (fun cls d H => W cls d σ H)) → PE ((X.blk s H scope (compEnvC scope cl C X.env) fp).wish (notedBy (model X.prog X.w) X.A (compEnvC scope cl C X.env) (CompFails (model X.prog X.w) X.A X.xe (compEnvC scope cl C X.env)))) elt te) (hs : ∀ x, foldedSetIterable iter X.env x = pure x)
    (h : tLc wi g tt te (own.map (·.2)) σ H Q)
    (hRR : ∀ (D : Addr) (cv : PySem.Env) (s' : Shared) (m : PySem.Str → Option Value) (H' : Hp), Inv X pins σ H' s' → Q (.ref D) H' → s'.heap.Ns cv.locals m → FpOk X pins H' cv.locals → compEnds (model X.prog X.w) X.A X.xe use Qf (.ref D) cv (.ok .next) s') :
    wpAny (model X.prog X.w) X.A (comprehension (.ListComp elt [⟨tg, iter, ifs, 0⟩] scope pos) scope X.env pos' (newList []) false (eval iter X.env) use) Qf X.xe s := by
  have hfree : ∀ y ∈ scope.names, y.2 = .free → ∃ c, X.env.cells.lookup y.1 = some c := fun y hy e => by
    rcases ok.free y hy e with k | k
    · exact I.ok.has _ (.inl k)
    · exact I.ok.has _ (.inr k)
  refine comprehension_at (use := use) rfl hs (closure_ok hfree) ok.kind (fun y hy e => by rw [ok.uniq y hy, e])
    (thn (hi.run pins s σ H _ I h) fun xv s1 hx => thn hx fun itv s2 h2 => ?_)
  obtain ⟨it, fp, tn, J, H2, e, I2, T, st2, f2, q⟩ := h2
  subst e
  refine wpAny_newObj_type (newEnv_comp ?_) (by show 0 ≤ sizeLine; decide)
  generalize hD : s2.heap.objs.size = D
  have hDn : H2 D = none := I2.hok.fresh (Nat.le_of_eq hD)
  obtain ⟨W, ⟨m0, w0⟩, turn⟩ := q D hDn
  -- the new list
  generalize hs3 : ({ s2 with heap := s2.heap.push { cls := .type "list", data := .seq ([] : List Value).toArray } } : Shared) = s3
  have I3 : Inv X pins σ (upd H2 D (.lst [])) s3 := by
    rw [← hs3]
    refine I2.laid (t' := s2.toks) (fun b o e => Heap.get?_push_of_some _ e) (Nat.le_of_eq hD) ⟨Nat.zero_le _, [], 0, .nil, ?_⟩
    rw [← hD]
    exact Heap.get?_push_size _ rfl
  have h3 : s3.heap = s2.heap.push { cls := .type "list", data := .seq ([] : List Value).toArray } := by rw [← hs3]
  have sz : ∀ b ∈ fp, b < s2.heap.objs.size := fun b hb => by
    obtain ⟨o, e, _⟩ := T.obj _ _ st2 b hb
    exact Heap.lt_size e
  have f3 : ∀ b ∈ fp, FpOk X pins (upd H2 D (.lst [])) b ∧ b < s3.heap.objs.size := fun b hb => by
    have hlt := sz b hb
    refine ⟨⟨?_, (f2 b hb).2⟩, by rw [h3, Heap.size_push]; exact Nat.lt_succ_of_lt hlt⟩
    rw [upd_ne (by rw [← hD]; exact Nat.ne_of_lt hlt)]
    exact (f2 b hb).1
  have st3 : tn 0 s3.heap := T.keep _ _ _ st2 fun b _ o e => by rw [h3]; exact Heap.get?_push_of_some _ e
  have I4 := block_start I3 ok hN f3
  have pg := hg s3 (upd H2 D (.lst [])) s3.heap.objs.size (cellsFrom (s3.heap.objs.size + 1) scope.names (cloFrom X.env.cells scope.names [])) fp
  have pt := ht s3 (upd H2 D (.lst [])) s3.heap.objs.size (cellsFrom (s3.heap.objs.size + 1) scope.names (cloFrom X.env.cells scope.names [])) fp
  have pe := he s3 (upd H2 D (.lst [])) s3.heap.objs.size (cellsFrom (s3.heap.objs.size + 1) scope.names (cloFrom X.env.cells scope.names [])) fp fun τ pins' H' s' e s'' I' c => comp_raises tk hs0 hf0 I3 (fun b hb => (f3 b hb).1) (fun _ _ _ h => h) I'.unwish c
  show codeAny _ _ (.compStart (.ListComp elt [⟨tg, iter, ifs, 0⟩] scope pos) 0 (.ref it) (.ref D) (compEnvC scope (cellsFrom (s3.heap.objs.size + 1) scope.names (cloFrom X.env.cells scope.names [])) s3.heap.objs.size X.env)) (compEnds (model X.prog X.w) X.A X.xe use Qf (.ref D) (compEnvC scope (cellsFrom (s3.heap.objs.size + 1) scope.names (cloFrom X.env.cells scope.names [])) s3.heap.objs.size X.env)) { s3 with heap := pushCells (s3.heap.push { cls := .type "dict", data := .dict #[] }) scope.names }
  have nfp : ∀ b ∈ fp, (upd H2 D (.lst [])) b = none := fun b hb => (f3 b hb).1.1
  generalize hce : compEnvC scope (cellsFrom (s3.heap.objs.size + 1) scope.names (cloFrom X.env.cells scope.names [])) s3.heap.objs.size X.env = ce at I4 pg pt pe ⊢
  have cL : ce.locals = s3.heap.objs.size := by subst hce; rfl
  generalize hH3 : upd H2 D (.lst []) = H3 at I3 I4 pg pt pe w0 nfp f3
  generalize hs4 : ({ s3 with heap := pushCells (s3.heap.push { cls := .type "dict", data := .dict #[] }) scope.names } : Shared) = s4 at I4 ⊢
  have st4 : tn 0 s4.heap := T.keep _ _ _ st3 fun b _ o e => by rw [← hs4]; exact pushCells_keeps _ _ _ _ (Heap.get?_push_of_some _ e)
  have stat : ∀ {σ' : L2.St} {H' : Hp} {s' : Shared}, Inv (X.blk s3 H3 scope ce fp) [] σ' H' s' → (∀ b ∈ fp, H' b = none) → ∀ b ∈ fp, FpOk (X.blk s3 H3 scope ce fp) [] H' b := fun {σ' H' s'} I' hn b hb =>
    ⟨hn b hb, (I'.ok.exf b hb).1, I'.ok.exfs b hb, .inl hb, fun x c e => (I'.ok.exf b hb).2 x c e, fun p hp => absurd (show p ∈ ([] : List (Addr × Obj)) ++ [] from hp) (by simp)⟩
  have hx : ∀ e s', notedBy (model X.prog X.w) X.A ce (CompFails (model X.prog X.w) X.A X.xe ce) e s' → notedBy (model X.prog X.w) X.A ce (fun e s' => compEnds (model X.prog X.w) X.A X.xe use Qf (.ref D) ce (.error e) s') e s' := fun e s' h =>
    wpAny_mono h (fun _ _ q => by cases use <;> exact q) (fun _ _ q => by cases use <;> exact q)
  have loop : codeAny (model X.prog X.w) X.A (.compLoop (.ListComp elt [⟨tg, iter, ifs, 0⟩] scope pos) 0 (.ref it) (.ref D) ce) (compEnds (model X.prog X.w) X.A X.xe use Qf (.ref D) ce) s4 := by
    refine compLoop_any (fun n s' => ∃ i H', Inv (X.blk s3 H3 scope ce fp) [] (wipe σ (own.map (·.2))) H' s' ∧ tn i s'.heap ∧ (∀ b ∈ fp, H' b = none) ∧ W i n H') ?_ m0 ⟨0, H3, I4, st4, nfp, w0⟩
    rintro n s5 ⟨i, H5, I5, st5, n5, w5⟩
    rcases turn i n H5 w5 with ⟨stop, qq⟩ | ⟨go, Nx, hNx, step⟩
    · have td := T.done (X.blk s3 H3 scope ce fp) rfl rfl rfl hc i [] s5 _ H5 (fun _ _ => False) I5 (stat I5 n5) st5 stop
      refine thnF td fun r s6 ⟨hr, I6⟩ => ?_
      subst hr
      -- back in the def's context
      have I7 : Inv X pins σ H5 s6 := I3.call' (ch := fp) I6.os I6.base I6.hok I6.bare fun b hb => ⟨(f3 b hb).1.2.2.2.1, (f3 b hb).1.2.1, (f3 b hb).1.2.2.2.2.1, (f3 b hb).1.2.2.2.2.2⟩
      have nC : H5 s3.heap.objs.size = none := by
        have z : H5 ce.locals = none := I6.free
        rw [cL] at z
        exact z
      obtain ⟨m, hn, _⟩ := I6.loc
      have hn : s6.heap.Ns ce.locals m := hn
      exact hRR D ce s6 m H5 I7 qq hn (by rw [cL]; exact I3.fpOk (Nat.le_refl _) nC)
    · have ti := T.item (X.blk s3 H3 scope ce fp) rfl rfl rfl hc i [] s5 _ H5 (fun _ _ => False) I5 (stat I5 n5) st5 go
      refine thnF ti fun r s6 ⟨u, hr, h6⟩ => ?_
      subst hr
      refine thnF h6 fun _ s7 ⟨x, H7, I7, r7, y7, st7, n7⟩ => ?_
      have I7' := I7.pinned (stat I7 n7) (T.obj _ _ st7)
      refine thnF (pg.run _ s7 _ H7 x u _ I7' r7 (step x H7 y7)) fun _ s8 ⟨σ8, H8, I8, hw8, q8⟩ => ?_
      refine thnF (pt.run _ s8 σ8 H8 _ I8 q8) fun b s9 ⟨H9, I9, q9⟩ => ?_
      -- the turn's end
      have fin : ∀ {s' : Shared} {H' : Hp}, Inv (X.blk s3 H3 scope ce fp) ([] ++ pinsAt fp s7.heap) σ8 H' s' → Nx H' → ∃ m, m < n ∧ ∃ i H', Inv (X.blk s3 H3 scope ce fp) [] (wipe σ (own.map (·.2))) H' s' ∧ tn i s'.heap ∧ (∀ b ∈ fp, H' b = none) ∧ W i m H' := fun {s' H'} I' nx => by
        obtain ⟨m', hm, w'⟩ := hNx H' nx
        have pin' : ∀ b ∈ fp, ∀ o, s7.heap.get? b = some o → s'.heap.get? b = some o ∧ H' b = none := fun b hb o e =>
          let z := I'.pin (b, o) (List.mem_append_right _ (List.mem_append_right _ (mem_pinsAt hb e)))
          ⟨z.1, z.2.1⟩
        have hl : (wipe σ (own.map (·.2))).length = σ8.length := by rw [← hw8, wipe_length]
        refine ⟨m', hm, i + 1, H', (I'.unpinned (pins := [])).weak hl (fun j v e => ?_), T.keep _ _ _ st7 fun b hb o e => (pin' b hb o e).1, fun b hb => ?_, w'⟩
        · rw [← hw8] at e
          exact (wipe_some e).1
        · obtain ⟨o, e, _⟩ := T.obj _ _ st7 b hb
          exact (pin' b hb o e).2
      cases b with
      | false =>
        simp only [Bool.false_eq_true, if_false] at q9 ⊢
        exact fin I9 q9
      | true =>
        simp only [if_true] at q9 ⊢
        refine wpAny_mono (pe.run _ s9 σ8 H9 _ (I9.wish _) q9) (fun z s10 ⟨yv, H10, I10w, r10, acc, hD10, hz10, nx⟩ => ?_) hx
        have I10 := I10w.unwish
        exact app_ok (X := X.blk s3 H3 scope ce fp) I10 hD10 hz10 r10 fun s11 I11 => fin I11 nx
  exact codeAny_compStart_list loop (T.self X.A 0 _ _ _ st4 loop)
/-- the block's context, exceptions taken -/
abbrev blkR (X : Cx) (s : Shared) (H : Hp) (scope : Scope) (C : Addr) (cl : List (PySem.Str × Addr)) (fp : List Addr) : Cx := (X.blk s H scope (compEnvC scope cl C X.env) fp).wish (notedBy (model X.prog X.w) X.A (compEnvC scope cl C X.env) (CompFails (model X.prog X.w) X.A X.xe (compEnvC scope cl C X.env)))
def tLcR (wi : TI) (g : TG) (tt : TT) (te : L2.St → TE) (vs : List Nat) : TE := fun σ H Q => tLc wi g tt (te σ) vs σ H Q
theorem pe_lcR {W : WX} {elt tg iter : Expr} {ifs : List Expr} {scope : Scope} {own : List (PySem.Str × Nat)} {pos : Pos} {wi : TI} {g : TG} {tt : TT} {te : L2.St → TE} (tk : Takes X W) (hs0 : X.stack = X.env :: X.outer) (hf0 : X.env.frame = some X.env.locals) (hc : X.calm = true) (hN : X.N.Nodup) (hi : PI X tg iter wi) (ok : BlkOk X.N X.env.scope scope own)
    (hg : ∀ (s : Shared) (H : Hp) (C : Addr) (cl : List (PySem.Str × Addr)) (fp : List Addr), PG (X.blk s H scope (compEnvC scope cl C X.env) fp) tg g) (ht : ∀ (s : Shared) (H : Hp) (C : Addr) (cl : List (PySem.Str × Addr)) (fp : List Addr), PTs (X.blk s H scope (compEnvC scope cl C X.env) fp) ifs tt)
    (he : ∀ (σ : L2.St) (s : Shared) (H : Hp) (C : Addr) (cl : List (PySem.Str × Addr)) (fp : List Addr), (∀ τ, PassesAt (L2.CX X.prog X.w) (blkR X s H scope C cl fp) τ (fun cls d H => W cls d σ H)) → PE (blkR X s H scope C cl fp) elt (te σ)) (hs : ∀ x, foldedSetIterable iter X.env x = pure x := by intro _; rfl) :
    PE X (.ListComp elt [⟨tg, iter, ifs, 0⟩] scope pos) (tLcR wi g tt te (own.map (·.2))) := by
  refine ⟨fun pins s σ H Q I h => ?_⟩
  rw [eval_ListComp]
  refine lcR_core tk hs0 hf0 hc hN I hi ok hg ht (he σ) hs h fun D ce s' m H' I' q hn f => ⟨m, hn, fun h'' sb => ?_⟩
  obtain ⟨f0, f1, f2, f3, f4, f5⟩ := f
  exact ⟨.ref D, H', I'.turned (t' := s'.toks) (fun b o hb e => (sb.2 b hb).trans e) f0 f1 f3 f4 f5, rfl, q⟩
theorem ps_setLcR {W : WX} {i : Nat} {y : PySem.Str} {py : Pos} {elt tg iter : Expr} {ifs : List Expr} {scope : Scope} {own : List (PySem.Str × Nat)} {pos spos : Pos} {wi : TI} {g : TG} {tt : TT} {te : L2.St → TE} (tk : Takes X W) (hs0 : X.stack = X.env :: X.outer) (hf0 : X.env.frame = some X.env.locals) (hc : X.calm = true) (hN : X.N.Nodup) (hy : X.N[i]? = some y) (hyl : X.env.scope.names.lookup y = some .local)
    (hsw : swapsWith (.ListComp elt [⟨tg, iter, ifs, 0⟩] scope pos) (some (.Name y py)) spos.line X.env = pure true) (hi : PI X tg iter wi) (ok : BlkOk X.N X.env.scope scope own)
    (hg : ∀ (s : Shared) (H : Hp) (C : Addr) (cl : List (PySem.Str × Addr)) (fp : List Addr), PG (X.blk s H scope (compEnvC scope cl C X.env) fp) tg g) (ht : ∀ (s : Shared) (H : Hp) (C : Addr) (cl : List (PySem.Str × Addr)) (fp : List Addr), PTs (X.blk s H scope (compEnvC scope cl C X.env) fp) ifs tt)
    (he : ∀ (σ : L2.St) (s : Shared) (H : Hp) (C : Addr) (cl : List (PySem.Str × Addr)) (fp : List Addr), (∀ τ, PassesAt (L2.CX X.prog X.w) (blkR X s H scope C cl fp) τ (fun cls d H => W cls d σ H)) → PE (blkR X s H scope C cl fp) elt (te σ)) (hs : ∀ x, foldedSetIterable iter X.env x = pure x := by intro _; rfl) :
    PS X (.Assign [.Name y py] (.ListComp elt [⟨tg, iter, ifs, 0⟩] scope pos) spos) (tAsg (tLcR wi g tt te (own.map (·.2))) (gName i)) := by
  refine ⟨fun pins s σ H D I h => ?_⟩
  rw [exec_Assign_Name_used _ _ _ _ hsw]
  refine wpAny_bind (wpAny_standAt (wpAny_bind ?_))
  show wpAny _ X.A (do let _ ← comprehension (.ListComp elt [⟨tg, iter, ifs, 0⟩] scope pos) scope X.env (firstIterPos [⟨tg, iter, ifs, 0⟩] pos) (newList []) false (eval iter X.env) (some (assign (.Name y py) X.env))) _ _ s
  have h : tLc wi g tt (te σ) (own.map (·.2)) σ H (fun x H1 => gName i x σ H1 D.nx) := h
  refine wpAny_bind (thn (lcR_core (Qf := fun _ s' => SP X pins D .next s') tk hs0 hf0 hc hN I hi ok hg ht (he σ) hs h fun L ce s' m H' I' q hn f => ?_) fun _ s' hq => wpAny_pure (wpAny_pure hq))
  show wpAny _ _ (assign (.Name y py) X.env (.ref L)) _ _ _
  refine wpAny_assign_Name (store_ok2 (v := V.ref L) I' hN hy (.inl hyl) rfl (fun s2 I2 ⟨a, sb, ha⟩ => ?_) (.inr hyl))
  obtain ⟨f0, f1, f2, f3, f4, f5⟩ := f
  have haC : ce.locals ≠ a := by
    rcases ha with z | z
    · rw [z]; exact f1
    · exact fun e => f4 y a z e.symm
  refine ⟨m, hn.sameBut sb haC, fun h3 sb3 => ?_⟩
  exact ⟨_, H', I2.turned (t' := s2.toks) (fun b o hb e => (sb3.2 b hb).trans e) f0 f1 f3 f4 f5, q⟩
end
/-! ### the denotation -/
/-- calls, wherever what they let out is taken -/
def TkP (X : Cx) (W : WX) : Prop := ∀ τ, PassesAt (L2.CX X.prog X.w) X τ (WE W τ)
theorem tkp {X : Cx} {W : WX} (tk : Takes X W) : TkP X W := fun τ => passAt tk τ
def lcR (chk : List Cell → Prop) (g : GDen) (p : Den Bool) (h : Den D) (n : Nat) (env : Env) : List D → List Cell → Out Unit
  | [] => fun cs => if chk cs then .ok () cs else .no
  | x :: r => fun cs => if chk cs then (match g x env cs with
      | .nx env' cs => (match p env' cs with
        | .ok b cs => if b = true then (match h env' cs with
            | .ok d cs' => (match (trim cs cs' (d.lt cs.length))[n]? with
              | some (.lst acc) => if fitsL acc.length then lcR chk g p h n env r ((trim cs cs' (d.lt cs.length)).set n (.lst (acc ++ [d]))) else .no
              | _ => .no)
            | .exn c ks fs cs' => .exn c ks fs cs'
            | .no => .no) else lcR chk g p h n env r cs
        | _ => .no)
      | _ => .no) else .no
def cOut (n : Nat) : Out Unit → Out D
  | .ok _ cs' => .ok (.cell n) cs'
  | .exn c ks fs cs' => .exn c ks fs cs'
  | .no => .no
def dLcR (vs : List Nat) (f : Den ItV) (g : GDen) (p : Den Bool) (h : Den D) : Den D := fun env cs => (f env cs).bind fun it cs1 => cOut cs1.length (lcR it.chk g p h cs1.length (wipeE env vs) it.xs (cs1 ++ [.lst []]))
section
variable {X : Cx} {T : Tab} {W : WX} {tg iter elt : Expr} {pos : Pos} {h : Den D} {vs : List Nat}
theorem tLcR_of {f : Den ItV} {g : GDen} {p : Den Bool} {wi : TI} {tgt : TG} {tt : TT} {te : L2.St → TE} (e1 : wi = tG T X.K W (RI T X.K) f) (e2 : tgt = tGk T X.K vs g) (e3 : tt = tG T X.K W0 RB p) (e4 : te = fun σ0 => tG T X.K (fun cls d _ H => W cls d σ0 H) (RD T X.K) h) :
    ∀ σ H Q, tG T X.K W (RD T X.K) (dLcR vs f g p h) σ H Q → tLcR wi tgt tt te vs σ H Q := by
  subst e1 e2 e3 e4
  rintro σ H Q ⟨I, m, cs, env, er, sr, hh⟩
  refine ⟨I, m, cs, env, er, sr, OutG.bindI hh fun it cs1 J H1 I1 m1 s1 p1 sr1 r1 h1 => ?_⟩
  intro Dl hD
  have er1 := er.mono s1 p1
  have sr2 := sr1.newC (o := .lst []) (c := .lst []) hD (show CellR T X.K I1 m1 (.lst []) (.lst []) from (RpL.nil : RpL T X.K I1 m1 [] []))
  generalize eF : lcR it.chk g p h cs1.length (wipeE env vs) it.xs (cs1 ++ [.lst []]) = z at h1
  have hz : OutG T X.K (RD T X.K) I1 m1 (cOut cs1.length z) Q (fun cls od H' => W cls od σ H') := h1
  refine ⟨fun i n H => n = it.xs.length - i ∧ i ≤ it.xs.length ∧ ∃ I2 m2 cs2, Same I1 I2 ∧ (m1 ++ [Dl]) <+: m2 ∧ SR T X.K I2 m2 cs2 H ∧ lcR it.chk g p h cs1.length (wipeE env vs) (it.xs.drop i) cs2 = z,
    ⟨it.xs.length, by simp, Nat.zero_le _, I1, m1 ++ [Dl], _, Same.refl _, List.prefix_refl _, sr2, by simpa using eF⟩, ?_⟩
  rintro i n H ⟨rfl, hi, I2, m2, cs2, s2, p2, sr2, e2⟩
  have p12 : m1 <+: m2 := (List.prefix_append _ _).trans p2
  have atD : m2[cs1.length]? = some Dl := pre_get p2 (by rw [← sr1.len]; simp)
  have nz : z ≠ .no := fun e => by rw [e] at hz; exact hz.elim
  by_cases hlt : i < it.xs.length
  · have ed : it.xs.drop i = it.xs[i] :: it.xs.drop (i + 1) := by simp
    rw [ed] at e2
    unfold lcR at e2
    by_cases hc : it.chk cs2
    · rw [if_pos hc] at e2
      obtain ⟨q1, q2⟩ := r1 I2 m2 cs2 H s2 p12 sr2 hc
      obtain ⟨go, ys⟩ := q1 i it.xs[i] (by simp [hlt])
      refine .inr ⟨go, fun H' => ∃ I2 m2 cs2, Same I1 I2 ∧ (m1 ++ [Dl]) <+: m2 ∧ SR T X.K I2 m2 cs2 H' ∧ lcR it.chk g p h cs1.length (wipeE env vs) (it.xs.drop (i + 1)) cs2 = z, fun H' p' => ⟨it.xs.length - (i + 1), by omega, rfl, hlt, p'⟩, fun x H' y => ?_⟩
      obtain ⟨I3, s3, sr3, r3⟩ := ys x H' y
      refine ⟨I3, m2, cs2, wipeE env vs, it.xs[i], ((er1.mono s2 p12).mono s3 (List.prefix_refl _)).wipe, sr3, r3, ?_⟩
      cases hg : g it.xs[i] (wipeE env vs) cs2 with
      | nx env' cs4 =>
        simp only [hg] at e2 ⊢
        intro σ4 H4 I4 m4 s4 p4 sr4 er4 w4
        refine ⟨?_, I4, m4, cs4, env', er4, sr4, ?_⟩
        · have : L2.wipe (L2.wipe σ vs) vs = L2.wipe σ vs := by
            have gen : ∀ (ws us : List Nat) (τ : L2.St), (∀ v ∈ ws, v ∈ us) → L2.wipe (L2.wipe τ ws) us = L2.wipe τ us := fun ws => by
              induction ws with
              | nil => exact fun us τ _ => rfl
              | cons w ws ih =>
                intro us τ hsub
                show L2.wipe ((L2.wipe τ ws).set w none) us = _
                rw [wipe_set (hsub w List.mem_cons_self), ih us τ fun v hv => hsub v (List.mem_cons_of_mem _ hv)]
            exact gen vs vs σ fun _ h => h
          rw [w4, this]
        · refine OutG.noexn ?_
          cases hp : p env' cs4 with
          | ok b cs5 =>
            simp only [hp] at e2 ⊢
            intro b' H5 I5 m5 s5 p5 sr5 eb
            have eb : b = b' := eb
            subst eb
            have er5 := er4.mono s5 p5
            by_cases hb : b = true
            · rw [if_pos hb] at e2
              rw [if_pos hb]
              refine ⟨I5, m5, cs5, env', er5, sr5, ?_⟩
              cases hh : h env' cs5 with
              | ok d cs6 =>
                simp only [hh] at e2 ⊢
                intro v H6 I6 m6 s6 p6 sr6 r6
                -- cells let go
                have tr : ∃ m7, m5 <+: m7 ∧ SR T X.K I6 m7 (trim cs5 cs6 (d.lt cs5.length)) H6 ∧ Rp T X.K I6 m7 d v := by
                  unfold trim
                  by_cases ok : d.lt cs5.length = true ∧ trimOk cs5 cs6
                  · rw [if_pos ok]
                    obtain ⟨sr7, em⟩ := SR.trim sr5 sr6 p6 ok.2
                    have r7 := Rp.cut (n := cs5.length) ok.1 r6
                    rw [em] at r7
                    exact ⟨m5, List.prefix_refl _, sr7, r7⟩
                  · rw [if_neg ok]
                    exact ⟨m6, p6, sr6, r6⟩
                obtain ⟨m7, p7, sr7, r7⟩ := tr
                have atD7 : m7[cs1.length]? = some Dl := pre_get (p4.trans (p5.trans p7)) atD
                generalize trim cs5 cs6 (d.lt cs5.length) = cs7 at e2 sr7
                cases hn : cs7[cs1.length]? with
                | none => simp only [hn] at e2; exact absurd e2.symm nz
                | some cl =>
                  cases cl with
                  | lst acc =>
                    simp only [hn] at e2
                    by_cases hl : fitsL acc.length
                    · rw [if_pos hl] at e2
                      obtain ⟨a', ob, z1, z2, z3, z4⟩ := sr7.at_ _ _ hn (by intro z; cases z)
                      rw [atD7] at z1; cases z1
                      cases ob with
                      | lst us =>
                        have z4 : RpL T X.K I6 m7 acc us := z4
                        refine ⟨us, z3, by rw [← z4.length]; exact hl, I6, m7, _, s2.trans (s3.trans (s4.trans (s5.trans s6))), p2.trans (p4.trans (p5.trans p7)), ?_, e2⟩
                        exact sr7.setC hn (by intro z; cases z) atD7 (z4.append (RpL.one r7))
                      | _ => exact z4.elim
                    · rw [if_neg hl] at e2; exact absurd e2.symm nz
                  | _ => simp only [hn] at e2; exact absurd e2.symm nz
              | exn c ks fs cs6 =>
                simp only [hh] at e2 ⊢
                rw [← e2] at hz
                exact OutG.up (s2.trans (s3.trans (s4.trans s5))) (p12.trans (p4.trans p5)) hz
              | no => simp only [hh] at e2; exact absurd e2.symm nz
            · rw [if_neg hb] at e2
              rw [if_neg hb]
              exact ⟨I5, m5, cs5, s2.trans (s3.trans (s4.trans s5)), p2.trans (p4.trans p5), sr5, e2⟩
          | _ => simp only [hp] at e2; exact absurd e2.symm nz
      | _ => simp only [hg] at e2; exact absurd e2.symm nz
    · rw [if_neg hc] at e2; exact absurd e2.symm nz
  · have e : i = it.xs.length := by omega
    have ed : it.xs.drop i = [] := by rw [e]; simp
    rw [ed] at e2
    unfold lcR at e2
    by_cases hc : it.chk cs2
    · rw [if_pos hc] at e2
      rw [← e2] at hz
      refine .inl ⟨?_, hz (.ref Dl) H I2 m2 s2 p12 sr2 (rp_cell.mpr ⟨Dl, atD, rfl⟩)⟩
      rw [e]
      exact (r1 I2 m2 _ H s2 p12 sr2 hc).2
    · rw [if_neg hc] at e2; exact absurd e2.symm nz
theorem de_lcR {ifs : List Expr} {scope : Scope} {own : List (PySem.Str × Nat)} {f : Den ItV} {g : GDen} {p : Den Bool} (tk : Takes X W) (hc : X.calm = true) (hN : X.N.Nodup) (hi : DI X T W tg iter f) (ok : BlkOk X.N X.env.scope scope own)
    (hg : ∀ (s : Shared) (H : Hp) (C : Addr) (cl : List (PySem.Str × Addr)) (fp : List Addr), DGk (X.blk s H scope (compEnvC scope cl C X.env) fp) T (own.map (·.2)) tg g) (ht : ∀ (s : Shared) (H : Hp) (C : Addr) (cl : List (PySem.Str × Addr)) (fp : List Addr), DTs (X.blk s H scope (compEnvC scope cl C X.env) fp) T W0 ifs p)
    (he : ∀ (s : Shared) (H : Hp) (C : Addr) (cl : List (PySem.Str × Addr)) (fp : List Addr) (W' : WX), TkP (blkR X s H scope C cl fp) W' → DE (blkR X s H scope C cl fp) T W' elt h) (hs0 : X.stack = X.env :: X.outer := by rfl) (hf0 : X.env.frame = some X.env.locals := by rfl) (hs : ∀ x, foldedSetIterable iter X.env x = pure x := by intro _; rfl) :
    DE X T W (.ListComp elt [⟨tg, iter, ifs, 0⟩] scope pos) (dLcR (own.map (·.2)) f g p h) :=
  PE.imp (pe_lcR (g := tGk T X.K (own.map (fun x : PySem.Str × Nat => x.2)) g) (tt := tG T X.K W0 RB p) (te := fun σ0 => tG T X.K (fun cls d _ H => W cls d σ0 H) (RD T X.K) h) tk hs0 hf0 hc hN hi ok hg ht (fun σ s H C cl fp hp => he s H C cl fp (fun cls d _ H => W cls d σ H) hp) hs) (tLcR_of rfl rfl rfl rfl)
theorem ds_setLcR {i : Nat} {y : PySem.Str} {py spos : Pos} {ifs : List Expr} {scope : Scope} {own : List (PySem.Str × Nat)} {f : Den ItV} {g : GDen} {p : Den Bool} (tk : Takes X W) (hc : X.calm = true) (hN : X.N.Nodup) (hi : DI X T W tg iter f) (ok : BlkOk X.N X.env.scope scope own)
    (hg : ∀ (s : Shared) (H : Hp) (C : Addr) (cl : List (PySem.Str × Addr)) (fp : List Addr), DGk (X.blk s H scope (compEnvC scope cl C X.env) fp) T (own.map (·.2)) tg g) (ht : ∀ (s : Shared) (H : Hp) (C : Addr) (cl : List (PySem.Str × Addr)) (fp : List Addr), DTs (X.blk s H scope (compEnvC scope cl C X.env) fp) T W0 ifs p)
    (he : ∀ (s : Shared) (H : Hp) (C : Addr) (cl : List (PySem.Str × Addr)) (fp : List Addr) (W' : WX), TkP (blkR X s H scope C cl fp) W' → DE (blkR X s H scope C cl fp) T W' elt h) (hs0 : X.stack = X.env :: X.outer := by rfl) (hf0 : X.env.frame = some X.env.locals := by rfl) (hy : X.N[i]? = some y := by rfl) (hyl : X.env.scope.names.lookup y = some .local := by rfl)
    (hsw : swapsWith (.ListComp elt [⟨tg, iter, ifs, 0⟩] scope pos) (some (.Name y py)) spos.line X.env = pure true := by rfl) (hs : ∀ x, foldedSetIterable iter X.env x = pure x := by intro _; rfl) :
    DS X T W (.Assign [.Name y py] (.ListComp elt [⟨tg, iter, ifs, 0⟩] scope pos) spos) (sSet i (dTr (dFrz (dLcR (own.map (·.2)) f g p h)))) := by
  refine PS.imp (ps_setLcR (g := tGk T X.K (own.map (fun x : PySem.Str × Nat => x.2)) g) (tt := tG T X.K W0 RB p) (te := fun σ0 => tG T X.K (fun cls d _ H => W cls d σ0 H) (RD T X.K) h) tk hs0 hf0 hc hN hy hyl hsw hi ok hg ht (fun σ s H C cl fp hp => he s H C cl fp (fun cls d _ H => W cls d σ H) hp) hs) ?_
  intro B σ H hB
  obtain ⟨I, m, cs, env, er, sr, hB⟩ := hB
  refine tLcR_of rfl rfl rfl rfl σ H _ (tG_frz σ H _ (tG_tr σ H _ ⟨I, m, cs, env, er, sr, ?_⟩))
  exact SOk.bindE hB er fun d cs1 v H1 I1 m1 s1 p1 sr1 r1 h1 => SOk.nxI h1 sr1 ((er.mono s1 p1).set r1)
/-- a call, wherever what it lets out is taken -/
theorem de_callP {k j np : Nat} {x : PySem.Str} {f : Addr} {den : FDen} {e : Expr} {es : List Expr} {g : Den (List D)} {p pos : Pos} (c : DF X.prog X.w X.K X.mg X.base T k f np den) (hm : X.mg x = some (.ref f)) (hr : Room j X.A) (tk : TkP X W) (ha : DA X T W (e :: es) g) (hk : k ≤ j := by decide) (hg : Gl X x := by rfl)
    (hdb : (x == ("__debug__" : PySem.Str)) = false := by decide) (he : starEach (e :: es) X.env = (false, eval e X.env) :: starEach es X.env := by rfl) (hpl : (backTo pos (starEach es X.env)).any (·.1) = false := by rfl) :
    DE X T W (.Call (.Name x p) (e :: es) [] pos) (dFn den g) := by
  obtain ⟨fd, ps, hl, F, hb⟩ := c.ex
  refine PE.imp (pe_callS (E := WE W) F (hr.mono hk) hg hm c.kp hb tk ha hdb he hpl) ?_
  rintro σ H Q ⟨I, m, cs, env, er, sr, h⟩
  exact ⟨I, m, cs, env, er, sr, OutG.bindI h fun ds cs1 vs H1 I1 m1 s1 p1 sr1 r1 h1 => ⟨c.argn r1 h1, I1, m1, cs1, ds, sr1, r1, h1⟩⟩
end
end
end DL
end

section
set_option Elab.async false
set_option linter.all false
set_option maxRecDepth 100000
set_option maxHeartbeats 4000000
/-! DL29: == of lists and tuples item by item, True or False, while the items' own == makes objects. -/
namespace GQ2
open PySem PySem.SeqAt
open AutoSeq1 (wpAny_loadPart')
open MeetsSeq MeetsSeq2 MeetsSeq3 SeqRoads2
section
variable {prog : Program} {w : World} {A : Around} {R : Result → Shared → Prop}
def ListJ (prog : Program) (w : World) (A : Around) (E : Value → Shared → Prop) (l b : Addr) (N : Nat) (e : Nat → Bool) (I : Shared → Prop) : Prop :=
  ∀ s, I s → ∃ (items items2 : Array Value) (n n2 : Nat), s.heap.get? l = some { cls := .type "list", data := .seq items n } ∧ s.heap.get? b = some { cls := .type "list", data := .seq items2 n2 } ∧ items.size = N ∧ items2.size = N ∧
    ∀ i (h1 : i < items.size) (h2 : i < items2.size), wpAny (model prog w) A.in1 (eqBool items[i] items2[i]) (fun r s' => r = e i ∧ I s') E s
theorem all_range {N : Nat} {e : Nat → Bool} (h : ∀ j, j < N → e j = true) : (List.range N).all e = true := by
  rw [List.all_eq_true]; intro x hx; exact h x (List.mem_range.mp hx)
theorem all_range_f {N i : Nat} {e : Nat → Bool} (h : i < N) (he : e i = false) : (List.range N).all e = false := by
  rw [List.all_eq_false]; exact ⟨i, List.mem_range.mpr h, by simp [he]⟩
theorem eq_loop2 (l b : Addr) (N : Nat) (e : Nat → Bool) (I : Shared → Prop) (hl : ListJ prog w A (fun e s' => R (.error e) s') l b N e I)
    (fin : ∀ s, I s → R (.ok (.ret (.bool ((List.range N).all e)))) s) (k : Nat) :
    ∀ i : Nat, N - i = k → i ≤ N → (∀ j, j < i → e j = true) → ∀ s, I s →
      wpAny (model prog w) A.in1 (Builtin.«list.__eq__.loop» ⟨[.ref l, .ref b, rawInt i, rawInt 2], []⟩) (GQ.FinOf prog w A R) (fun e s' => R (.error e) s') s := by
  induction k with
  | zero =>
    intro i hk hi hj s h
    obtain ⟨items, items2, n, n2, hl1, hb1, hs1, hs2, _⟩ := hl _ h
    have hi' : i = N := by omega
    have hR : R (.ok (.ret (.bool ((List.range N).all e)))) s := fin s h
    rw [all_range (hi' ▸ hj)] at hR
    obtain ⟨hp, g, d, tk, os⟩ := s
    wp_walk using wpAny_loadPart' hl1, wpAny_loadPart' hb1
    have hi1 : items[((i : Nat) : Int).toNat]? = none := by simp; omega
    have hi2 : items2[((i : Nat) : Int).toNat]? = none := by simp; omega
    rw [hi1, hi2]
    wp_walk using wpAny_loadPart' hl1, wpAny_loadPart' hb1
    show R (.ok (.ret (.bool (items.size == items2.size)))) _
    rw [hs1, hs2]
    simpa using hR
  | succ k ih =>
    intro i hk hi hj s h
    obtain ⟨items, items2, n, n2, hl1, hb1, hs1, hs2, turn⟩ := hl _ h
    have hlt : i < items.size := by omega
    have hlt2 : i < items2.size := by omega
    have ht := turn i hlt hlt2
    obtain ⟨hp, g, d, tk, os⟩ := s
    wp_walk using wpAny_loadPart' hl1, wpAny_loadPart' hb1
    have hi1 : items[((i : Nat) : Int).toNat]? = some items[i] := by simp [hlt]
    have hi2 : items2[((i : Nat) : Int).toNat]? = some items2[i] := by simp [hlt2]
    have hc : ((i : Int) + 1) = ((i + 1 : Nat) : Int) := by omega
    rw [hi1, hi2]
    refine wpAny_bind (wpAny_mono ht (fun r s2 h2 => ?_) fun _ _ x => x)
    obtain ⟨hr, h2⟩ := h2
    subst hr
    cases he : e i with
    | true =>
      have hrec := ih (i + 1) (by omega) (by omega) (fun j q => by
        by_cases z : j = i
        · rw [z]; exact he
        · exact hj j (by omega)) s2 h2
      obtain ⟨hp2, g2, d2, tk2, os2⟩ := s2
      wp_walk
      rw [hc]
      exact ⟨plainId_quiet plain_eq_loop _, codeAny_builtin entry_eq_loop (by
        rw [Around.under_plainId plain_eq_loop _]
        exact hrec)⟩
    | false =>
      have hR : R (.ok (.ret (.bool ((List.range N).all e)))) s2 := fin s2 h2
      rw [all_range_f (by omega) he] at hR
      obtain ⟨it, it2, m, m2, kl, kb, ks1, ks2, _⟩ := hl _ h2
      have hi3 : it[((i : Nat) : Int).toNat]? = some (it[i]'(by omega)) := by simp
      have hi4 : it2[((i : Nat) : Int).toNat]? = some (it2[i]'(by omega)) := by simp
      obtain ⟨hp2, g2, d2, tk2, os2⟩ := s2
      wp_walk using wpAny_loadPart' kl, wpAny_loadPart' kb
      rw [hi3, hi4]
      wp_walk
      simpa using hR
theorem list_eq2 (l b : Addr) (N : Nat) (e : Nat → Bool) (I : Shared → Prop) (hl : ListJ prog w A (fun e s' => R (.error e) s') l b N e I)
    (fin : ∀ s, I s → R (.ok (.ret (.bool ((List.range N).all e)))) s) {s : Shared} (h : I s) :
    wpAny (model prog w) A.in1 (Builtin.«list.__eq__» ⟨[.ref l, .ref b], []⟩) (GQ.FinOf prog w A R) (fun e s' => R (.error e) s') s := by
  obtain ⟨items, items2, n, n2, hl1, hb1, hs1, hs2, _⟩ := hl _ h
  have hrec := eq_loop2 (A := A) (R := R) l b N e I hl fin _ 0 rfl (Nat.zero_le _) (fun _ h => absurd h (Nat.not_lt_zero _)) s h
  obtain ⟨hp, g, d, tk, os⟩ := s
  have f3 := AutoSeq1.sub_list_list
  have hne : ¬ (items.size != items2.size) = true := by simp [hs1, hs2]
  wp_walk using wpAny_loadPart' hl1, wpAny_loadPart' hb1
  exact ⟨plainId_quiet plain_eq_loop _, codeAny_builtin entry_eq_loop (by
    rw [Around.under_plainId plain_eq_loop _]
    exact hrec)⟩
theorem tuple_eq2 (l b : Addr) (items items2 : Array Value) (n n2 : Nat) (dd dd2 : Option Addr) (sl sl2 : Array (Option Value)) (e : Nat → Bool) (I : Shared → Prop)
    (turn : ∀ i (h1 : i < items.size) (h2 : i < items2.size) s, I s → wpAny (model prog w) A.in1 (eqBool items[i] items2[i]) (fun r s' => r = e i ∧ I s') (fun e s' => R (.error e) s') s)
    (fin : ∀ s, I s → R (.ok (.ret (.bool ((List.range (min items.size items2.size)).all e && items.size == items2.size)))) s) {s : Shared} (hl1 : s.heap.get? l = some { cls := .type "tuple", dict := dd, data := .seq items n, slots := sl }) (hb1 : s.heap.get? b = some { cls := .type "tuple", dict := dd2, data := .seq items2 n2, slots := sl2 }) (h : I s) :
    wpAny (model prog w) A.in1 (Builtin.«tuple.__eq__» ⟨[.ref l, .ref b], []⟩) (GQ.FinOf prog w A R) (fun e s' => R (.error e) s') s := by
  have f2 := AutoSeq1.sub_tuple_tuple
  have hZ : (items.toList.zip items2.toList).length = min items.size items2.size := by simp
  have h0 := h
  obtain ⟨hp, g, d, tk, os⟩ := s
  wp_walk using wpAny_loadPart' hl1, wpAny_loadPart' hb1, wpAny_forIn_list _ (fun rest b s' => b.1 = none ∧ ∃ i, rest = (items.toList.zip items2.toList).drop i ∧ i ≤ min items.size items2.size ∧ (∀ j, j < i → e j = true) ∧ I s') _
  case turn =>
    rintro ⟨y, x⟩ rest b s' ⟨hb', i, hz, hi, hj, hI⟩
    have hlt : i < (items.toList.zip items2.toList).length := by
      rcases Nat.lt_or_ge i (items.toList.zip items2.toList).length with h' | h'
      · exact h'
      · rw [List.drop_of_length_le h'] at hz; cases hz
    have hm : i < min items.size items2.size := hZ ▸ hlt
    have h1 : i < items.size := Nat.lt_of_lt_of_le hm (Nat.min_le_left _ _)
    have h2 : i < items2.size := Nat.lt_of_lt_of_le hm (Nat.min_le_right _ _)
    rw [List.drop_eq_getElem_cons hlt] at hz
    injection hz with hyx hrest
    have hy : y = items[i] := by have := congrArg Prod.fst hyx; simpa using this
    have hx : x = items2[i] := by have := congrArg Prod.snd hyx; simpa using this
    subst hy hx
    refine wpAny_bind (wpAny_mono (turn i h1 h2 s' hI) (fun r s2 q2 => ?_) fun _ _ x => x)
    obtain ⟨hr, q2⟩ := q2
    subst hr
    cases he : e i with
    | true =>
      wp_walk
      exact ⟨rfl, i + 1, hrest, hm, fun j q => by
        by_cases z : j = i
        · rw [z]; exact he
        · exact hj j (by omega), q2⟩
    | false =>
      have hR := fin s2 q2
      rw [all_range_f hm he] at hR
      wp_walk
      simpa using hR
  case fin =>
    rintro ⟨b1, b2⟩ s' ⟨hb', i, hz, hi, hj, hI⟩
    simp only at hb'
    subst hb'
    have hge : min items.size items2.size ≤ i := by
      rcases Nat.lt_or_ge i (items.toList.zip items2.toList).length with h' | h'
      · rw [List.drop_eq_getElem_cons h'] at hz; cases hz
      · exact hZ ▸ h'
    have hi' : i = min items.size items2.size := by omega
    have hR := fin s' hI
    rw [all_range (hi' ▸ hj)] at hR
    wp_walk
    simpa [Builtin.Tuple.tupleCompareSizes] using hR
  case h =>
    exact ⟨rfl, 0, rfl, Nat.zero_le _, (fun _ h => absurd h (Nat.not_lt_zero _)), h0⟩
theorem ne_loop2 (l b : Addr) (N : Nat) (e : Nat → Bool) (I : Shared → Prop) (hl : ListJ prog w A (fun e s' => R (.error e) s') l b N e I)
    (fin : ∀ s, I s → R (.ok (.ret (.bool (!(List.range N).all e)))) s) (k : Nat) :
    ∀ i : Nat, N - i = k → i ≤ N → (∀ j, j < i → e j = true) → ∀ s, I s →
      wpAny (model prog w) A.in1 (Builtin.«list.__eq__.loop» ⟨[.ref l, .ref b, rawInt i, rawInt 3], []⟩) (GQ.FinOf prog w A R) (fun e s' => R (.error e) s') s := by
  induction k with
  | zero =>
    intro i hk hi hj s h
    obtain ⟨items, items2, n, n2, hl1, hb1, hs1, hs2, _⟩ := hl _ h
    have hi' : i = N := by omega
    have hR : R (.ok (.ret (.bool (!(List.range N).all e)))) s := fin s h
    rw [all_range (hi' ▸ hj)] at hR
    obtain ⟨hp, g, d, tk, os⟩ := s
    wp_walk using wpAny_loadPart' hl1, wpAny_loadPart' hb1
    have hi1 : items[((i : Nat) : Int).toNat]? = none := by simp; omega
    have hi2 : items2[((i : Nat) : Int).toNat]? = none := by simp; omega
    rw [hi1, hi2]
    wp_walk using wpAny_loadPart' hl1, wpAny_loadPart' hb1
    show R (.ok (.ret (.bool (items.size != items2.size)))) _
    rw [hs1, hs2]
    simpa using hR
  | succ k ih =>
    intro i hk hi hj s h
    obtain ⟨items, items2, n, n2, hl1, hb1, hs1, hs2, turn⟩ := hl _ h
    have hlt : i < items.size := by omega
    have hlt2 : i < items2.size := by omega
    have ht := turn i hlt hlt2
    obtain ⟨hp, g, d, tk, os⟩ := s
    wp_walk using wpAny_loadPart' hl1, wpAny_loadPart' hb1
    have hi1 : items[((i : Nat) : Int).toNat]? = some items[i] := by simp [hlt]
    have hi2 : items2[((i : Nat) : Int).toNat]? = some items2[i] := by simp [hlt2]
    have hc : ((i : Int) + 1) = ((i + 1 : Nat) : Int) := by omega
    rw [hi1, hi2]
    refine wpAny_bind (wpAny_mono ht (fun r s2 h2 => ?_) fun _ _ x => x)
    obtain ⟨hr, h2⟩ := h2
    subst hr
    cases he : e i with
    | true =>
      have hrec := ih (i + 1) (by omega) (by omega) (fun j q => by
        by_cases z : j = i
        · rw [z]; exact he
        · exact hj j (by omega)) s2 h2
      obtain ⟨hp2, g2, d2, tk2, os2⟩ := s2
      wp_walk
      rw [hc]
      exact ⟨plainId_quiet plain_eq_loop _, codeAny_builtin entry_eq_loop (by
        rw [Around.under_plainId plain_eq_loop _]
        exact hrec)⟩
    | false =>
      have hR : R (.ok (.ret (.bool (!(List.range N).all e)))) s2 := fin s2 h2
      rw [all_range_f (by omega) he] at hR
      obtain ⟨it, it2, m, m2, kl, kb, ks1, ks2, _⟩ := hl _ h2
      have hi3 : it[((i : Nat) : Int).toNat]? = some (it[i]'(by omega)) := by simp
      have hi4 : it2[((i : Nat) : Int).toNat]? = some (it2[i]'(by omega)) := by simp
      obtain ⟨hp2, g2, d2, tk2, os2⟩ := s2
      wp_walk using wpAny_loadPart' kl, wpAny_loadPart' kb
      rw [hi3, hi4]
      wp_walk
      simpa using hR
theorem list_ne2 (l b : Addr) (N : Nat) (e : Nat → Bool) (I : Shared → Prop) (hl : ListJ prog w A (fun e s' => R (.error e) s') l b N e I)
    (fin : ∀ s, I s → R (.ok (.ret (.bool (!(List.range N).all e)))) s) {s : Shared} (h : I s) :
    wpAny (model prog w) A.in1 (Builtin.«list.__ne__» ⟨[.ref l, .ref b], []⟩) (GQ.FinOf prog w A R) (fun e s' => R (.error e) s') s := by
  obtain ⟨items, items2, n, n2, hl1, hb1, hs1, hs2, _⟩ := hl _ h
  have hrec := ne_loop2 (A := A) (R := R) l b N e I hl fin _ 0 rfl (Nat.zero_le _) (fun _ h => absurd h (Nat.not_lt_zero _)) s h
  obtain ⟨hp, g, d, tk, os⟩ := s
  have f3 := AutoSeq1.sub_list_list
  have hne : ¬ (items.size != items2.size) = true := by simp [hs1, hs2]
  wp_walk using wpAny_loadPart' hl1, wpAny_loadPart' hb1
  exact ⟨plainId_quiet plain_eq_loop _, codeAny_builtin entry_eq_loop (by
    rw [Around.under_plainId plain_eq_loop _]
    exact hrec)⟩
theorem tuple_ne2 (l b : Addr) (items items2 : Array Value) (n n2 : Nat) (dd dd2 : Option Addr) (sl sl2 : Array (Option Value)) (e : Nat → Bool) (I : Shared → Prop)
    (turn : ∀ i (h1 : i < items.size) (h2 : i < items2.size) s, I s → wpAny (model prog w) A.in1 (eqBool items[i] items2[i]) (fun r s' => r = e i ∧ I s') (fun e s' => R (.error e) s') s)
    (fin : ∀ s, I s → R (.ok (.ret (.bool (!((List.range (min items.size items2.size)).all e && items.size == items2.size))))) s) {s : Shared} (hl1 : s.heap.get? l = some { cls := .type "tuple", dict := dd, data := .seq items n, slots := sl }) (hb1 : s.heap.get? b = some { cls := .type "tuple", dict := dd2, data := .seq items2 n2, slots := sl2 }) (h : I s) :
    wpAny (model prog w) A.in1 (Builtin.«tuple.__ne__» ⟨[.ref l, .ref b], []⟩) (GQ.FinOf prog w A R) (fun e s' => R (.error e) s') s := by
  have f2 := AutoSeq1.sub_tuple_tuple
  have hZ : (items.toList.zip items2.toList).length = min items.size items2.size := by simp
  have h0 := h
  obtain ⟨hp, g, d, tk, os⟩ := s
  wp_walk using wpAny_loadPart' hl1, wpAny_loadPart' hb1, wpAny_forIn_list _ (fun rest b s' => b.1 = none ∧ ∃ i, rest = (items.toList.zip items2.toList).drop i ∧ i ≤ min items.size items2.size ∧ (∀ j, j < i → e j = true) ∧ I s') _
  case turn =>
    rintro ⟨y, x⟩ rest b s' ⟨hb', i, hz, hi, hj, hI⟩
    have hlt : i < (items.toList.zip items2.toList).length := by
      rcases Nat.lt_or_ge i (items.toList.zip items2.toList).length with h' | h'
      · exact h'
      · rw [List.drop_of_length_le h'] at hz; cases hz
    have hm : i < min items.size items2.size := hZ ▸ hlt
    have h1 : i < items.size := Nat.lt_of_lt_of_le hm (Nat.min_le_left _ _)
    have h2 : i < items2.size := Nat.lt_of_lt_of_le hm (Nat.min_le_right _ _)
    rw [List.drop_eq_getElem_cons hlt] at hz
    injection hz with hyx hrest
    have hy : y = items[i] := by have := congrArg Prod.fst hyx; simpa using this
    have hx : x = items2[i] := by have := congrArg Prod.snd hyx; simpa using this
    subst hy hx
    refine wpAny_bind (wpAny_mono (turn i h1 h2 s' hI) (fun r s2 q2 => ?_) fun _ _ x => x)
    obtain ⟨hr, q2⟩ := q2
    subst hr
    cases he : e i with
    | true =>
      wp_walk
      exact ⟨rfl, i + 1, hrest, hm, fun j q => by
        by_cases z : j = i
        · rw [z]; exact he
        · exact hj j (by omega), q2⟩
    | false =>
      have hR := fin s2 q2
      rw [all_range_f hm he] at hR
      wp_walk
      simpa using hR
  case fin =>
    rintro ⟨b1, b2⟩ s' ⟨hb', i, hz, hi, hj, hI⟩
    simp only at hb'
    subst hb'
    have hge : min items.size items2.size ≤ i := by
      rcases Nat.lt_or_ge i (items.toList.zip items2.toList).length with h' | h'
      · rw [List.drop_eq_getElem_cons h'] at hz; cases hz
      · exact hZ ▸ h'
    have hi' : i = min items.size items2.size := by omega
    have hR := fin s' hI
    rw [all_range (hi' ▸ hj)] at hR
    wp_walk
    simpa [Builtin.Tuple.tupleCompareSizes, bne] using hR
  case h =>
    exact ⟨rfl, 0, rfl, Nat.zero_le _, (fun _ h => absurd h (Nat.not_lt_zero _)), h0⟩
end
section
variable {prog : Program} {w : World} {A : Around} {E : Value → Shared → Prop} {s : Shared}
theorem rc_list2 {l b : Addr} {N : Nat} {e : Nat → Bool} {Q : Value → Shared → Prop} (hu : A.units < cLine) (I : Shared → Prop) (hl : ListJ prog w A E l b N e I)
    (fin : ∀ s, I s → Q (.bool ((List.range N).all e)) s) (h : I s) : wpAny (model prog w) A (richCompare .Eq (.ref l) (.ref b)) Q E s := by
  obtain ⟨items, items2, n, n2, hl1, hb1, _, _, _⟩ := hl _ h
  refine wpAny_richCompare_same_room (op := .Eq) ⟨_, hl1, rfl⟩ ⟨_, hb1, rfl⟩ F.slot_list_eq (GQ.call_here F.slot_list_eq ⟨_, hl1, rfl⟩ F.entry_list_eq (F.args_list_eq_2 _ _) ?_) hu
  exact list_eq2 (R := wants (fun v s' => v ≠ .notImplemented ∧ Q v s') E) l b N e I hl (fun s' q => ⟨(fun x => nomatch x), fin s' q⟩) h
theorem rc_tup2 {l b : Addr} {items items2 : Array Value} {e : Nat → Bool} {Q : Value → Shared → Prop} (hu : A.units < cLine) (I : Shared → Prop)
    (hl : s.heap.IsTuple l items) (hb : s.heap.IsTuple b items2)
    (turn : ∀ i (h1 : i < items.size) (h2 : i < items2.size) s, I s → wpAny (model prog w) A.in1 (eqBool items[i] items2[i]) (fun r s' => r = e i ∧ I s') E s)
    (fin : ∀ s, I s → Q (.bool ((List.range (min items.size items2.size)).all e && items.size == items2.size)) s) (h : I s) : wpAny (model prog w) A (richCompare .Eq (.ref l) (.ref b)) Q E s := by
  obtain ⟨⟨cls, dd, data, sl⟩, ho, hc, n, hd⟩ := id hl
  obtain ⟨⟨cls2, dd2, data2, sl2⟩, ho2, hc2, n2, hd2⟩ := id hb
  simp only at hc hd hc2 hd2
  subst hc hd hc2 hd2
  refine wpAny_richCompare_same_room (op := .Eq) ⟨_, ho, rfl⟩ ⟨_, ho2, rfl⟩ F.slot_tuple_eq (GQ.call_here F.slot_tuple_eq ⟨_, ho, rfl⟩ F.entry_tuple_eq (F.args_tuple_eq_2 _ _) ?_) hu
  exact tuple_eq2 (R := wants (fun v s' => v ≠ .notImplemented ∧ Q v s') E) l b items items2 n n2 dd dd2 sl sl2 e I turn (fun s' q => ⟨(fun x => nomatch x), fin s' q⟩) ho ho2 h
theorem rcn_list2 {l b : Addr} {N : Nat} {e : Nat → Bool} {Q : Value → Shared → Prop} (hu : A.units < cLine) (I : Shared → Prop) (hl : ListJ prog w A E l b N e I)
    (fin : ∀ s, I s → Q (.bool (!(List.range N).all e)) s) (h : I s) : wpAny (model prog w) A (richCompare .NotEq (.ref l) (.ref b)) Q E s := by
  obtain ⟨items, items2, n, n2, hl1, hb1, _, _, _⟩ := hl _ h
  refine wpAny_richCompare_same_room (op := .NotEq) ⟨_, hl1, rfl⟩ ⟨_, hb1, rfl⟩ F.slot_list_ne (GQ.call_here F.slot_list_ne ⟨_, hl1, rfl⟩ F.entry_list_ne (F.args_list_ne_2 _ _) ?_) hu
  exact list_ne2 (R := wants (fun v s' => v ≠ .notImplemented ∧ Q v s') E) l b N e I hl (fun s' q => ⟨(fun x => nomatch x), fin s' q⟩) h
theorem rcn_tup2 {l b : Addr} {items items2 : Array Value} {e : Nat → Bool} {Q : Value → Shared → Prop} (hu : A.units < cLine) (I : Shared → Prop)
    (hl : s.heap.IsTuple l items) (hb : s.heap.IsTuple b items2)
    (turn : ∀ i (h1 : i < items.size) (h2 : i < items2.size) s, I s → wpAny (model prog w) A.in1 (eqBool items[i] items2[i]) (fun r s' => r = e i ∧ I s') E s)
    (fin : ∀ s, I s → Q (.bool (!((List.range (min items.size items2.size)).all e && items.size == items2.size))) s) (h : I s) : wpAny (model prog w) A (richCompare .NotEq (.ref l) (.ref b)) Q E s := by
  obtain ⟨⟨cls, dd, data, sl⟩, ho, hc, n, hd⟩ := id hl
  obtain ⟨⟨cls2, dd2, data2, sl2⟩, ho2, hc2, n2, hd2⟩ := id hb
  simp only at hc hd hc2 hd2
  subst hc hd hc2 hd2
  refine wpAny_richCompare_same_room (op := .NotEq) ⟨_, ho, rfl⟩ ⟨_, ho2, rfl⟩ F.slot_tuple_ne (GQ.call_here F.slot_tuple_ne ⟨_, ho, rfl⟩ F.entry_tuple_ne (F.args_tuple_ne_2 _ _) ?_) hu
  exact tuple_ne2 (R := wants (fun v s' => v ≠ .notImplemented ∧ Q v s') E) l b items items2 n n2 dd dd2 sl sl2 e I turn (fun s' q => ⟨(fun x => nomatch x), fin s' q⟩) ho ho2 h
end
section
variable {prog : Program} {w : World} {A : Around} {R : Result → Shared → Prop}
theorem any_range {N : Nat} {e : Nat → Bool} (h : ∀ j, j < N → e j = false) : (List.range N).any e = false := by
  rw [List.any_eq_false]; intro x hx; simp [h x (List.mem_range.mp hx)]
theorem any_range_t {N i : Nat} {e : Nat → Bool} (h : i < N) (he : e i = true) : (List.range N).any e = true := by
  rw [List.any_eq_true]; exact ⟨i, List.mem_range.mpr h, he⟩
def HasJ (prog : Program) (w : World) (A : Around) (E : Value → Shared → Prop) (l : Addr) (x : Value) (N : Nat) (e : Nat → Bool) (I : Shared → Prop) : Prop :=
  ∀ s, I s → ∃ (items : Array Value) (n : Nat), s.heap.get? l = some { cls := .type "list", data := .seq items n } ∧ items.size = N ∧
    ∀ i (h1 : i < items.size), wpAny (model prog w) A.in1 (eqBool items[i] x) (fun r s' => r = e i ∧ I s') E s
theorem contains_loop2 (l : Addr) (x : Value) (N : Nat) (e : Nat → Bool) (I : Shared → Prop) (hl : HasJ prog w A (fun e s' => R (.error e) s') l x N e I)
    (fin : ∀ s, I s → R (.ok (.ret (.bool ((List.range N).any e)))) s) (k : Nat) :
    ∀ i : Nat, N - i = k → i ≤ N → (∀ j, j < i → e j = false) → ∀ s, I s →
      wpAny (model prog w) A.in1 (Builtin.«list.__contains__.loop» ⟨[.ref l, x, rawInt i], []⟩) (GQ.FinOf prog w A R) (fun e s' => R (.error e) s') s := by
  induction k with
  | zero =>
    intro i hk hi hj s h
    obtain ⟨items, n, hl1, hs1, _⟩ := hl _ h
    have hi' : i = N := by omega
    have hR : R (.ok (.ret (.bool ((List.range N).any e)))) s := fin s h
    rw [any_range (hi' ▸ hj)] at hR
    obtain ⟨hp, g, d, tk, os⟩ := s
    wp_walk using wpAny_loadPart' hl1
    have hi1 : items[((i : Nat) : Int).toNat]? = none := by simp; omega
    rw [hi1]
    wp_walk
    exact hR
  | succ k ih =>
    intro i hk hi hj s h
    obtain ⟨items, n, hl1, hs1, turn⟩ := hl _ h
    have hlt : i < items.size := by omega
    have ht := turn i hlt
    obtain ⟨hp, g, d, tk, os⟩ := s
    wp_walk using wpAny_loadPart' hl1
    have hi1 : items[((i : Nat) : Int).toNat]? = some items[i] := by simp [hlt]
    have hc : ((i : Int) + 1) = ((i + 1 : Nat) : Int) := by omega
    rw [hi1]
    refine wpAny_bind (wpAny_mono ht (fun r s2 h2 => ?_) fun _ _ x => x)
    obtain ⟨hr, h2⟩ := h2
    subst hr
    cases he : e i with
    | false =>
      have hrec := ih (i + 1) (by omega) (by omega) (fun j q => by
        by_cases z : j = i
        · rw [z]; exact he
        · exact hj j (by omega)) s2 h2
      obtain ⟨hp2, g2, d2, tk2, os2⟩ := s2
      wp_walk
      rw [hc]
      exact ⟨plainId_quiet plain_contains_loop _, codeAny_builtin entry_contains_loop (by
        rw [Around.under_plainId plain_contains_loop _]
        exact hrec)⟩
    | true =>
      have hR : R (.ok (.ret (.bool ((List.range N).any e)))) s2 := fin s2 h2
      rw [any_range_t (by omega) he] at hR
      obtain ⟨hp2, g2, d2, tk2, os2⟩ := s2
      wp_walk
      exact hR
theorem list_contains2 (l : Addr) (x : Value) (N : Nat) (e : Nat → Bool) (I : Shared → Prop) (hl : HasJ prog w A (fun e s' => R (.error e) s') l x N e I)
    (fin : ∀ s, I s → R (.ok (.ret (.bool ((List.range N).any e)))) s) {s : Shared} (h : I s) :
    wpAny (model prog w) A.in1 (Builtin.«list.__contains__» ⟨[.ref l, x], []⟩) (GQ.FinOf prog w A R) (fun e s' => R (.error e) s') s := by
  obtain ⟨items, n, hl1, hs1, _⟩ := hl _ h
  have hrec := contains_loop2 (A := A) (R := R) l x N e I hl fin _ 0 rfl (Nat.zero_le _) (fun _ h => absurd h (Nat.not_lt_zero _)) s h
  obtain ⟨hp, g, d, tk, os⟩ := s
  wp_walk using wpAny_loadPart' hl1
  exact ⟨plainId_quiet plain_contains_loop _, codeAny_builtin entry_contains_loop (by
    rw [Around.under_plainId plain_contains_loop _]
    exact hrec)⟩
theorem tuple_contains2 (l : Addr) (items : Array Value) (n : Nat) (dd : Option Addr) (sl : Array (Option Value)) (x : Value) (e : Nat → Bool) (I : Shared → Prop)
    (turn : ∀ i (h1 : i < items.size) s, I s → wpAny (model prog w) A.in1 (eqBool items[i] x) (fun r s' => r = e i ∧ I s') (fun e s' => R (.error e) s') s)
    (fin : ∀ s, I s → R (.ok (.ret (.bool ((List.range items.size).any e)))) s) {s : Shared} (hl1 : s.heap.get? l = some { cls := .type "tuple", dict := dd, data := .seq items n, slots := sl }) (h : I s) :
    wpAny (model prog w) A.in1 (Builtin.«tuple.__contains__» ⟨[.ref l, x], []⟩) (GQ.FinOf prog w A R) (fun e s' => R (.error e) s') s := by
  have h0 := h
  obtain ⟨hp, g, d, tk, os⟩ := s
  wp_walk using wpAny_loadPart' hl1, wpAny_forIn_array _ (fun rest b s' => b.1 = none ∧ ∃ i, rest = items.toList.drop i ∧ i ≤ items.size ∧ (∀ j, j < i → e j = false) ∧ I s') _
  case turn =>
    rintro y rest b s' ⟨hb', i, hz, hi, hj, hI⟩
    have hlt : i < items.toList.length := by
      rcases Nat.lt_or_ge i items.toList.length with h' | h'
      · exact h'
      · rw [List.drop_of_length_le h'] at hz; cases hz
    have h1 : i < items.size := by simpa using hlt
    rw [List.drop_eq_getElem_cons hlt] at hz
    injection hz with hyx hrest
    have hy : y = items[i] := by simpa using hyx
    subst hy
    refine wpAny_bind (wpAny_mono (turn i h1 s' hI) (fun r s2 q2 => ?_) fun _ _ x => x)
    obtain ⟨hr, q2⟩ := q2
    subst hr
    cases he : e i with
    | false =>
      wp_walk
      exact ⟨rfl, i + 1, hrest, h1, fun j q => by
        by_cases z : j = i
        · rw [z]; exact he
        · exact hj j (by omega), q2⟩
    | true =>
      have hR := fin s2 q2
      rw [any_range_t h1 he] at hR
      wp_walk
      exact hR
  case fin =>
    rintro ⟨b1, b2⟩ s' ⟨hb', i, hz, hi, hj, hI⟩
    simp only at hb'
    subst hb'
    have hge : items.size ≤ i := by
      rcases Nat.lt_or_ge i items.toList.length with h' | h'
      · rw [List.drop_eq_getElem_cons h'] at hz; cases hz
      · simpa using h'
    have hi' : i = items.size := by omega
    have hR := fin s' hI
    rw [any_range (hi' ▸ hj)] at hR
    wp_walk
    exact hR
  case h =>
    exact ⟨rfl, 0, rfl, Nat.zero_le _, (fun _ h => absurd h (Nat.not_lt_zero _)), h0⟩
end
section
variable {prog : Program} {w : World} {A : Around} {E : Value → Shared → Prop} {s : Shared}
theorem in_list2 {l : Addr} {x : Value} {N : Nat} {e : Nat → Bool} {Q : Value → Shared → Prop} (I : Shared → Prop) (hl : HasJ prog w A E l x N e I)
    (fin : ∀ s, I s → Q (.bool ((List.range N).any e)) s) (h : I s) : wpAny (model prog w) A (compareOp .In x (.ref l)) Q E s := by
  obtain ⟨items, n, hl1, _, _⟩ := hl _ h
  show wpAny _ A (do return .bool (← contains (.ref l) x)) Q E s
  refine wpAny_bind (wpAny_contains_slot ⟨_, hl1, rfl⟩ F.slot_list_contains (wpAny_mono (GQ.call_here (Q := fun v s' => v = .bool ((List.range N).any e) ∧ I s') (E := E) F.slot_list_contains ⟨_, hl1, rfl⟩ F.entry_list_contains (F.args_list_contains_2 _ _) (list_contains2 (R := wants (fun v s' => v = .bool ((List.range N).any e) ∧ I s') E) l x N e I hl (fun s q => ⟨rfl, q⟩) h)) (fun v s' hv => ?_) fun _ _ e => e))
  obtain ⟨rfl, hq⟩ := hv
  exact wpAny_truthy_bool (wpAny_pure (fin _ hq))
theorem notIn_list2 {l : Addr} {x : Value} {N : Nat} {e : Nat → Bool} {Q : Value → Shared → Prop} (I : Shared → Prop) (hl : HasJ prog w A E l x N e I)
    (fin : ∀ s, I s → Q (.bool (!(List.range N).any e)) s) (h : I s) : wpAny (model prog w) A (compareOp .NotIn x (.ref l)) Q E s := by
  obtain ⟨items, n, hl1, _, _⟩ := hl _ h
  show wpAny _ A (do return .bool (!(← contains (.ref l) x))) Q E s
  refine wpAny_bind (wpAny_contains_slot ⟨_, hl1, rfl⟩ F.slot_list_contains (wpAny_mono (GQ.call_here (Q := fun v s' => v = .bool ((List.range N).any e) ∧ I s') (E := E) F.slot_list_contains ⟨_, hl1, rfl⟩ F.entry_list_contains (F.args_list_contains_2 _ _) (list_contains2 (R := wants (fun v s' => v = .bool ((List.range N).any e) ∧ I s') E) l x N e I hl (fun s q => ⟨rfl, q⟩) h)) (fun v s' hv => ?_) fun _ _ e => e))
  obtain ⟨rfl, hq⟩ := hv
  exact wpAny_truthy_bool (wpAny_pure (fin _ hq))
theorem in_tuple2 {l : Addr} {items : Array Value} {x : Value} {e : Nat → Bool} {Q : Value → Shared → Prop} (I : Shared → Prop) (hl : s.heap.IsTuple l items)
    (turn : ∀ i (h1 : i < items.size) s, I s → wpAny (model prog w) A.in1 (eqBool items[i] x) (fun r s' => r = e i ∧ I s') E s)
    (fin : ∀ s, I s → Q (.bool ((List.range items.size).any e)) s) (h : I s) : wpAny (model prog w) A (compareOp .In x (.ref l)) Q E s := by
  obtain ⟨⟨cls, dd, data, sl⟩, ho, hc, n, hd⟩ := id hl
  simp only at hc hd
  subst hc hd
  show wpAny _ A (do return .bool (← contains (.ref l) x)) Q E s
  refine wpAny_bind (wpAny_contains_slot ⟨_, ho, rfl⟩ F.slot_tuple_contains (wpAny_mono (GQ.call_here (Q := fun v s' => v = .bool ((List.range items.size).any e) ∧ I s') (E := E) F.slot_tuple_contains ⟨_, ho, rfl⟩ F.entry_tuple_contains (F.args_tuple_contains_2 _ _) (tuple_contains2 (R := wants (fun v s' => v = .bool ((List.range items.size).any e) ∧ I s') E) l items n dd sl x e I turn (fun s q => ⟨rfl, q⟩) ho h)) (fun v s' hv => ?_) fun _ _ e => e))
  obtain ⟨rfl, hq⟩ := hv
  exact wpAny_truthy_bool (wpAny_pure (fin _ hq))
theorem notIn_tuple2 {l : Addr} {items : Array Value} {x : Value} {e : Nat → Bool} {Q : Value → Shared → Prop} (I : Shared → Prop) (hl : s.heap.IsTuple l items)
    (turn : ∀ i (h1 : i < items.size) s, I s → wpAny (model prog w) A.in1 (eqBool items[i] x) (fun r s' => r = e i ∧ I s') E s)
    (fin : ∀ s, I s → Q (.bool (!(List.range items.size).any e)) s) (h : I s) : wpAny (model prog w) A (compareOp .NotIn x (.ref l)) Q E s := by
  obtain ⟨⟨cls, dd, data, sl⟩, ho, hc, n, hd⟩ := id hl
  simp only at hc hd
  subst hc hd
  show wpAny _ A (do return .bool (!(← contains (.ref l) x))) Q E s
  refine wpAny_bind (wpAny_contains_slot ⟨_, ho, rfl⟩ F.slot_tuple_contains (wpAny_mono (GQ.call_here (Q := fun v s' => v = .bool ((List.range items.size).any e) ∧ I s') (E := E) F.slot_tuple_contains ⟨_, ho, rfl⟩ F.entry_tuple_contains (F.args_tuple_contains_2 _ _) (tuple_contains2 (R := wants (fun v s' => v = .bool ((List.range items.size).any e) ∧ I s') E) l items n dd sl x e I turn (fun s q => ⟨rfl, q⟩) ho h)) (fun v s' hv => ?_) fun _ _ e => e))
  obtain ⟨rfl, hq⟩ := hv
  exact wpAny_truthy_bool (wpAny_pure (fin _ hq))
/-- == inside a builtin, of two different values -/
theorem eqBool_ne {a b : Value} {Q : Bool → Shared → Prop} (hne : a ≠ b) (hf : ∀ x t, a ≠ .float x t) (h : wpAny (model prog w) A (richCompare .Eq a b) (fun v s' => ∃ r, v = .bool r ∧ Q r s') E s) : wpAny (model prog w) A (eqBool a b) Q E s := by
  unfold eqBool
  refine wpAny_holding ?_
  refine wpAny_ite_split (fun hab => absurd (eq_of_beq hab) hne) (fun _ => ?_)
  have g : wpAny (model prog w) A (do let x ← richCompare .Eq a b; truthOfDropped x) Q E s := by
    refine wpAny_bind (wpAny_mono h (fun v s' hv => ?_) fun _ _ x => x)
    obtain ⟨r, rfl, q⟩ := hv
    exact wpAny_truthy_bool q
  split
  · rename_i heq
    exact absurd (Prod.mk.inj heq).1 (hf _ _)
  · exact g
end
end GQ2
end

section
set_option Elab.async false
set_option linter.all false
set_option maxRecDepth 100000
set_option maxHeartbeats 4000000
/-! DL30: == and in of data with objects, by the text's own __eq__, True or False. -/
namespace DL
open PySem L2 PyProof.Rows SeqAt
open Classical
noncomputable section
structure OwnQ (T : Tab) (K : PySem.W.Frag) (f : Addr) (CS : List Nat) : Prop where
  own : ∀ c ∈ CS, OwnC K f (T.ca c)
  nf : ∀ c ∈ CS, ∀ c' ∈ CS, PySem.W.notFirst K (T.ca c) (.ref (T.ca c')) = true
  nfn : ∀ c ∈ CS, PySem.W.notFirst K (T.ca c) (.type "NoneType") = true
  sbn : ∀ c ∈ CS, PySem.W.subIn K (.ref (T.ca c)) (.type "NoneType") = some false
  inj : ∀ c ∈ CS, ∀ c' ∈ CS, T.ca c = T.ca c' → c = c'
/-! ### item by item -/
def eAt (xs ys : List D) (i : Nat) : Bool := match xs[i]?, ys[i]? with
  | some a, some b => eqD a b == some true
  | _, _ => true
theorem eAt_eq {xs ys : List D} {i : Nat} {a b : D} {r : Bool} (h1 : xs[i]? = some a) (h2 : ys[i]? = some b) (e : eqD a b = some r) : eAt xs ys i = r := by
  unfold eAt; rw [h1, h2]; simp [e]
theorem eqL_all : ∀ (xs ys : List D) (r : Bool), eqL xs ys = some r → (∀ (i : Nat) (a b : D), xs[i]? = some a → ys[i]? = some b → ∃ r', eqD a b = some r') ∧ r = ((List.range (min xs.length ys.length)).all (eAt xs ys) && (xs.length == ys.length))
  | [], [], r, e => by unfold eqL at e; cases e; exact ⟨fun i a b h _ => by simp at h, by simp⟩
  | [], _ :: _, r, e => by unfold eqL at e; cases e; exact ⟨fun i a b h _ => by simp at h, by simp⟩
  | _ :: _, [], r, e => by unfold eqL at e; cases e; exact ⟨fun i a b _ h => by simp at h, by simp⟩
  | x :: xs, y :: ys, r, e => by
    unfold eqL at e
    cases q1 : eqD x y with
    | none => simp [q1] at e
    | some r1 =>
      cases q2 : eqL xs ys with
      | none => simp [q1, q2] at e
      | some r2 =>
        simp only [q1, q2, Option.some.injEq] at e
        obtain ⟨h1, h2⟩ := eqL_all xs ys r2 q2
        refine ⟨fun i a b ha hb => ?_, ?_⟩
        · cases i with
          | zero => simp at ha hb; subst ha; subst hb; exact ⟨r1, q1⟩
          | succ i => simp at ha hb; exact h1 i a b ha hb
        · have e0 : eAt (x :: xs) (y :: ys) 0 = r1 := eAt_eq rfl rfl q1
          have es : (fun i => eAt (x :: xs) (y :: ys) (i + 1)) = eAt xs ys := by funext i; rfl
          rw [List.length_cons, List.length_cons, show min (xs.length + 1) (ys.length + 1) = min xs.length ys.length + 1 by omega, List.range_succ_eq_map, List.all_cons, e0, List.all_map]
          have es2 : (eAt (x :: xs) (y :: ys) ∘ Nat.succ) = eAt xs ys := by funext i; rfl
          rw [es2, ← e, h2, Bool.and_assoc]
          congr 2
          simp
theorem okL_get {ob : List Nat} {n : Nat} : ∀ {xs : List D} {i : Nat} {a : D}, D.okL ob xs n = true → xs[i]? = some a → a.okE ob n = true
  | [], i, a, _, h => by simp at h
  | x :: xs, i, a, h, e => by
    unfold D.okL at h
    obtain ⟨h1, h2⟩ := Bool.and_eq_true_iff.mp h
    cases i with
    | zero => simp at e; subst e; exact h1
    | succ i => simp at e; exact okL_get h2 e
section
variable {X : Cx} {T : Tab} {CS : List Nat}
/-! ### one value, two data: equal -/
mutual
theorem rp_det {pins : List (Addr × Obj)} {σ : L2.St} {H : Hp} {s : Shared} {I : Hp} {m : List Addr} (J : Inv X pins σ H s) (si : Same I H) (inj : ∀ c ∈ CS, ∀ c' ∈ CS, T.ca c = T.ca c' → c = c') :
    ∀ (a b : D) (n : Nat) (v : V) (r : Bool), a.okE CS n = true → b.okE CS n = true → Rp T X.K I m a v → Rp T X.K I m b v → eqD a b = some r → r = true
  | .non, b, n, v, r, _, _, ra, rb, e => by
    have hv := rp_non.mp ra; subst hv
    cases b with
    | non => unfold eqD at e; cases e; rfl
    | bl => exact nomatch rp_bl.mp rb
    | int => exact nomatch rp_int.mp rb
    | str => exact nomatch rp_str.mp rb
    | tup => obtain ⟨_, _, h, _⟩ := rp_tup.mp rb; cases h
    | lst => obtain ⟨_, _, h, _⟩ := rp_lst.mp rb; cases h
    | obj => unfold Rp at rb; obtain ⟨_, _, _, h, _⟩ := rb; cases h
    | _ => unfold eqD at e; cases e
  | .bl x, b, n, v, r, _, _, ra, rb, e => by
    have hv := rp_bl.mp ra; subst hv
    cases b with
    | bl => have := rp_bl.mp rb; cases this; unfold eqD at e; simp at e; exact e
    | tup => obtain ⟨_, _, h, _⟩ := rp_tup.mp rb; cases h
    | lst => obtain ⟨_, _, h, _⟩ := rp_lst.mp rb; cases h
    | non => exact nomatch rp_non.mp rb
    | str => exact nomatch rp_str.mp rb
    | _ => unfold eqD at e; cases e
  | .int x, b, n, v, r, _, _, ra, rb, e => by
    have hv := rp_int.mp ra; subst hv
    cases b with
    | int => have := rp_int.mp rb; cases this; unfold eqD at e; simp at e; exact e
    | tup => obtain ⟨_, _, h, _⟩ := rp_tup.mp rb; cases h
    | lst => obtain ⟨_, _, h, _⟩ := rp_lst.mp rb; cases h
    | non => exact nomatch rp_non.mp rb
    | str => exact nomatch rp_str.mp rb
    | _ => unfold eqD at e; cases e
  | .str x, b, n, v, r, _, _, ra, rb, e => by
    have hv := rp_str.mp ra; subst hv
    cases b with
    | str => have := rp_str.mp rb; cases this; unfold eqD at e; simp at e; exact e
    | tup => obtain ⟨_, _, h, _⟩ := rp_tup.mp rb; cases h
    | lst => obtain ⟨_, _, h, _⟩ := rp_lst.mp rb; cases h
    | non => exact nomatch rp_non.mp rb
    | bl => exact nomatch rp_bl.mp rb
    | int => exact nomatch rp_int.mp rb
    | _ => unfold eqD at e; cases e
  | .tup xs, b, n, v, r, h1, h2, ra, rb, e => by
    obtain ⟨p, vs, rfl, q, k⟩ := rp_tup.mp ra
    obtain ⟨its, rr, e1, z⟩ := J.tuple (SqT.same si q)
    cases b with
    | tup ys =>
      obtain ⟨p', us, hp, q', k'⟩ := rp_tup.mp rb
      cases hp
      obtain ⟨its', rr', e1', z'⟩ := J.tuple (SqT.same si q')
      have ee : its = its' := by
        obtain ⟨o, a1, a2, n1, a3⟩ := e1
        obtain ⟨o', b1, b2, n2, b3⟩ := e1'
        rw [a1] at b1; cases b1
        rw [a3] at b3; injection b3 with b3 _
        have := congrArg Array.toList b3
        simpa using this
      subst ee
      have ev : vs = us := Vals.inj rr rr'
      subst ev
      cases n with
      | zero => unfold D.okE at h1; cases h1
      | succ n =>
        unfold D.okE at h1 h2
        unfold eqD at e
        exact rpl_det J si inj xs ys n vs r h1 h2 k k' e
    | lst ys =>
      obtain ⟨p', us, hp, q', k'⟩ := rp_lst.mp rb
      cases hp
      obtain ⟨z2, its2, n', rr2, hl, e2⟩ := (q'.same si).lst J
      obtain ⟨o, a1, a2, n1, a3⟩ := e1
      rw [e2] at a1; cases a1
      exact absurd a2 (by simp)
    | non => exact nomatch rp_non.mp rb
    | bl => exact nomatch rp_bl.mp rb
    | int => exact nomatch rp_int.mp rb
    | str => exact nomatch rp_str.mp rb
    | _ => unfold eqD at e; cases e
  | .lst xs, b, n, v, r, h1, h2, ra, rb, e => by
    obtain ⟨p, vs, rfl, q, k⟩ := rp_lst.mp ra
    obtain ⟨z, its, n', rr, hl, e1⟩ := (q.same si).lst J
    cases b with
    | lst ys =>
      obtain ⟨p', us, hp, q', k'⟩ := rp_lst.mp rb
      cases hp
      obtain ⟨z2, its2, n2, rr2, hl2, e2⟩ := (q'.same si).lst J
      have ee : its = its2 := by
        rw [e1] at e2; injection e2 with e2; injection e2 with _ _ e2 _; injection e2 with e2 _
        have := congrArg Array.toList e2
        simpa using this
      subst ee
      have ev : vs = us := Vals.inj rr rr2
      subst ev
      cases n with
      | zero => unfold D.okE at h1; cases h1
      | succ n =>
        unfold D.okE at h1 h2
        unfold eqD at e
        exact rpl_det J si inj xs ys n vs r h1 h2 k k' e
    | tup ys =>
      obtain ⟨p', us, hp, q', k'⟩ := rp_tup.mp rb
      cases hp
      obtain ⟨its2, rr2, e2, z2⟩ := J.tuple (SqT.same si q')
      obtain ⟨o, a1, a2, n1, a3⟩ := e2
      rw [e1] at a1; cases a1
      exact absurd a2 (by simp)
    | non => exact nomatch rp_non.mp rb
    | bl => exact nomatch rp_bl.mp rb
    | int => exact nomatch rp_int.mp rb
    | str => exact nomatch rp_str.mp rb
    | _ => unfold eqD at e; cases e
  | .obj c xs, b, n, v, r, h1, h2, ra, rb, e => by
    unfold Rp at ra
    obtain ⟨p, dx, gs, rfl, q, k0, k⟩ := ra
    cases b with
    | obj c' ys =>
      unfold Rp at rb
      obtain ⟨p', dx', gs', hp, q', k0', k'⟩ := rb
      cases hp
      rw [q] at q'; injection q' with q'; injection q' with hc hd hg
      subst hg
      rcases n with _ | _ | n
      · unfold D.okE at h1; cases h1
      · unfold D.okE at h1; cases h1
      unfold D.okE at h1 h2
      obtain ⟨c1, o1⟩ := Bool.and_eq_true_iff.mp h1
      obtain ⟨c2, o2⟩ := Bool.and_eq_true_iff.mp h2
      have hcc := inj c (of_decide_eq_true c1) c' (of_decide_eq_true c2) hc
      subst hcc
      unfold eqD at e
      simp only [if_true] at e
      exact rpl_det J si inj xs ys n _ r o1 o2 k k' e
    | non => exact nomatch rp_non.mp rb
    | _ => unfold eqD at e; cases e
  | .dic _ _, b, n, v, r, h1, h2, ra, rb, e => by unfold eqD at e; cases e
  | .cell _, b, n, v, r, h1, h2, ra, rb, e => by unfold eqD at e; cases e
  | .exc _ _ _, b, n, v, r, h1, h2, ra, rb, e => by unfold eqD at e; cases e
theorem rpl_det {pins : List (Addr × Obj)} {σ : L2.St} {H : Hp} {s : Shared} {I : Hp} {m : List Addr} (J : Inv X pins σ H s) (si : Same I H) (inj : ∀ c ∈ CS, ∀ c' ∈ CS, T.ca c = T.ca c' → c = c') :
    ∀ (xs ys : List D) (n : Nat) (vs : List V) (r : Bool), D.okL CS xs n = true → D.okL CS ys n = true → RpL T X.K I m xs vs → RpL T X.K I m ys vs → eqL xs ys = some r → r = true
  | [], ys, n, vs, r, _, _, ra, rb, e => by
    cases ra.inil
    cases ys with
    | nil => unfold eqL at e; cases e; rfl
    | cons y ys => obtain ⟨_, _, h, _⟩ := rb.inv; cases h
  | x :: xs, ys, n, vs, r, h1, h2, ra, rb, e => by
    obtain ⟨v, r', rfl, q, k⟩ := ra.inv
    cases ys with
    | nil => exact nomatch rb.inil
    | cons y ys =>
      obtain ⟨v2, r2, h, q2, k2⟩ := rb.inv
      cases h
      unfold D.okL at h1 h2
      obtain ⟨a1, a2⟩ := Bool.and_eq_true_iff.mp h1
      obtain ⟨b1, b2⟩ := Bool.and_eq_true_iff.mp h2
      unfold eqL at e
      cases w1 : eqD x y with
      | none => simp [w1] at e
      | some r1 =>
        cases w2 : eqL xs ys with
        | none => simp [w1, w2] at e
        | some r2' =>
          simp only [w1, w2, Option.some.injEq] at e
          rw [← e, rp_det J si inj x y n v r1 a1 b1 q q2 w1, rpl_det J si inj xs ys n r' r2' a2 b2 k k2 w2]
          rfl
end
end
end
end DL
end

section
set_option Elab.async false
set_option linter.all false
set_option maxRecDepth 100000
set_option maxHeartbeats 4000000
/-! DL31: == of data with objects, one level more (printed by mkdl31.py). -/
namespace DL
open PySem L2 PyProof.Rows SeqAt
open Classical
noncomputable section
section
variable {X : Cx} {T : Tab} {CS : List Nat} {n k h : Nat} {f : Addr} {den : FDen}
/-- what the own == says, by its denotation -/
def HDen (T : Tab) (CS : List Nat) (den : FDen) (h : Nat) : Prop := ∀ (h' c : Nat) (xs : List D) (c' : Nat) (ys : List D) (r : Bool), h = h' + 1 → c ∈ CS → c' ∈ CS → xs.length = (T.od c).length → ys.length = (T.od c').length → D.okL CS xs h' = true → D.okL CS ys h' = true → eqD (.obj c xs) (.obj c' ys) = some r →
  ∃ cs', den [.obj c xs, .obj c' ys] [] = .ok (.bl r) cs'
def HNon (T : Tab) (CS : List Nat) (den : FDen) (h : Nat) : Prop := ∀ (h' c : Nat) (xs : List D), h = h' + 1 → c ∈ CS → xs.length = (T.od c).length → D.okL CS xs h' = true → ∃ cs', den [.obj c xs, .non] [] = .ok (.bl false) cs'
abbrev RcE (X : Cx) (T : Tab) (n : Nat) (ob : List Nat) (h : Nat) : Prop := ∀ (A : Around) (pins : List (Addr × Obj)) (s : Shared) (σ : L2.St) (H : Hp) (x y : V) (v u : Value) (I : Hp) (m : List Addr) (a b : D) (r : Bool), Sub X n A → Inv X pins σ H s → SR T X.K I [] [] H → Rp T X.K I m a x → Rp T X.K I m b y → RelV x v → RelV y u → a.okE ob h = true → b.okE ob h = true → eqD a b = some r →
    wpAny (model X.prog X.w) A (richCompare .Eq v u) (fun r' s' => r' = .bool r ∧ ∃ H', Inv X pins σ H' s' ∧ ExtT T H H') X.xe s
abbrev RcN (X : Cx) (T : Tab) (n : Nat) (ob : List Nat) (h : Nat) : Prop := ∀ (A : Around) (pins : List (Addr × Obj)) (s : Shared) (σ : L2.St) (H : Hp) (x y : V) (v u : Value) (I : Hp) (m : List Addr) (a b : D) (r : Bool), Sub X n A → Inv X pins σ H s → SR T X.K I [] [] H → Rp T X.K I m a x → Rp T X.K I m b y → RelV x v → RelV y u → a.okE ob h = true → b.okE ob h = true → eqD a b = some r →
    wpAny (model X.prog X.w) A (richCompare .NotEq v u) (fun r' s' => r' = .bool (!r) ∧ ∃ H', Inv X pins σ H' s' ∧ ExtT T H H') X.xe s
mutual
theorem okE_lt : ∀ (d : D) (n : Nat), d.okE CS n = true → D.lt 0 d = true
  | .non, _, _ => rfl
  | .bl _, _, _ => rfl
  | .int _, _, _ => rfl
  | .str _, _, _ => rfl
  | .tup xs, n + 1, h => by unfold D.okE at h; unfold D.lt; exact okL_lt xs n h
  | .lst xs, n + 1, h => by unfold D.okE at h; unfold D.lt; exact okL_lt xs n h
  | .obj _ xs, n + 2, h => by unfold D.okE at h; unfold D.lt; exact okL_lt xs n (Bool.and_eq_true_iff.mp h).2
  | .tup xs, 0, h => by unfold D.okE at h; cases h
  | .lst xs, 0, h => by unfold D.okE at h; cases h
  | .obj _ xs, 0, h => by unfold D.okE at h; cases h
  | .obj _ xs, 1, h => by unfold D.okE at h; cases h
  | .dic _ _, n, h => by unfold D.okE at h; cases h
  | .cell _, n, h => by unfold D.okE at h; cases h
  | .exc _ _ _, n, h => by unfold D.okE at h; cases h
theorem okL_lt : ∀ (ds : List D) (n : Nat), D.okL CS ds n = true → D.ltL 0 ds = true
  | [], _, _ => rfl
  | d :: ds, n, h => by
    unfold D.okL at h
    obtain ⟨h1, h2⟩ := Bool.and_eq_true_iff.mp h
    unfold D.ltL
    rw [okE_lt d n h1, okL_lt ds n h2]; rfl
end
theorem Rp.bare {K : PySem.W.Frag} {I : Hp} {m : List Addr} {c : Nat} {xs : List D} {v : V} {n : Nat} (o : D.okL CS xs n = true) (r : Rp T K I m (.obj c xs) v) (hc : c ∈ CS) : Rp T K I [] (.obj c xs) v := by
  have l : D.lt 0 (.obj c xs) = true := by unfold D.lt; exact okL_lt xs n o
  simpa using r.cut l
/-- the own == is called, of any two values -/
def noTab (T : Tab) (H : Hp) : Hp := fun a => match H a with
  | some (.tbl ps) => if T.tb = [] then some (.tbl ps) else none
  | o => o
theorem noTab_same {H : Hp} : Same (noTab T H) H := fun a o e => by
  unfold noTab at e
  split at e
  · split at e
    · rename_i h _; rw [h]; exact e
    · cases e
  · exact e
theorem noTab_of {H : Hp} {a : Addr} {o : HO} (e : H a = some o) (h : T.tb = [] ∨ ∀ ps, o ≠ .tbl ps) : noTab T H a = some o := by
  unfold noTab
  split
  · rename_i ps q
    rw [q] at e; cases e
    rcases h with h | h
    · rw [if_pos h]
    · exact absurd rfl (h ps)
  · exact e
theorem noTab_sr {K : PySem.W.Frag} {I0 H : Hp} (sr : SR T K I0 [] [] H) : SR T K (noTab T H) [] [] H ∧ Same I0 (noTab T H) := by
  refine ⟨⟨noTab_same, rfl, fun n c e => by simp at e, fun n n' c c' a e => by simp at e, sr.tabs, fun ht b ps e => ?_⟩, fun a o e => ?_⟩
  · unfold noTab at e
    split at e
    · rw [if_neg ht] at e; cases e
    · rename_i q; exact q _ e
  · refine noTab_of (sr.same _ _ e) ?_
    by_cases ht : T.tb = []
    · exact .inl ht
    · exact .inr fun ps z => sr.ntb ht a ps (z ▸ e)
theorem eq_callG (c : DF X.prog X.w X.K X.mg X.base T k f 2 den) {A : Around} {pins : List (Addr × Obj)} {s : Shared} {σ : L2.St} {H I0 : Hp} {x y : V} {v u : Value} {d1 d2 : D} {cs' : List Cell} {r : Bool} (hr : Room k A) (fr : A.frames = X.A.frames) (I : Inv X pins σ H s)
    (rv : RelV x v) (ru : RelV y u) (sr : SR T X.K I0 [] [] H) (r1 : Rp T X.K I0 [] d1 x) (r2 : Rp T X.K I0 [] d2 y) (h : den [d1, d2] [] = .ok (.bl r) cs') :
    wpAny (model X.prog X.w) A (call (.ref f) [v, u]) (fun w s' => ∃ b, w = .bool b ∧ b = r ∧ ∃ H', Inv X pins σ H' s' ∧ ExtT T H H') X.xe s := by
  obtain ⟨fd, ps, hl, F, hb⟩ := c.ex
  obtain ⟨sr0, si⟩ := noTab_sr sr
  have hsp : spD T X.K 2 den [x, y] H (fun z H' => z = .bl r ∧ ExtT T H H') (fun _ _ _ => False) := by
    refine ⟨rfl, noTab T H, [], [], [d1, d2], sr0, RpL.cons (r1.mono si (List.prefix_refl _)) (RpL.one (r2.mono si (List.prefix_refl _))), ?_⟩
    rw [h]
    intro z H' I' m' s1 p1 sr' r'
    exact ⟨rp_bl.mp r', fun a o e q => sr'.same _ _ (s1 _ _ (noTab_of e q)), sr'.tabs⟩
  have e0 : Env0 X.prog X.w X.K X.mg X.base A X.stack s H := by
    have e := I.env0
    exact ⟨by rw [fr]; exact e.frames, e.mod, e.bs, e.bsz, e.funs, e.frf, e.hok, e.bare⟩
  have rr : Vals [x, y] [v, u] := .cons rv (.cons ru .nil)
  refine wpAny_call (codeAny_mono (F.run A X.stack s H ⟨[v, u], []⟩ [v, u] [x, y] _ (fun _ _ _ => False) hr e0 (by
    have := hb s [v, u] I.kIn (by simpa using hl.symm)
    simpa using this) rr hsp) fun r s' hq => ?_)
  cases r with
  | error e => exact (pass_no (X := X) pins σ H s e s' I hq)
  | ok fl =>
    cases fl with
    | ret w =>
      obtain ⟨z, H', I', rz, rfl, ex⟩ := I.after hq
      cases rz
      exact ⟨_, rfl, rfl, H', I', ex⟩
    | next => exact False.elim hq
    | brk => exact False.elim hq
    | cont => exact False.elim hq
/-- what the loop over the items keeps -/
def LoopE (X : Cx) (T : Tab) (pins : List (Addr × Obj)) (σ : L2.St) (H : Hp) (s' : Shared) : Prop := ∃ H', Inv X pins σ H' s' ∧ ExtT T H H'
theorem turnE (B : EqB X T n CS h) {A : Around} (sb : Sub X (n + 1) A) {pins : List (Addr × Obj)} {σ : L2.St} {H I : Hp} {m : List Addr} {xs ys : List D} {vs us : List V} {its its2 : List Value} (sr : SR T X.K I [] [] H)
    (ra : RpL T X.K I m xs vs) (rb : RpL T X.K I m ys us) (ha : D.okL CS xs h = true) (hb : D.okL CS ys h = true) (hd : ∀ (i : Nat) (a b : D), xs[i]? = some a → ys[i]? = some b → ∃ r', eqD a b = some r') (r : Vals vs its) (r2 : Vals us its2)
    (i : Nat) (h1 : i < its.toArray.size) (h2 : i < its2.toArray.size) (s' : Shared) (l : LoopE X T pins σ H s') :
    wpAny (model X.prog X.w) A.in1 (eqBool its.toArray[i] its2.toArray[i]) (fun r s2 => r = eAt xs ys i ∧ LoopE X T pins σ H s2) X.xe s' := by
  obtain ⟨H1, I1, e1⟩ := l
  have g1 : its[i]? = some its.toArray[i] := by
    have h1' : i < its.length := by simpa using h1
    rw [List.getElem?_eq_getElem h1'] <;> simp
  have g2 : its2[i]? = some its2.toArray[i] := by
    have h2' : i < its2.length := by simpa using h2
    rw [List.getElem?_eq_getElem h2'] <;> simp
  have k1 : i < vs.length := by rw [r.length]; simpa using h1
  have k2 : i < us.length := by rw [r2.length]; simpa using h2
  obtain ⟨u, hu, ru⟩ := r.get (List.getElem?_eq_getElem k1)
  obtain ⟨v, hv, rv⟩ := r2.get (List.getElem?_eq_getElem k2)
  rw [g1] at hu
  rw [g2] at hv
  rw [Option.some.inj hu, Option.some.inj hv]
  obtain ⟨a, ea, qa⟩ := ra.getV (List.getElem?_eq_getElem k1)
  obtain ⟨b, eb, qb⟩ := rb.getV (List.getElem?_eq_getElem k2)
  obtain ⟨r', er⟩ := hd i a b ea eb
  refine wpAny_mono (B.eqb A.in1 pins s' σ H1 _ _ u v I m a b r' sb.in1 I1 (sr.extT e1) qa qb ru rv (okL_get ha ea) (okL_get hb eb) er) (fun r s2 q => ?_) fun _ _ x => x
  obtain ⟨hr, H2, I2, e2⟩ := q
  exact ⟨by rw [eAt_eq ea eb er]; exact hr, H2, I2, e1.trans e2⟩
theorem none_looks {P : Program} {w : World} {hp : Heap} : PySem.W.Looks (model P w) hp (typeOf .none) (.type "NoneType") :=
  fun A Q E s _ q => wpAny_typeOf (T := "NoneType") rfl q
theorem rce_step {n' : Nat} (hn : n + 1 ≤ n') (hk : k + 1 ≤ n') (B : EqB X T n CS h) (cD : DF X.prog X.w X.K X.mg X.base T k f 2 den) (Q : OwnQ T X.K f CS)
    (HD : HDen T CS den h) (HN : HNon T CS den h) : RcE X T n' CS (h + 1) := by
  intro A pins s σ H x y v u I m a b r sb J sr ra rb rv ru ha hb e
  have hu := sb.room.units0
  cases a with
  | non =>
    cases b with
    | non =>
      exact (eqB0 (n := n') (h := 0) (by decide)).rce A pins s σ H x y v u I m _ _ r sb J sr ra rb rv ru (by unfold D.okE; rfl) (by unfold D.okE; rfl) e
    | bl _ =>
      exact (eqB0 (n := n') (h := 0) (by decide)).rce A pins s σ H x y v u I m _ _ r sb J sr ra rb rv ru (by unfold D.okE; rfl) (by unfold D.okE; rfl) e
    | int _ =>
      exact (eqB0 (n := n') (h := 0) (by decide)).rce A pins s σ H x y v u I m _ _ r sb J sr ra rb rv ru (by unfold D.okE; rfl) (by unfold D.okE; rfl) e
    | str _ =>
      exact (eqB0 (n := n') (h := 0) (by decide)).rce A pins s σ H x y v u I m _ _ r sb J sr ra rb rv ru (by unfold D.okE; rfl) (by unfold D.okE; rfl) e
    | tup ys =>
      unfold eqD at e; cases e
      cases rp_non.mp ra; cases rv
      obtain ⟨p2, vs2, rfl, q2, k2⟩ := rp_tup.mp rb; cases ru; obtain ⟨its2, rr2, t2, z2⟩ := J.tuple (SqT.same sr.same q2)
      exact (RcAt.none_tuple  t2 hu) X.prog X.w X.xe _ ⟨rfl, H, J, ExtT.of sr⟩
    | lst ys =>
      unfold eqD at e; cases e
      cases rp_non.mp ra; cases rv
      obtain ⟨p2, vs2, rfl, q2, k2⟩ := rp_lst.mp rb; cases ru; obtain ⟨z2, its2, n2, rr2, hl2, e02⟩ := (q2.same sr.same).lst J; have t2 : s.heap.IsList p2 its2.toArray := ⟨_, e02, rfl, _, rfl⟩
      exact (RcAt.none_list  t2 hu) X.prog X.w X.xe _ ⟨rfl, H, J, ExtT.of sr⟩
    | obj c' ys =>
      unfold eqD at e; cases e
      cases rp_non.mp ra; cases rv
      have rb0 := rb
      unfold Rp at rb
      obtain ⟨p, dx, gs, rfl, eb, g1, g2⟩ := rb
      cases ru
      rcases h with _ | h
      · unfold D.okE at hb; cases hb
      unfold D.okE at hb
      obtain ⟨c1, o1⟩ := Bool.and_eq_true_iff.mp hb
      have c1 := of_decide_eq_true c1
      have oc := Q.own c' c1
      obtain ⟨mA, K1, _⟩ := ins_get J.hok (sr.same _ _ eb)
      obtain ⟨od, K1, _⟩ := K1.look
      obtain ⟨cs', hden⟩ := HN h c' ys rfl c1 (by have := congrArg List.length g1; simp at this; have l := g2.length; simp at l; omega) o1
      have sub0 : Sub X k A := sb.mono (Nat.le_of_succ_le hk)
      refine OwnNe.none_eq hu J.kIn K1 (Q.sbn c' c1) oc.eq oc.fn (wpAny_mono (eq_callG cD sub0.room sub0.fr J (x := .ref p) (y := .non) rfl rfl sr (Rp.bare o1 rb0 c1) (rp_non.mpr rfl) hden) (fun w s1 z => ?_) fun _ _ x => x)
      obtain ⟨b, rfl, rfl, z⟩ := z
      exact ⟨false, rfl, rfl, z⟩
    | _ => unfold eqD at e; cases e
  | bl _ =>
    cases b with
    | non =>
      exact (eqB0 (n := n') (h := 0) (by decide)).rce A pins s σ H x y v u I m _ _ r sb J sr ra rb rv ru (by unfold D.okE; rfl) (by unfold D.okE; rfl) e
    | bl _ =>
      exact (eqB0 (n := n') (h := 0) (by decide)).rce A pins s σ H x y v u I m _ _ r sb J sr ra rb rv ru (by unfold D.okE; rfl) (by unfold D.okE; rfl) e
    | int _ =>
      exact (eqB0 (n := n') (h := 0) (by decide)).rce A pins s σ H x y v u I m _ _ r sb J sr ra rb rv ru (by unfold D.okE; rfl) (by unfold D.okE; rfl) e
    | str _ =>
      exact (eqB0 (n := n') (h := 0) (by decide)).rce A pins s σ H x y v u I m _ _ r sb J sr ra rb rv ru (by unfold D.okE; rfl) (by unfold D.okE; rfl) e
    | tup ys =>
      unfold eqD at e; cases e
      cases rp_bl.mp ra; cases rv
      obtain ⟨p2, vs2, rfl, q2, k2⟩ := rp_tup.mp rb; cases ru; obtain ⟨its2, rr2, t2, z2⟩ := J.tuple (SqT.same sr.same q2)
      exact (RcAt.bool_tuple _ t2 hu) X.prog X.w X.xe _ ⟨rfl, H, J, ExtT.of sr⟩
    | lst ys =>
      unfold eqD at e; cases e
      cases rp_bl.mp ra; cases rv
      obtain ⟨p2, vs2, rfl, q2, k2⟩ := rp_lst.mp rb; cases ru; obtain ⟨z2, its2, n2, rr2, hl2, e02⟩ := (q2.same sr.same).lst J; have t2 : s.heap.IsList p2 its2.toArray := ⟨_, e02, rfl, _, rfl⟩
      exact (RcAt.bool_list _ t2 hu) X.prog X.w X.xe _ ⟨rfl, H, J, ExtT.of sr⟩
    | obj c' ys =>
      unfold eqD at e; cases e
    | _ => unfold eqD at e; cases e
  | int _ =>
    cases b with
    | non =>
      exact (eqB0 (n := n') (h := 0) (by decide)).rce A pins s σ H x y v u I m _ _ r sb J sr ra rb rv ru (by unfold D.okE; rfl) (by unfold D.okE; rfl) e
    | bl _ =>
      exact (eqB0 (n := n') (h := 0) (by decide)).rce A pins s σ H x y v u I m _ _ r sb J sr ra rb rv ru (by unfold D.okE; rfl) (by unfold D.okE; rfl) e
    | int _ =>
      exact (eqB0 (n := n') (h := 0) (by decide)).rce A pins s σ H x y v u I m _ _ r sb J sr ra rb rv ru (by unfold D.okE; rfl) (by unfold D.okE; rfl) e
    | str _ =>
      exact (eqB0 (n := n') (h := 0) (by decide)).rce A pins s σ H x y v u I m _ _ r sb J sr ra rb rv ru (by unfold D.okE; rfl) (by unfold D.okE; rfl) e
    | tup ys =>
      unfold eqD at e; cases e
      cases rp_int.mp ra; obtain ⟨_, rfl⟩ := rv
      obtain ⟨p2, vs2, rfl, q2, k2⟩ := rp_tup.mp rb; cases ru; obtain ⟨its2, rr2, t2, z2⟩ := J.tuple (SqT.same sr.same q2)
      exact (RcAt.int_tuple _ _ t2 hu) X.prog X.w X.xe _ ⟨rfl, H, J, ExtT.of sr⟩
    | lst ys =>
      unfold eqD at e; cases e
      cases rp_int.mp ra; obtain ⟨_, rfl⟩ := rv
      obtain ⟨p2, vs2, rfl, q2, k2⟩ := rp_lst.mp rb; cases ru; obtain ⟨z2, its2, n2, rr2, hl2, e02⟩ := (q2.same sr.same).lst J; have t2 : s.heap.IsList p2 its2.toArray := ⟨_, e02, rfl, _, rfl⟩
      exact (RcAt.int_list _ _ t2 hu) X.prog X.w X.xe _ ⟨rfl, H, J, ExtT.of sr⟩
    | obj c' ys =>
      unfold eqD at e; cases e
    | _ => unfold eqD at e; cases e
  | str _ =>
    cases b with
    | non =>
      exact (eqB0 (n := n') (h := 0) (by decide)).rce A pins s σ H x y v u I m _ _ r sb J sr ra rb rv ru (by unfold D.okE; rfl) (by unfold D.okE; rfl) e
    | bl _ =>
      exact (eqB0 (n := n') (h := 0) (by decide)).rce A pins s σ H x y v u I m _ _ r sb J sr ra rb rv ru (by unfold D.okE; rfl) (by unfold D.okE; rfl) e
    | int _ =>
      exact (eqB0 (n := n') (h := 0) (by decide)).rce A pins s σ H x y v u I m _ _ r sb J sr ra rb rv ru (by unfold D.okE; rfl) (by unfold D.okE; rfl) e
    | str _ =>
      exact (eqB0 (n := n') (h := 0) (by decide)).rce A pins s σ H x y v u I m _ _ r sb J sr ra rb rv ru (by unfold D.okE; rfl) (by unfold D.okE; rfl) e
    | tup ys =>
      unfold eqD at e; cases e
      cases rp_str.mp ra; obtain ⟨_, rfl⟩ := rv
      obtain ⟨p2, vs2, rfl, q2, k2⟩ := rp_tup.mp rb; cases ru; obtain ⟨its2, rr2, t2, z2⟩ := J.tuple (SqT.same sr.same q2)
      exact (RcAt.str_tuple _ _ t2 hu) X.prog X.w X.xe _ ⟨rfl, H, J, ExtT.of sr⟩
    | lst ys =>
      unfold eqD at e; cases e
      cases rp_str.mp ra; obtain ⟨_, rfl⟩ := rv
      obtain ⟨p2, vs2, rfl, q2, k2⟩ := rp_lst.mp rb; cases ru; obtain ⟨z2, its2, n2, rr2, hl2, e02⟩ := (q2.same sr.same).lst J; have t2 : s.heap.IsList p2 its2.toArray := ⟨_, e02, rfl, _, rfl⟩
      exact (RcAt.str_list _ _ t2 hu) X.prog X.w X.xe _ ⟨rfl, H, J, ExtT.of sr⟩
    | obj c' ys =>
      unfold eqD at e; cases e
    | _ => unfold eqD at e; cases e
  | tup xs =>
    cases b with
    | non =>
      unfold eqD at e; cases e
      cases rp_non.mp rb; cases ru
      obtain ⟨p1, vs1, rfl, q1, k1⟩ := rp_tup.mp ra; cases rv; obtain ⟨its1, rr1, t1, z1⟩ := J.tuple (SqT.same sr.same q1)
      exact (RcAt.tuple_none  t1 hu) X.prog X.w X.xe _ ⟨rfl, H, J, ExtT.of sr⟩
    | bl _ =>
      unfold eqD at e; cases e
      cases rp_bl.mp rb; cases ru
      obtain ⟨p1, vs1, rfl, q1, k1⟩ := rp_tup.mp ra; cases rv; obtain ⟨its1, rr1, t1, z1⟩ := J.tuple (SqT.same sr.same q1)
      exact (RcAt.tuple_bool _ t1 hu) X.prog X.w X.xe _ ⟨rfl, H, J, ExtT.of sr⟩
    | int _ =>
      unfold eqD at e; cases e
      cases rp_int.mp rb; obtain ⟨_, rfl⟩ := ru
      obtain ⟨p1, vs1, rfl, q1, k1⟩ := rp_tup.mp ra; cases rv; obtain ⟨its1, rr1, t1, z1⟩ := J.tuple (SqT.same sr.same q1)
      exact (RcAt.tuple_int _ _ t1 hu) X.prog X.w X.xe _ ⟨rfl, H, J, ExtT.of sr⟩
    | str _ =>
      unfold eqD at e; cases e
      cases rp_str.mp rb; obtain ⟨_, rfl⟩ := ru
      obtain ⟨p1, vs1, rfl, q1, k1⟩ := rp_tup.mp ra; cases rv; obtain ⟨its1, rr1, t1, z1⟩ := J.tuple (SqT.same sr.same q1)
      exact (RcAt.tuple_str _ _ t1 hu) X.prog X.w X.xe _ ⟨rfl, H, J, ExtT.of sr⟩
    | tup ys =>
      unfold eqD at e; unfold D.okE at ha hb
      obtain ⟨hd, hr⟩ := eqL_all xs ys r e
      obtain ⟨p1, vs1, rfl, q1, k1⟩ := rp_tup.mp ra; cases rv; obtain ⟨its1, rr1, t1, z1⟩ := J.tuple (SqT.same sr.same q1)
      obtain ⟨p2, vs2, rfl, q2, k2⟩ := rp_tup.mp rb; cases ru; obtain ⟨its2, rr2, t2, z2⟩ := J.tuple (SqT.same sr.same q2)
      refine GQ2.rc_tup2 (e := eAt xs ys) hu (LoopE X T pins σ H) t1 t2 (fun i j1 j2 s1 l1 => turnE B (sb.mono hn) sr k1 k2 ha hb hd rr1 rr2 i j1 j2 s1 l1) (fun s1 l1 => ⟨?_, l1⟩) ⟨H, J, ExtT.of sr⟩
      rw [List.size_toArray, List.size_toArray, ← rr1.length, ← rr2.length, ← k1.length, ← k2.length, hr]
    | lst ys =>
      unfold eqD at e; cases e
      obtain ⟨p1, vs1, rfl, q1, k1⟩ := rp_tup.mp ra; cases rv; obtain ⟨its1, rr1, t1, z1⟩ := J.tuple (SqT.same sr.same q1)
      obtain ⟨p2, vs2, rfl, q2, k2⟩ := rp_lst.mp rb; cases ru; obtain ⟨z2, its2, n2, rr2, hl2, e02⟩ := (q2.same sr.same).lst J; have t2 : s.heap.IsList p2 its2.toArray := ⟨_, e02, rfl, _, rfl⟩
      exact (RcAt.tuple_list t1 t2 hu) X.prog X.w X.xe _ ⟨rfl, H, J, ExtT.of sr⟩
    | obj c' ys =>
      unfold eqD at e; cases e
    | _ => unfold eqD at e; cases e
  | lst xs =>
    cases b with
    | non =>
      unfold eqD at e; cases e
      cases rp_non.mp rb; cases ru
      obtain ⟨p1, vs1, rfl, q1, k1⟩ := rp_lst.mp ra; cases rv; obtain ⟨z1, its1, n1, rr1, hl1, e01⟩ := (q1.same sr.same).lst J; have t1 : s.heap.IsList p1 its1.toArray := ⟨_, e01, rfl, _, rfl⟩
      exact (RcAt.list_none  t1 hu) X.prog X.w X.xe _ ⟨rfl, H, J, ExtT.of sr⟩
    | bl _ =>
      unfold eqD at e; cases e
      cases rp_bl.mp rb; cases ru
      obtain ⟨p1, vs1, rfl, q1, k1⟩ := rp_lst.mp ra; cases rv; obtain ⟨z1, its1, n1, rr1, hl1, e01⟩ := (q1.same sr.same).lst J; have t1 : s.heap.IsList p1 its1.toArray := ⟨_, e01, rfl, _, rfl⟩
      exact (RcAt.list_bool _ t1 hu) X.prog X.w X.xe _ ⟨rfl, H, J, ExtT.of sr⟩
    | int _ =>
      unfold eqD at e; cases e
      cases rp_int.mp rb; obtain ⟨_, rfl⟩ := ru
      obtain ⟨p1, vs1, rfl, q1, k1⟩ := rp_lst.mp ra; cases rv; obtain ⟨z1, its1, n1, rr1, hl1, e01⟩ := (q1.same sr.same).lst J; have t1 : s.heap.IsList p1 its1.toArray := ⟨_, e01, rfl, _, rfl⟩
      exact (RcAt.list_int _ _ t1 hu) X.prog X.w X.xe _ ⟨rfl, H, J, ExtT.of sr⟩
    | str _ =>
      unfold eqD at e; cases e
      cases rp_str.mp rb; obtain ⟨_, rfl⟩ := ru
      obtain ⟨p1, vs1, rfl, q1, k1⟩ := rp_lst.mp ra; cases rv; obtain ⟨z1, its1, n1, rr1, hl1, e01⟩ := (q1.same sr.same).lst J; have t1 : s.heap.IsList p1 its1.toArray := ⟨_, e01, rfl, _, rfl⟩
      exact (RcAt.list_str _ _ t1 hu) X.prog X.w X.xe _ ⟨rfl, H, J, ExtT.of sr⟩
    | tup ys =>
      unfold eqD at e; cases e
      obtain ⟨p1, vs1, rfl, q1, k1⟩ := rp_lst.mp ra; cases rv; obtain ⟨z1, its1, n1, rr1, hl1, e01⟩ := (q1.same sr.same).lst J; have t1 : s.heap.IsList p1 its1.toArray := ⟨_, e01, rfl, _, rfl⟩
      obtain ⟨p2, vs2, rfl, q2, k2⟩ := rp_tup.mp rb; cases ru; obtain ⟨its2, rr2, t2, z2⟩ := J.tuple (SqT.same sr.same q2)
      exact (RcAt.list_tuple t1 t2 hu) X.prog X.w X.xe _ ⟨rfl, H, J, ExtT.of sr⟩
    | lst ys =>
      unfold eqD at e; unfold D.okE at ha hb
      obtain ⟨hd, hr⟩ := eqL_all xs ys r e
      obtain ⟨p1, vs1, rfl, q1, k1⟩ := rp_lst.mp ra; cases rv; obtain ⟨z1, its1, n1, rr1, hl1, e01⟩ := (q1.same sr.same).lst J; have t1 : s.heap.IsList p1 its1.toArray := ⟨_, e01, rfl, _, rfl⟩
      obtain ⟨p2, vs2, rfl, q2, k2⟩ := rp_lst.mp rb; cases ru; obtain ⟨z2, its2, n2, rr2, hl2, e02⟩ := (q2.same sr.same).lst J; have t2 : s.heap.IsList p2 its2.toArray := ⟨_, e02, rfl, _, rfl⟩
      have l1 := k1.length.trans rr1.length; have l2 := k2.length.trans rr2.length
      by_cases hsz : xs.length = ys.length
      · refine GQ2.rc_list2 (N := xs.length) (e := eAt xs ys) hu (LoopE X T pins σ H) (fun s1 l => ?_) (fun s1 l1 => ⟨?_, l1⟩) ⟨H, J, ExtT.of sr⟩
        · obtain ⟨H1, J1, ex⟩ := id l
          have sr1 := sr.extT ex
          obtain ⟨w1, is1, m1, r1, g1, f1⟩ := (q1.same sr1.same).lst J1
          obtain ⟨w2, is2, m2, r2, g2, f2⟩ := (q2.same sr1.same).lst J1
          have a1 := k1.length.trans r1.length; have a2 := k2.length.trans r2.length
          exact ⟨_, _, m1, m2, f1, f2, by rw [List.size_toArray, a1], by rw [List.size_toArray, hsz, a2], fun i j1 j2 => turnE B (sb.mono hn) sr k1 k2 ha hb hd r1 r2 i j1 j2 s1 l⟩
        · rw [hr, ← hsz, Nat.min_self]; simp
      · have hrf : r = false := by rw [hr]; simp [hsz]
        subst hrf
        exact (RcAt.lists_lengths t1 t2 (by simp only [List.size_toArray]; simp; omega) hu) X.prog X.w X.xe _ ⟨rfl, H, J, ExtT.of sr⟩
    | obj c' ys =>
      unfold eqD at e; cases e
    | _ => unfold eqD at e; cases e
  | obj c xs =>
    cases b with
    | non =>
      unfold eqD at e; cases e
      cases rp_non.mp rb; cases ru
      have ra0 := ra
      unfold Rp at ra
      obtain ⟨p, dx, gs, rfl, ea, g1, g2⟩ := ra
      cases rv
      rcases h with _ | h
      · unfold D.okE at ha; cases ha
      unfold D.okE at ha
      obtain ⟨c1, o1⟩ := Bool.and_eq_true_iff.mp ha
      have c1 := of_decide_eq_true c1
      have oc := Q.own c c1
      obtain ⟨mA, K1, _⟩ := ins_get J.hok (sr.same _ _ ea)
      obtain ⟨od, K1, _⟩ := K1.look
      obtain ⟨fm, hF⟩ := J.fr
      obtain ⟨cs', hden⟩ := HN h c xs rfl c1 (by have := congrArg List.length g1; simp at this; have l := g2.length; simp at l; omega) o1
      have sub0 : Sub X k A := sb.mono (Nat.le_of_succ_le hk)
      refine PySem.W.cmp_K (op := .Eq) (tb := .type "NoneType") hu hF J.ok.mod.kin K1 none_looks (Q.nfn c c1) oc.eq oc.fn (wpAny_mono (eq_callG cD sub0.room sub0.fr J (x := .ref p) (y := .non) rfl rfl sr (Rp.bare o1 ra0 c1) (rp_non.mpr rfl) hden) (fun w s1 z => ?_) fun _ _ x => x)
      obtain ⟨b, rfl, rfl, z⟩ := z
      exact ⟨rfl, z⟩
    | bl _ =>
      unfold eqD at e; cases e
    | int _ =>
      unfold eqD at e; cases e
    | str _ =>
      unfold eqD at e; cases e
    | tup ys =>
      unfold eqD at e; cases e
    | lst ys =>
      unfold eqD at e; cases e
    | obj c' ys =>
      have ra0 := ra; have rb0 := rb
      unfold Rp at ra rb
      obtain ⟨p, dx, gs, rfl, ea, g1, g2⟩ := ra
      obtain ⟨p', dy, hs, rfl, eb, g1', g2'⟩ := rb
      cases rv; cases ru
      rcases h with _ | h
      · unfold D.okE at ha; cases ha
      unfold D.okE at ha hb
      obtain ⟨c1, o1⟩ := Bool.and_eq_true_iff.mp ha
      obtain ⟨c2, o2⟩ := Bool.and_eq_true_iff.mp hb
      have c1 := of_decide_eq_true c1; have c2 := of_decide_eq_true c2
      have oc := Q.own c c1
      obtain ⟨mA, K1, _⟩ := ins_get J.hok (sr.same _ _ ea)
      obtain ⟨mB, K2, _⟩ := ins_get J.hok (sr.same _ _ eb)
      obtain ⟨od, K1, _⟩ := K1.look
      obtain ⟨od', K2, _⟩ := K2.look
      obtain ⟨fm, hF⟩ := J.fr
      obtain ⟨cs', hden⟩ := HD h c xs c' ys r rfl c1 c2 (by have := congrArg List.length g1; simp at this; have l := g2.length; simp at l; omega) (by have := congrArg List.length g1'; simp at this; have l := g2'.length; simp at l; omega) o1 o2 e
      have sub0 : Sub X k A := sb.mono (Nat.le_of_succ_le hk)
      refine PySem.W.cmp_K (op := .Eq) (tb := .ref (T.ca c')) hu hF J.ok.mod.kin K1 K2.type (Q.nf c c1 c' c2) oc.eq oc.fn (wpAny_mono (eq_callG cD sub0.room sub0.fr J (x := .ref p) (y := .ref p') rfl rfl sr (Rp.bare o1 ra0 c1) (Rp.bare o2 rb0 c2) hden) (fun w s1 z => ?_) fun _ _ x => x)
      obtain ⟨b, rfl, rfl, z⟩ := z
      exact ⟨rfl, z⟩
    | _ => unfold eqD at e; cases e
  | _ => unfold eqD at e; cases e
theorem rcn_step {n' : Nat} (hn : n + 1 ≤ n') (hk : k + 1 ≤ n') (B : EqB X T n CS h) (cD : DF X.prog X.w X.K X.mg X.base T k f 2 den) (Q : OwnQ T X.K f CS)
    (HD : HDen T CS den h) (HN : HNon T CS den h) : RcN X T n' CS (h + 1) := by
  intro A pins s σ H x y v u I m a b r sb J sr ra rb rv ru ha hb e
  have hu := sb.room.units0
  cases a with
  | non =>
    cases b with
    | non =>
      exact (eqB0 (n := n') (h := 0) (by decide)).rcn A pins s σ H x y v u I m _ _ r sb J sr ra rb rv ru (by unfold D.okE; rfl) (by unfold D.okE; rfl) e
    | bl _ =>
      exact (eqB0 (n := n') (h := 0) (by decide)).rcn A pins s σ H x y v u I m _ _ r sb J sr ra rb rv ru (by unfold D.okE; rfl) (by unfold D.okE; rfl) e
    | int _ =>
      exact (eqB0 (n := n') (h := 0) (by decide)).rcn A pins s σ H x y v u I m _ _ r sb J sr ra rb rv ru (by unfold D.okE; rfl) (by unfold D.okE; rfl) e
    | str _ =>
      exact (eqB0 (n := n') (h := 0) (by decide)).rcn A pins s σ H x y v u I m _ _ r sb J sr ra rb rv ru (by unfold D.okE; rfl) (by unfold D.okE; rfl) e
    | tup ys =>
      unfold eqD at e; cases e
      cases rp_non.mp ra; cases rv
      obtain ⟨p2, vs2, rfl, q2, k2⟩ := rp_tup.mp rb; cases ru; obtain ⟨its2, rr2, t2, z2⟩ := J.tuple (SqT.same sr.same q2)
      exact (RcNeAt.none_tuple  t2 hu) X.prog X.w X.xe _ ⟨rfl, H, J, ExtT.of sr⟩
    | lst ys =>
      unfold eqD at e; cases e
      cases rp_non.mp ra; cases rv
      obtain ⟨p2, vs2, rfl, q2, k2⟩ := rp_lst.mp rb; cases ru; obtain ⟨z2, its2, n2, rr2, hl2, e02⟩ := (q2.same sr.same).lst J; have t2 : s.heap.IsList p2 its2.toArray := ⟨_, e02, rfl, _, rfl⟩
      exact (RcNeAt.none_list  t2 hu) X.prog X.w X.xe _ ⟨rfl, H, J, ExtT.of sr⟩
    | obj c' ys =>
      unfold eqD at e; cases e
      cases rp_non.mp ra; cases rv
      have rb0 := rb
      unfold Rp at rb
      obtain ⟨p, dx, gs, rfl, eb, g1, g2⟩ := rb
      cases ru
      rcases h with _ | h
      · unfold D.okE at hb; cases hb
      unfold D.okE at hb
      obtain ⟨c1, o1⟩ := Bool.and_eq_true_iff.mp hb
      have c1 := of_decide_eq_true c1
      have oc := Q.own c' c1
      obtain ⟨mA, K1, _⟩ := ins_get J.hok (sr.same _ _ eb)
      obtain ⟨od, K1, _⟩ := K1.look
      obtain ⟨cs', hden⟩ := HN h c' ys rfl c1 (by have := congrArg List.length g1; simp at this; have l := g2.length; simp at l; omega) o1
      have sub0 : Sub X k A := sb.mono (Nat.le_of_succ_le hk)
      refine OwnNe.none_ne (sb.mono hk).in1.room.units0 J.kIn K1 (Q.sbn c' c1) oc.ne oc.mro oc.eq oc.fn (wpAny_mono (eq_callG cD (sb.mono hk).in1.room (sb.mono hk).in1.fr J (x := .ref p) (y := .non) rfl rfl sr (Rp.bare o1 rb0 c1) (rp_non.mpr rfl) hden) (fun w s1 z => ?_) fun _ _ x => x)
      obtain ⟨b, rfl, rfl, z⟩ := z
      exact ⟨false, rfl, rfl, z⟩
    | _ => unfold eqD at e; cases e
  | bl _ =>
    cases b with
    | non =>
      exact (eqB0 (n := n') (h := 0) (by decide)).rcn A pins s σ H x y v u I m _ _ r sb J sr ra rb rv ru (by unfold D.okE; rfl) (by unfold D.okE; rfl) e
    | bl _ =>
      exact (eqB0 (n := n') (h := 0) (by decide)).rcn A pins s σ H x y v u I m _ _ r sb J sr ra rb rv ru (by unfold D.okE; rfl) (by unfold D.okE; rfl) e
    | int _ =>
      exact (eqB0 (n := n') (h := 0) (by decide)).rcn A pins s σ H x y v u I m _ _ r sb J sr ra rb rv ru (by unfold D.okE; rfl) (by unfold D.okE; rfl) e
    | str _ =>
      exact (eqB0 (n := n') (h := 0) (by decide)).rcn A pins s σ H x y v u I m _ _ r sb J sr ra rb rv ru (by unfold D.okE; rfl) (by unfold D.okE; rfl) e
    | tup ys =>
      unfold eqD at e; cases e
      cases rp_bl.mp ra; cases rv
      obtain ⟨p2, vs2, rfl, q2, k2⟩ := rp_tup.mp rb; cases ru; obtain ⟨its2, rr2, t2, z2⟩ := J.tuple (SqT.same sr.same q2)
      exact (RcNeAt.bool_tuple _ t2 hu) X.prog X.w X.xe _ ⟨rfl, H, J, ExtT.of sr⟩
    | lst ys =>
      unfold eqD at e; cases e
      cases rp_bl.mp ra; cases rv
      obtain ⟨p2, vs2, rfl, q2, k2⟩ := rp_lst.mp rb; cases ru; obtain ⟨z2, its2, n2, rr2, hl2, e02⟩ := (q2.same sr.same).lst J; have t2 : s.heap.IsList p2 its2.toArray := ⟨_, e02, rfl, _, rfl⟩
      exact (RcNeAt.bool_list _ t2 hu) X.prog X.w X.xe _ ⟨rfl, H, J, ExtT.of sr⟩
    | obj c' ys =>
      unfold eqD at e; cases e
    | _ => unfold eqD at e; cases e
  | int _ =>
    cases b with
    | non =>
      exact (eqB0 (n := n') (h := 0) (by decide)).rcn A pins s σ H x y v u I m _ _ r sb J sr ra rb rv ru (by unfold D.okE; rfl) (by unfold D.okE; rfl) e
    | bl _ =>
      exact (eqB0 (n := n') (h := 0) (by decide)).rcn A pins s σ H x y v u I m _ _ r sb J sr ra rb rv ru (by unfold D.okE; rfl) (by unfold D.okE; rfl) e
    | int _ =>
      exact (eqB0 (n := n') (h := 0) (by decide)).rcn A pins s σ H x y v u I m _ _ r sb J sr ra rb rv ru (by unfold D.okE; rfl) (by unfold D.okE; rfl) e
    | str _ =>
      exact (eqB0 (n := n') (h := 0) (by decide)).rcn A pins s σ H x y v u I m _ _ r sb J sr ra rb rv ru (by unfold D.okE; rfl) (by unfold D.okE; rfl) e
    | tup ys =>
      unfold eqD at e; cases e
      cases rp_int.mp ra; obtain ⟨_, rfl⟩ := rv
      obtain ⟨p2, vs2, rfl, q2, k2⟩ := rp_tup.mp rb; cases ru; obtain ⟨its2, rr2, t2, z2⟩ := J.tuple (SqT.same sr.same q2)
      exact (RcNeAt.int_tuple _ _ t2 hu) X.prog X.w X.xe _ ⟨rfl, H, J, ExtT.of sr⟩
    | lst ys =>
      unfold eqD at e; cases e
      cases rp_int.mp ra; obtain ⟨_, rfl⟩ := rv
      obtain ⟨p2, vs2, rfl, q2, k2⟩ := rp_lst.mp rb; cases ru; obtain ⟨z2, its2, n2, rr2, hl2, e02⟩ := (q2.same sr.same).lst J; have t2 : s.heap.IsList p2 its2.toArray := ⟨_, e02, rfl, _, rfl⟩
      exact (RcNeAt.int_list _ _ t2 hu) X.prog X.w X.xe _ ⟨rfl, H, J, ExtT.of sr⟩
    | obj c' ys =>
      unfold eqD at e; cases e
    | _ => unfold eqD at e; cases e
  | str _ =>
    cases b with
    | non =>
      exact (eqB0 (n := n') (h := 0) (by decide)).rcn A pins s σ H x y v u I m _ _ r sb J sr ra rb rv ru (by unfold D.okE; rfl) (by unfold D.okE; rfl) e
    | bl _ =>
      exact (eqB0 (n := n') (h := 0) (by decide)).rcn A pins s σ H x y v u I m _ _ r sb J sr ra rb rv ru (by unfold D.okE; rfl) (by unfold D.okE; rfl) e
    | int _ =>
      exact (eqB0 (n := n') (h := 0) (by decide)).rcn A pins s σ H x y v u I m _ _ r sb J sr ra rb rv ru (by unfold D.okE; rfl) (by unfold D.okE; rfl) e
    | str _ =>
      exact (eqB0 (n := n') (h := 0) (by decide)).rcn A pins s σ H x y v u I m _ _ r sb J sr ra rb rv ru (by unfold D.okE; rfl) (by unfold D.okE; rfl) e
    | tup ys =>
      unfold eqD at e; cases e
      cases rp_str.mp ra; obtain ⟨_, rfl⟩ := rv
      obtain ⟨p2, vs2, rfl, q2, k2⟩ := rp_tup.mp rb; cases ru; obtain ⟨its2, rr2, t2, z2⟩ := J.tuple (SqT.same sr.same q2)
      exact (RcNeAt.str_tuple _ _ t2 hu) X.prog X.w X.xe _ ⟨rfl, H, J, ExtT.of sr⟩
    | lst ys =>
      unfold eqD at e; cases e
      cases rp_str.mp ra; obtain ⟨_, rfl⟩ := rv
      obtain ⟨p2, vs2, rfl, q2, k2⟩ := rp_lst.mp rb; cases ru; obtain ⟨z2, its2, n2, rr2, hl2, e02⟩ := (q2.same sr.same).lst J; have t2 : s.heap.IsList p2 its2.toArray := ⟨_, e02, rfl, _, rfl⟩
      exact (RcNeAt.str_list _ _ t2 hu) X.prog X.w X.xe _ ⟨rfl, H, J, ExtT.of sr⟩
    | obj c' ys =>
      unfold eqD at e; cases e
    | _ => unfold eqD at e; cases e
  | tup xs =>
    cases b with
    | non =>
      unfold eqD at e; cases e
      cases rp_non.mp rb; cases ru
      obtain ⟨p1, vs1, rfl, q1, k1⟩ := rp_tup.mp ra; cases rv; obtain ⟨its1, rr1, t1, z1⟩ := J.tuple (SqT.same sr.same q1)
      exact (RcNeAt.tuple_none  t1 hu) X.prog X.w X.xe _ ⟨rfl, H, J, ExtT.of sr⟩
    | bl _ =>
      unfold eqD at e; cases e
      cases rp_bl.mp rb; cases ru
      obtain ⟨p1, vs1, rfl, q1, k1⟩ := rp_tup.mp ra; cases rv; obtain ⟨its1, rr1, t1, z1⟩ := J.tuple (SqT.same sr.same q1)
      exact (RcNeAt.tuple_bool _ t1 hu) X.prog X.w X.xe _ ⟨rfl, H, J, ExtT.of sr⟩
    | int _ =>
      unfold eqD at e; cases e
      cases rp_int.mp rb; obtain ⟨_, rfl⟩ := ru
      obtain ⟨p1, vs1, rfl, q1, k1⟩ := rp_tup.mp ra; cases rv; obtain ⟨its1, rr1, t1, z1⟩ := J.tuple (SqT.same sr.same q1)
      exact (RcNeAt.tuple_int _ _ t1 hu) X.prog X.w X.xe _ ⟨rfl, H, J, ExtT.of sr⟩
    | str _ =>
      unfold eqD at e; cases e
      cases rp_str.mp rb; obtain ⟨_, rfl⟩ := ru
      obtain ⟨p1, vs1, rfl, q1, k1⟩ := rp_tup.mp ra; cases rv; obtain ⟨its1, rr1, t1, z1⟩ := J.tuple (SqT.same sr.same q1)
      exact (RcNeAt.tuple_str _ _ t1 hu) X.prog X.w X.xe _ ⟨rfl, H, J, ExtT.of sr⟩
    | tup ys =>
      unfold eqD at e; unfold D.okE at ha hb
      obtain ⟨hd, hr⟩ := eqL_all xs ys r e
      obtain ⟨p1, vs1, rfl, q1, k1⟩ := rp_tup.mp ra; cases rv; obtain ⟨its1, rr1, t1, z1⟩ := J.tuple (SqT.same sr.same q1)
      obtain ⟨p2, vs2, rfl, q2, k2⟩ := rp_tup.mp rb; cases ru; obtain ⟨its2, rr2, t2, z2⟩ := J.tuple (SqT.same sr.same q2)
      refine GQ2.rcn_tup2 (e := eAt xs ys) hu (LoopE X T pins σ H) t1 t2 (fun i j1 j2 s1 l1 => turnE B (sb.mono hn) sr k1 k2 ha hb hd rr1 rr2 i j1 j2 s1 l1) (fun s1 l1 => ⟨?_, l1⟩) ⟨H, J, ExtT.of sr⟩
      rw [List.size_toArray, List.size_toArray, ← rr1.length, ← rr2.length, ← k1.length, ← k2.length, hr]
    | lst ys =>
      unfold eqD at e; cases e
      obtain ⟨p1, vs1, rfl, q1, k1⟩ := rp_tup.mp ra; cases rv; obtain ⟨its1, rr1, t1, z1⟩ := J.tuple (SqT.same sr.same q1)
      obtain ⟨p2, vs2, rfl, q2, k2⟩ := rp_lst.mp rb; cases ru; obtain ⟨z2, its2, n2, rr2, hl2, e02⟩ := (q2.same sr.same).lst J; have t2 : s.heap.IsList p2 its2.toArray := ⟨_, e02, rfl, _, rfl⟩
      exact (RcNeAt.tuple_list t1 t2 hu) X.prog X.w X.xe _ ⟨rfl, H, J, ExtT.of sr⟩
    | obj c' ys =>
      unfold eqD at e; cases e
    | _ => unfold eqD at e; cases e
  | lst xs =>
    cases b with
    | non =>
      unfold eqD at e; cases e
      cases rp_non.mp rb; cases ru
      obtain ⟨p1, vs1, rfl, q1, k1⟩ := rp_lst.mp ra; cases rv; obtain ⟨z1, its1, n1, rr1, hl1, e01⟩ := (q1.same sr.same).lst J; have t1 : s.heap.IsList p1 its1.toArray := ⟨_, e01, rfl, _, rfl⟩
      exact (RcNeAt.list_none  t1 hu) X.prog X.w X.xe _ ⟨rfl, H, J, ExtT.of sr⟩
    | bl _ =>
      unfold eqD at e; cases e
      cases rp_bl.mp rb; cases ru
      obtain ⟨p1, vs1, rfl, q1, k1⟩ := rp_lst.mp ra; cases rv; obtain ⟨z1, its1, n1, rr1, hl1, e01⟩ := (q1.same sr.same).lst J; have t1 : s.heap.IsList p1 its1.toArray := ⟨_, e01, rfl, _, rfl⟩
      exact (RcNeAt.list_bool _ t1 hu) X.prog X.w X.xe _ ⟨rfl, H, J, ExtT.of sr⟩
    | int _ =>
      unfold eqD at e; cases e
      cases rp_int.mp rb; obtain ⟨_, rfl⟩ := ru
      obtain ⟨p1, vs1, rfl, q1, k1⟩ := rp_lst.mp ra; cases rv; obtain ⟨z1, its1, n1, rr1, hl1, e01⟩ := (q1.same sr.same).lst J; have t1 : s.heap.IsList p1 its1.toArray := ⟨_, e01, rfl, _, rfl⟩
      exact (RcNeAt.list_int _ _ t1 hu) X.prog X.w X.xe _ ⟨rfl, H, J, ExtT.of sr⟩
    | str _ =>
      unfold eqD at e; cases e
      cases rp_str.mp rb; obtain ⟨_, rfl⟩ := ru
      obtain ⟨p1, vs1, rfl, q1, k1⟩ := rp_lst.mp ra; cases rv; obtain ⟨z1, its1, n1, rr1, hl1, e01⟩ := (q1.same sr.same).lst J; have t1 : s.heap.IsList p1 its1.toArray := ⟨_, e01, rfl, _, rfl⟩
      exact (RcNeAt.list_str _ _ t1 hu) X.prog X.w X.xe _ ⟨rfl, H, J, ExtT.of sr⟩
    | tup ys =>
      unfold eqD at e; cases e
      obtain ⟨p1, vs1, rfl, q1, k1⟩ := rp_lst.mp ra; cases rv; obtain ⟨z1, its1, n1, rr1, hl1, e01⟩ := (q1.same sr.same).lst J; have t1 : s.heap.IsList p1 its1.toArray := ⟨_, e01, rfl, _, rfl⟩
      obtain ⟨p2, vs2, rfl, q2, k2⟩ := rp_tup.mp rb; cases ru; obtain ⟨its2, rr2, t2, z2⟩ := J.tuple (SqT.same sr.same q2)
      exact (RcNeAt.list_tuple t1 t2 hu) X.prog X.w X.xe _ ⟨rfl, H, J, ExtT.of sr⟩
    | lst ys =>
      unfold eqD at e; unfold D.okE at ha hb
      obtain ⟨hd, hr⟩ := eqL_all xs ys r e
      obtain ⟨p1, vs1, rfl, q1, k1⟩ := rp_lst.mp ra; cases rv; obtain ⟨z1, its1, n1, rr1, hl1, e01⟩ := (q1.same sr.same).lst J; have t1 : s.heap.IsList p1 its1.toArray := ⟨_, e01, rfl, _, rfl⟩
      obtain ⟨p2, vs2, rfl, q2, k2⟩ := rp_lst.mp rb; cases ru; obtain ⟨z2, its2, n2, rr2, hl2, e02⟩ := (q2.same sr.same).lst J; have t2 : s.heap.IsList p2 its2.toArray := ⟨_, e02, rfl, _, rfl⟩
      have l1 := k1.length.trans rr1.length; have l2 := k2.length.trans rr2.length
      by_cases hsz : xs.length = ys.length
      · refine GQ2.rcn_list2 (N := xs.length) (e := eAt xs ys) hu (LoopE X T pins σ H) (fun s1 l => ?_) (fun s1 l1 => ⟨?_, l1⟩) ⟨H, J, ExtT.of sr⟩
        · obtain ⟨H1, J1, ex⟩ := id l
          have sr1 := sr.extT ex
          obtain ⟨w1, is1, m1, r1, g1, f1⟩ := (q1.same sr1.same).lst J1
          obtain ⟨w2, is2, m2, r2, g2, f2⟩ := (q2.same sr1.same).lst J1
          have a1 := k1.length.trans r1.length; have a2 := k2.length.trans r2.length
          exact ⟨_, _, m1, m2, f1, f2, by rw [List.size_toArray, a1], by rw [List.size_toArray, hsz, a2], fun i j1 j2 => turnE B (sb.mono hn) sr k1 k2 ha hb hd r1 r2 i j1 j2 s1 l⟩
        · rw [hr, ← hsz, Nat.min_self]; simp
      · have hrf : r = false := by rw [hr]; simp [hsz]
        subst hrf
        exact (RcNeAt.lists_lengths t1 t2 (by simp only [List.size_toArray]; simp; omega) hu) X.prog X.w X.xe _ ⟨rfl, H, J, ExtT.of sr⟩
    | obj c' ys =>
      unfold eqD at e; cases e
    | _ => unfold eqD at e; cases e
  | obj c xs =>
    cases b with
    | non =>
      unfold eqD at e; cases e
      cases rp_non.mp rb; cases ru
      have ra0 := ra
      unfold Rp at ra
      obtain ⟨p, dx, gs, rfl, ea, g1, g2⟩ := ra
      cases rv
      rcases h with _ | h
      · unfold D.okE at ha; cases ha
      unfold D.okE at ha
      obtain ⟨c1, o1⟩ := Bool.and_eq_true_iff.mp ha
      have c1 := of_decide_eq_true c1
      have oc := Q.own c c1
      obtain ⟨mA, K1, _⟩ := ins_get J.hok (sr.same _ _ ea)
      obtain ⟨od, K1, _⟩ := K1.look
      obtain ⟨fm, hF⟩ := J.fr
      obtain ⟨cs', hden⟩ := HN h c xs rfl c1 (by have := congrArg List.length g1; simp at this; have l := g2.length; simp at l; omega) o1
      have sub0 : Sub X k A := sb.mono (Nat.le_of_succ_le hk)
      refine OwnNe.cmp_ne (tb := .type "NoneType") (sb.mono hk).in1.room.units0 J.kIn K1 none_looks (Q.nfn c c1) oc.ne oc.mro oc.eq oc.fn (wpAny_mono (eq_callG cD (sb.mono hk).in1.room (sb.mono hk).in1.fr J (x := .ref p) (y := .non) rfl rfl sr (Rp.bare o1 ra0 c1) (rp_non.mpr rfl) hden) (fun w s1 z => ?_) fun _ _ x => x)
      obtain ⟨b, rfl, rfl, z⟩ := z
      exact ⟨false, rfl, rfl, z⟩
    | bl _ =>
      unfold eqD at e; cases e
    | int _ =>
      unfold eqD at e; cases e
    | str _ =>
      unfold eqD at e; cases e
    | tup ys =>
      unfold eqD at e; cases e
    | lst ys =>
      unfold eqD at e; cases e
    | obj c' ys =>
      have ra0 := ra; have rb0 := rb
      unfold Rp at ra rb
      obtain ⟨p, dx, gs, rfl, ea, g1, g2⟩ := ra
      obtain ⟨p', dy, hs, rfl, eb, g1', g2'⟩ := rb
      cases rv; cases ru
      rcases h with _ | h
      · unfold D.okE at ha; cases ha
      unfold D.okE at ha hb
      obtain ⟨c1, o1⟩ := Bool.and_eq_true_iff.mp ha
      obtain ⟨c2, o2⟩ := Bool.and_eq_true_iff.mp hb
      have c1 := of_decide_eq_true c1; have c2 := of_decide_eq_true c2
      have oc := Q.own c c1
      obtain ⟨mA, K1, _⟩ := ins_get J.hok (sr.same _ _ ea)
      obtain ⟨mB, K2, _⟩ := ins_get J.hok (sr.same _ _ eb)
      obtain ⟨od, K1, _⟩ := K1.look
      obtain ⟨od', K2, _⟩ := K2.look
      obtain ⟨fm, hF⟩ := J.fr
      obtain ⟨cs', hden⟩ := HD h c xs c' ys r rfl c1 c2 (by have := congrArg List.length g1; simp at this; have l := g2.length; simp at l; omega) (by have := congrArg List.length g1'; simp at this; have l := g2'.length; simp at l; omega) o1 o2 e
      have sub0 : Sub X k A := sb.mono (Nat.le_of_succ_le hk)
      refine OwnNe.cmp_ne (tb := .ref (T.ca c')) (sb.mono hk).in1.room.units0 J.kIn K1 K2.type (Q.nf c c1 c' c2) oc.ne oc.mro oc.eq oc.fn (wpAny_mono (eq_callG cD (sb.mono hk).in1.room (sb.mono hk).in1.fr J (x := .ref p) (y := .ref p') rfl rfl sr (Rp.bare o1 ra0 c1) (Rp.bare o2 rb0 c2) hden) (fun w s1 z => ?_) fun _ _ x => x)
      obtain ⟨b, rfl, rfl, z⟩ := z
      exact ⟨b, rfl, rfl, z⟩
    | _ => unfold eqD at e; cases e
  | _ => unfold eqD at e; cases e
theorem no_float {I : Hp} {m : List Addr} {a : D} {x : V} {v : Value} {n : Nat} {K : PySem.W.Frag} (ha : a.okE CS n = true) (ra : Rp T K I m a x) (rv : RelV x v) : ∀ z t, v ≠ .float z t := by
  intro z t e
  subst e
  cases a with
  | non => cases rp_non.mp ra; cases rv
  | bl => cases rp_bl.mp ra; cases rv
  | int => cases rp_int.mp ra; obtain ⟨_, h⟩ := rv; cases h
  | str => cases rp_str.mp ra; obtain ⟨_, h⟩ := rv; cases h
  | tup => obtain ⟨_, _, rfl, _⟩ := rp_tup.mp ra; cases rv
  | lst => obtain ⟨_, _, rfl, _⟩ := rp_lst.mp ra; cases rv
  | obj => unfold Rp at ra; obtain ⟨_, _, _, rfl, _⟩ := ra; cases rv
  | _ => unfold D.okE at ha; cases ha
theorem eqb_step {n' h' : Nat} (R : RcE X T n' CS h') (inj : ∀ c ∈ CS, ∀ c' ∈ CS, T.ca c = T.ca c' → c = c') {A : Around} {pins : List (Addr × Obj)} {s : Shared} {σ : L2.St} {H : Hp} {x y : V} {v u : Value} {I : Hp} {m : List Addr} {a b : D} {r : Bool}
    (sb : Sub X n' A) (J : Inv X pins σ H s) (sr : SR T X.K I [] [] H) (ra : Rp T X.K I m a x) (rb : Rp T X.K I m b y) (rv : RelV x v) (ru : RelV y u) (ha : a.okE CS h' = true) (hb : b.okE CS h' = true) (e : eqD a b = some r) :
    wpAny (model X.prog X.w) A (eqBool v u) (fun r' s' => r' = r ∧ ∃ H', Inv X pins σ H' s' ∧ ExtT T H H') X.xe s := by
  by_cases hvu : v = u
  · subst hvu
    have ex := RelV.inj rv ru; subst ex
    have hr := rp_det J sr.same inj a b h' x r ha hb ra rb e
    subst hr
    exact EqAt.same v X.prog X.w X.xe _ ⟨rfl, H, J, ExtT.of sr⟩
  · refine GQ2.eqBool_ne hvu (no_float ha ra rv) (wpAny_mono (R A pins s σ H x y v u I m a b r sb J sr ra rb rv ru ha hb e) (fun z s' q => ?_) fun _ _ x => x)
    obtain ⟨rfl, q⟩ := q
    exact ⟨r, rfl, rfl, q⟩
theorem SqX.extT {K : PySem.W.Frag} {H H' : Hp} {p : Addr} {vs : List V} (q : SqX K H p vs) (e : ExtT T H H') : SqX K H' p vs := by
  rcases q with (q | ⟨o, q⟩) | q
  · exact .inl (.inl (e.1 _ _ q (.inr fun _ z => nomatch z)))
  · exact .inl (.inr ⟨o, e.1 _ _ q (.inr fun _ z => nomatch z)⟩)
  · exact .inr q
theorem any_idx (f : D → Bool) : ∀ bs : List D, bs.any f = (List.range bs.length).any fun i => match bs[i]? with | some b => f b | none => false
  | [] => rfl
  | b :: bs => by
    rw [List.any_cons, List.length_cons, List.range_succ_eq_map, List.any_cons, List.any_map, any_idx f bs]
    rfl
def inAt (bs : List D) (a : D) (i : Nat) : Bool := match bs[i]? with | some b => eqD b a == some true | none => false
theorem inl_step {n1 n' h' : Nat} (R : RcE X T n1 CS h') (hn : n1 + 1 ≤ n') (inj : ∀ c ∈ CS, ∀ c' ∈ CS, T.ca c = T.ca c' → c = c') {A : Around} {pins : List (Addr × Obj)} {s : Shared} {σ : L2.St} {H : Hp} {x : V} {v : Value} {I : Hp} {m : List Addr} {a : D} {bs : List D} {r : Bool} {p : Addr} {ys : List V}
    (sb : Sub X n' A) (J : Inv X pins σ H s) (sr : SR T X.K I [] [] H) (ra : Rp T X.K I m a x) (q : SqX X.K H p ys ∨ SqT X.K H p ys) (rb : RpL T X.K I m bs ys) (rv : RelV x v) (ha : a.okE CS h' = true) (hb : ∀ b ∈ bs, b.okE CS h' = true ∧ ∃ r', eqD b a = some r') (er : r = bs.any fun b => eqD b a == some true) :
    wpAny (model X.prog X.w) A (compareOp .In v (.ref p)) (fun r' s' => r' = .bool r ∧ ∃ H', Inv X pins σ H' s' ∧ ExtT T H H') X.xe s ∧
    wpAny (model X.prog X.w) A (compareOp .NotIn v (.ref p)) (fun r' s' => r' = .bool (!r) ∧ ∃ H', Inv X pins σ H' s' ∧ ExtT T H H') X.xe s := by
  have hr : r = (List.range bs.length).any (inAt bs a) := by rw [er, any_idx]; rfl
  have turn : ∀ (its : List Value) (s' : Shared) (i : Nat) (h1 : i < its.toArray.size), Vals ys its → LoopE X T pins σ H s' → wpAny (model X.prog X.w) A.in1 (eqBool its.toArray[i] v) (fun r s2 => r = inAt bs a i ∧ LoopE X T pins σ H s2) X.xe s' := by
    intro its s' i h1 rr l
    obtain ⟨H1, I1, e1⟩ := l
    have g1 : its[i]? = some its.toArray[i] := by
      have h1' : i < its.length := by simpa using h1
      rw [List.getElem?_eq_getElem h1'] <;> simp
    have k1 : i < ys.length := by rw [rr.length]; simpa using h1
    obtain ⟨u, hu, ru⟩ := rr.get (List.getElem?_eq_getElem k1)
    rw [g1] at hu
    rw [Option.some.inj hu]
    obtain ⟨b, eb, qb⟩ := rb.getV (List.getElem?_eq_getElem k1)
    obtain ⟨hb1, r', hb2⟩ := hb b (List.mem_of_getElem? eb)
    refine wpAny_mono (eqb_step R inj ((sb.mono hn).in1) I1 (sr.extT e1) qb ra ru rv hb1 ha hb2) (fun r s2 q => ?_) fun _ _ x => x
    obtain ⟨hr, H2, I2, e2⟩ := q
    exact ⟨by unfold inAt; rw [eb]; simp [hb2, hr], H2, I2, e1.trans e2⟩
  rcases q with q | q
  · have hj : GQ2.HasJ X.prog X.w A X.xe p v bs.length (inAt bs a) (LoopE X T pins σ H) := fun s1 l => by
      obtain ⟨H1, J1, ex⟩ := id l
      obtain ⟨w1, is1, m1, r1, g1, f1⟩ := (q.extT ex).lst J1
      exact ⟨_, m1, f1, by rw [List.size_toArray, ← g1, ← rb.length], fun i j1 => turn is1 s1 i j1 r1 l⟩
    exact ⟨GQ2.in_list2 (LoopE X T pins σ H) hj (fun s1 l1 => ⟨by rw [hr], l1⟩) ⟨H, J, ExtT.of sr⟩, GQ2.notIn_list2 (LoopE X T pins σ H) hj (fun s1 l1 => ⟨by rw [hr], l1⟩) ⟨H, J, ExtT.of sr⟩⟩
  · obtain ⟨its, rr, t1, z⟩ := J.tuple q
    have hl : its.toArray.size = bs.length := by rw [List.size_toArray, ← rr.length, ← rb.length]
    exact ⟨GQ2.in_tuple2 (LoopE X T pins σ H) t1 (fun i j1 s1 l1 => turn its s1 i j1 rr l1) (fun s1 l1 => ⟨by rw [hr, hl], l1⟩) ⟨H, J, ExtT.of sr⟩, GQ2.notIn_tuple2 (LoopE X T pins σ H) t1 (fun i j1 s1 l1 => turn its s1 i j1 rr l1) (fun s1 l1 => ⟨by rw [hr, hl], l1⟩) ⟨H, J, ExtT.of sr⟩⟩
theorem EqB.step {n' : Nat} (B : EqB X T n CS h) (cD : DF X.prog X.w X.K X.mg X.base T k f 2 den) (Q : OwnQ T X.K f CS) (HD : HDen T CS den h) (HN : HNon T CS den h) (hn : n + 2 ≤ n' := by decide) (hk : k + 2 ≤ n' := by decide) : EqB X T n' CS (h + 1) := by
  have hn1 : n + 1 ≤ n' - 1 := by omega
  have hk1 : k + 1 ≤ n' - 1 := by omega
  have R1 := rce_step hn1 hk1 B cD Q HD HN
  have R2 := rce_step (n' := n') (by omega) (by omega) B cD Q HD HN
  exact ⟨fun A pins s σ H x y v u I m a b r sb J sr ra rb rv ru ha hb e => eqb_step R2 Q.inj sb J sr ra rb rv ru ha hb e, R2, rcn_step (by omega) (by omega) B cD Q HD HN,
    fun A pins s σ H x y v u I m a bs r p ys sb J sr ra ey q rb rv ru ha hb er => by
      subst ey
      cases ru
      exact inl_step R1 (by omega) Q.inj sb J sr ra q rb rv ha hb er⟩
theorem okE_base : ∀ (d : D), d.okE CS 1 = true → d.okE [] 1 = true := by
  have h0 : ∀ xs : List D, D.okL CS xs 0 = true → D.okL [] xs 0 = true := by
    intro xs
    induction xs with
    | nil => intro _; unfold D.okL; rfl
    | cons x xs ih =>
      intro h
      unfold D.okL at h ⊢
      obtain ⟨h1, h2⟩ := Bool.and_eq_true_iff.mp h
      rw [ih h2, Bool.and_true]
      cases x <;> unfold D.okE at h1 ⊢ <;> first | rfl | exact h1
  intro d h
  cases d <;> unfold D.okE at h ⊢ <;> first | rfl | exact h0 _ h | exact h
theorem EqB.base {n : Nat} : EqB X T n CS 1 := by
  have B := eqB0 (X := X) (T := T) (n := n) (h := 1) (by decide)
  exact ⟨fun A pins s σ H x y v u I m a b r sb J sr ra rb rv ru ha hb e => B.eqb A pins s σ H x y v u I m a b r sb J sr ra rb rv ru (okE_base a ha) (okE_base b hb) e,
    fun A pins s σ H x y v u I m a b r sb J sr ra rb rv ru ha hb e => B.rce A pins s σ H x y v u I m a b r sb J sr ra rb rv ru (okE_base a ha) (okE_base b hb) e,
    fun A pins s σ H x y v u I m a b r sb J sr ra rb rv ru ha hb e => B.rcn A pins s σ H x y v u I m a b r sb J sr ra rb rv ru (okE_base a ha) (okE_base b hb) e,
    fun A pins s σ H x y v u I m a bs r p ys sb J sr ra ey q rb rv ru ha hb er => B.inl A pins s σ H x y v u I m a bs r p ys sb J sr ra ey q rb rv ru (okE_base a ha) (fun b hb' => ⟨okE_base b (hb b hb').1, (hb b hb').2⟩) er⟩
end
theorem nodup_inj {α β : Type} {f : α → β} : ∀ {l : List α}, (l.map f).Nodup → ∀ a ∈ l, ∀ b ∈ l, f a = f b → a = b
  | [], _, a, ha, _, _, _ => nomatch ha
  | x :: l, h, a, ha, b, hb, e => by
    rw [List.map_cons, List.nodup_cons] at h
    rcases List.mem_cons.mp ha with q | q
    · rcases List.mem_cons.mp hb with p | p
      · rw [q, p]
      · exact absurd (q ▸ e ▸ List.mem_map_of_mem p) h.1
    · rcases List.mem_cons.mp hb with p | p
      · exact absurd (p ▸ e.symm ▸ List.mem_map_of_mem q) h.1
      · exact nodup_inj h.2 a q b p e
theorem Kn.ownq {fa : List He.Fa} {fn : List He.DefD} {fb : List Fb} {K : PySem.W.Frag} {mg : PySem.Str → Option Value} (z : Kn fa fn fb K mg) (i : Nat) {l : List PySem.Str} {f : PySem.Str × Option PySem.Str} {T : Tab} {CS : List Nat} {cn : Nat → PySem.Str} (h : fb[i]? = some (.ownq l f) := by rfl)
    (hl : CS.map cn = l := by rfl) (hT : T.ca = fun c => He.ga K (cn c) := by rfl) : OwnQ T K (He.fAd K f) CS := by
  subst hl
  obtain ⟨h1, h2⟩ := He.ba (z.fb_ i h)
  obtain ⟨h3, h4⟩ := He.ba h1
  obtain ⟨h5, h6⟩ := He.ba h2
  have e : ∀ c, T.ca c = He.ga K (cn c) := fun c => by rw [hT]
  have q5 : ∀ c ∈ CS, _ := fun c hc => List.all_eq_true.mp h5 (cn c) (List.mem_map_of_mem hc)
  have q6 : ∀ c ∈ CS, _ := fun c hc => List.all_eq_true.mp h6 (cn c) (List.mem_map_of_mem hc)
  refine ⟨fun c hc => ?_, fun c hc c' hc' => ?_, fun c hc => ?_, fun c hc => ?_, fun c hc c' hc' q => ?_⟩
  · obtain ⟨a1, a2⟩ := He.ba (q5 c hc)
    obtain ⟨a3, a4⟩ := He.ba a2
    obtain ⟨a5, a6⟩ := He.ba a4
    rw [e]
    exact ⟨He.eqO_ok a1, He.eqO_ok a3, h3, of_decide_eq_true a5⟩
  · obtain ⟨a1, a2⟩ := He.ba (q6 c hc)
    rw [e, e]
    exact List.all_eq_true.mp a2 (cn c') (List.mem_map_of_mem hc')
  · obtain ⟨a1, a2⟩ := He.ba (q6 c hc)
    rw [e]; exact a1
  · obtain ⟨a1, a2⟩ := He.ba (q5 c hc)
    obtain ⟨a3, a4⟩ := He.ba a2
    obtain ⟨a5, a6⟩ := He.ba a4
    rw [e]; exact of_decide_eq_true a6
  · rw [e, e] at q
    have nd : (CS.map fun c => He.ga K (cn c)).Nodup := by
      have := of_decide_eq_true h4
      rw [List.map_map] at this
      exact this
    exact nodup_inj nd c hc c' hc' q
end
end DL
end

section
set_option Elab.async false
set_option linter.all false
set_option maxRecDepth 100000
set_option maxHeartbeats 4000000
/-! DL32: sorted(set(xs)), sorted(xs), more of lists and dicts. -/
namespace L2
open PySem PySem.Spec PyProof.Rows PySem.SeqAt
section
variable {P : Program} {w : World} {A : Around} {E : Value → Shared → Prop} {s : Shared}
set_option maxHeartbeats 3200000 in
theorem call_set_lstI {l : Addr} {items : Array Value} (ns : List Int) {Q : Value → Shared → Prop} (hh : A.handled = none) (hl : s.heap.IsList l items) (hit : IntsAre items.toList ns) (hb : ns.length + 1 < scanBound)
    (h : ∀ (h' : Heap) (tk c : Nat), SetR w h' s.heap.objs.size (fun j => decide (j ∈ ns)) c → c ≤ ns.length → (∀ b o, s.heap.get? b = some o → h'.get? b = some o) → Q (.ref s.heap.objs.size) { s with heap := h', toks := tk }) :
    wpAny (model P w) A (call (.type "set") [.ref l]) Q E s := by
  have hisz : items.size = ns.length := by
    have q := IntsAre.length hit
    rw [Array.length_toList] at q
    exact q
  obtain ⟨c, tl, hmro⟩ := F.called_set.mro
  have hmade := F.called_set.made
  have hsub := F.called_set.sub
  refine wpAny_call (codeAny_of_tree ?_)
  show wpAny _ _ (callAny (.type "set") _) _ _ _
  refine wpAny_pure ⟨Code.quiet_builtin _ (by decide +kernel), codeAny_builtin F.entry_type_call ?_⟩
  rw [Around.under_plain (weight_type_call_type "set" [.ref l] []) rfl]
  have h1 := F.called_set.notType
  have h2 := F.called_set.canCreate
  have hct := F.typeCall_set_1 (.ref l)
  repeat (any_goals (first | assumption | wp_step))

  refine codeAny_mono (code_set_led1 (.ref l) (E := E) (Q₁ := fun obj s₁ => obj = .ref s.heap.objs.size ∧ s₁ = { s with heap := s.heap.push { cls := .type "set", dict := none, data := .set #[] 0 (.fresh 0 0 (!w.params.followText "set-order")) } }) ⟨rfl, rfl⟩) fun r s₁ hr => ?_
  cases r with
  | error e => exact hr
  | ok fl =>
    cases fl with
    | ret obj =>
      obtain ⟨rfl, rfl⟩ := hr
      have hS : (s.heap.push { cls := .type "set", dict := none, data := .set #[] 0 (.fresh 0 0 (!w.params.followText "set-order")) }).get? s.heap.objs.size = some { cls := .type "set", dict := none, data := .set #[] 0 (.fresh 0 0 (!w.params.followText "set-order")) } := Heap.get?_push_size _ rfl
      have hT : Shared.TypeIs { s with heap := s.heap.push { cls := .type "set", dict := none, data := .set #[] 0 (.fresh 0 0 (!w.params.followText "set-order")) } } (.ref s.heap.objs.size) "set" := ⟨_, hS, rfl⟩
      have hli := F.called_set.init.lookup
      have hbi := F.called_set.init.bind (.ref s.heap.objs.size)
      repeat (any_goals (first | assumption | wp_step))

      refine codeAny_mono (codeAny_call_builtin (R := wants (fun r s₂ => r = .none ∧ ∃ h' tk c, s₂ = { s with heap := h', toks := tk } ∧ SetR w h' s.heap.objs.size (fun j => decide (j ∈ ns)) c ∧ c ≤ ns.length ∧
          (∀ b o, s.heap.get? b = some o → h'.get? b = some o)) E) F.called_set.init.plain F.entry_set_init (check_set_init_1 hT ?_)) fun r₂ s₂ hr₂ => ?_
      · obtain ⟨ol, hol, hcl, nl, hdl⟩ := hl
        obtain ⟨ocls, odict, odata, oslots⟩ := ol
        simp only at hcl hdl
        subst hcl; subst hdl
        have hol' : (s.heap.push { cls := .type "set", dict := none, data := .set #[] 0 (.fresh 0 0 (!w.params.followText "set-order")) }).get? l = some { cls := .type "list", dict := odict, data := .seq items nl, slots := oslots } := Heap.get?_push_of_some _ hol
        have hsls := F.sub_list_set
        have hslf := F.sub_list_frozenset
        have hne : (Value.type "list" == Value.type "dict") = false := by decide
        have hl1 : (s.heap.push { cls := .type "set", dict := none, data := .set #[] 0 (.fresh 0 0 (!w.params.followText "set-order")) }).IsList l items := ⟨_, hol', rfl, nl, rfl⟩
        unfold Builtin.«set.__init__» noKeywords Builtin.Frozenset.updateFrom
        generalize hPI : pyIter = PI
        wp_walk
        subst hPI

        refine wpAny_pyIter_list hl1 ?_
        refine wpAny_bind (wpAny_runValue ?_)
        have hlS : l < s.heap.objs.size := Heap.lt_size hol
        have hh3 : A.in1.in1.in1.handled = none := by simp [hh]
        have hz1 : (s.heap.push { cls := .type "set", dict := none, data := .set #[] 0 (.fresh 0 0 (!w.params.followText "set-order")) }).objs.size = s.heap.objs.size + 1 := Heap.size_push ..
        have hneI : l ≠ (s.heap.push { cls := .type "set", dict := none, data := .set #[] 0 (.fresh 0 0 (!w.params.followText "set-order")) }).objs.size := by
          rw [Heap.size_push]; exact Nat.ne_of_lt (Nat.lt_succ_of_lt hlS)
        have hSf : s.heap.objs.size ∉ [(s.heap.push { cls := .type "set", dict := none, data := .set #[] 0 (.fresh 0 0 (!w.params.followText "set-order")) }).objs.size, l] := by
          rw [Heap.size_push]; simp only [List.mem_cons, List.mem_singleton, List.not_mem_nil, or_false, not_or]
          exact ⟨Nat.ne_of_lt (Nat.lt_succ_self _), Nat.ne_of_gt hlS⟩
        have hval : ∀ (i : Nat) (v : Value), items[i]? = some v → ∃ k t, ns[i]? = some k ∧ v = .int k t := fun i v hv => by
          have hi : i < ns.length := by rw [← hisz]; exact (Array.getElem?_eq_some_iff.mp hv).1
          obtain ⟨t, e⟩ := PyProof.Rows.IntsAre.int_at hit i v (by rw [Array.getElem?_toList]; exact hv)
          refine ⟨ns[i], t, List.getElem?_eq_getElem hi, ?_⟩
          rw [e, List.getD_eq_getElem?_getD, List.getElem?_eq_getElem hi] <;> rfl
        refine set_update_ints ((Walks.list hh3 _ l hneI items).toS) s.heap.objs.size
          hSf ns hisz hb hval (items.size - 0) 0 _ (by omega) (Nat.zero_le _)
          ⟨⟨_, Heap.get?_push_size _ rfl, rfl, rfl⟩, (hl1.push _)⟩ ?hS0 ?hR
        case hS0 =>
          have hget : ((s.heap.push { cls := .type "set", dict := none, data := .set #[] 0 (.fresh 0 0 (!w.params.followText "set-order")) }).push { cls := .type "list_iterator", data := .fields #[.ref l, .int 0 0] }).get? s.heap.objs.size
              = some { cls := .type "set", dict := none, data := .set #[] 0 (.fresh 0 0 (!w.params.followText "set-order")) } := Heap.get?_push_of_some _ hS
          exact ⟨0, Nat.le_refl 0, setR_new_at hget⟩
        case hR =>
          intro s' c' hm hc' hS'
          obtain ⟨h', g2, d', tk', os'⟩ := s'
          have eg : g2 = s.gens := hm.gens
          have ed : d' = s.drawn := hm.drawn
          have eo : os' = s.os := hm.os
          subst eg; subst ed; subst eo
          show wpAny _ _ _ _ _ _
          refine wpAny_pure ?_
          show wpAny _ _ (ret Value.none) _ _ _
          rw [hisz] at hc'
          refine wpAny_pure ⟨rfl, h', tk', c', rfl, hS', hc', fun b o e => ?_⟩
          have hb0 : b < s.heap.objs.size := Heap.lt_size e
          have hb1 : b ≠ s.heap.objs.size := Nat.ne_of_lt hb0
          have hb2 : b ≠ (s.heap.push { cls := .type "set", dict := none, data := .set #[] 0 (.fresh 0 0 (!w.params.followText "set-order")) }).objs.size := by
            rw [Heap.size_push]; exact Nat.ne_of_lt (Nat.lt_succ_of_lt hb0)
          exact hm.heap b o (by simp only [List.mem_cons, List.mem_singleton, List.not_mem_nil, or_false, not_or]; exact ⟨hb1, hb2⟩) (Heap.get?_push_of_some _ (Heap.get?_push_of_some _ e))

      · cases r₂ with
        | error e => exact hr₂
        | ok fl₂ =>
          cases fl₂ with
          | ret r =>
            obtain ⟨rfl, h', tk, c', rfl, hS', hc', hk'⟩ := hr₂
            repeat (any_goals (first | assumption | wp_step))
            exact h _ _ _ hS' hc' hk'
          | _ => exact hr₂.elim
    | _ => exact hr.elim

end
def rSetI (K : PySem.W.Frag) (w : World) : List V → Hp → VK → Prop := fun vs H Q => ∃ (l : Addr) (ns : List Int), vs = [.ref l] ∧ (SqL K H l (ns.map V.int) ∨ SqT K H l (ns.map V.int)) ∧ ns.length ≤ 1000 ∧
  ∀ p c, H p = none → c ≤ ns.length → Q (.ref p) (upd H p (SetO w p (fun j => decide (j ∈ ns)) c))
theorem cr_setI {X : Cx} (hc : X.calm = true) : CallR X (.type "set") (rSetI X.K X.w) := by
  intro pins s σ H vs us Q I r h
  obtain ⟨l, ns, rfl, hq, hl, q⟩ := h
  rw [Vals.ref1 r]
  have hd := I.ok.hd hc
  rcases hq with hq | hq
  · obtain ⟨its, rv, pt, hz⟩ := I.list hq
    have hi : IntsAre its.toArray.toList ns := ints_of_vals rv
    refine call_set_lstI ns hd pt.isList hi (by unfold scanBound; omega) fun h' tk c R1 hcn k => ?_
    exact ⟨.ref _, upd H s.heap.objs.size (SetO X.w s.heap.objs.size (fun j => decide (j ∈ ns)) c), I.laid (t' := tk) k (Nat.le_refl _) (setO_new R1), rfl, q _ _ (I.hok.fresh (Nat.le_refl _)) hcn⟩
  · obtain ⟨its, rv, pt, hz⟩ := I.tuple hq
    have hi : IntsAre its.toArray.toList ns := ints_of_vals rv
    refine call_set_tupI ns hd (show s.heap.IsTuple l its.toArray from pt) hi (by unfold scanBound; omega) fun h' tk c R1 hcn k => ?_
    exact ⟨.ref _, upd H s.heap.objs.size (SetO X.w s.heap.objs.size (fun j => decide (j ∈ ns)) c), I.laid (t' := tk) k (Nat.le_refl _) (setO_new R1), rfl, q _ _ (I.hok.fresh (Nat.le_refl _)) hcn⟩
end L2
end

section
set_option Elab.async false
set_option linter.all false
set_option maxRecDepth 100000
set_option maxHeartbeats 4000000
/-! DL33: sorted(set(xs)), sorted(xs); dicts: get, in, d[k] = v, pop, dict(d), len; lists: extend, clear, reverse. -/
namespace DL
open PySem L2 PyProof.Rows
open Classical
/-! ### ascending lists -/
def insI (x : Int) : List Int → List Int
  | [] => [x]
  | y :: r => if x < y then x :: y :: r else if x = y then y :: r else y :: insI x r
def setI (ns : List Int) : List Int := ns.foldr insI []
theorem mem_insI (x k : Int) : ∀ l, k ∈ insI x l ↔ k = x ∨ k ∈ l
  | [] => by simp [insI]
  | y :: r => by
    unfold insI
    split
    · simp
    · split
      · rename_i h; subst h; simp
      · simp only [List.mem_cons, mem_insI x k r]
        constructor
        · rintro (h | h | h) <;> simp [h]
        · rintro (h | h | h) <;> simp [h]
theorem insI_asc (x : Int) : ∀ l : List Int, l.Pairwise (· < ·) → (insI x l).Pairwise (· < ·)
  | [], _ => by simp [insI]
  | y :: r, h => by
    have h' := List.pairwise_cons.mp h
    unfold insI
    split
    · rename_i hx
      exact List.pairwise_cons.mpr ⟨fun k hk => by
        rcases List.mem_cons.mp hk with rfl | hk
        · exact hx
        · exact Int.lt_trans hx (h'.1 k hk), h⟩
    · split
      · exact h
      · refine List.pairwise_cons.mpr ⟨fun k hk => ?_, insI_asc x r h'.2⟩
        rcases (mem_insI x k r).mp hk with rfl | hk
        · omega
        · exact h'.1 k hk
theorem setI_asc : ∀ ns : List Int, (setI ns).Pairwise (· < ·)
  | [] => List.Pairwise.nil
  | x :: r => insI_asc x _ (setI_asc r)
theorem mem_setI (k : Int) : ∀ ns : List Int, k ∈ setI ns ↔ k ∈ ns
  | [] => Iff.rfl
  | x :: r => by
    show k ∈ insI x (setI r) ↔ _
    rw [mem_insI, mem_setI k r, List.mem_cons]
theorem asc_unique : ∀ xs ys : List Int, xs.Pairwise (· < ·) → ys.Pairwise (· < ·) → (∀ k, k ∈ xs ↔ k ∈ ys) → xs = ys
  | [], [], _, _, _ => rfl
  | [], y :: ys, _, _, h => absurd ((h y).mpr List.mem_cons_self) (by simp)
  | x :: xs, [], _, _, h => absurd ((h x).mp List.mem_cons_self) (by simp)
  | x :: xs, y :: ys, h1, h2, h => by
    have a1 := List.pairwise_cons.mp h1
    have a2 := List.pairwise_cons.mp h2
    have e : x = y := by
      rcases List.mem_cons.mp ((h x).mp List.mem_cons_self) with e | e
      · exact e
      · rcases List.mem_cons.mp ((h y).mpr List.mem_cons_self) with q | q
        · exact q.symm
        · have := a1.1 y q; have := a2.1 x e; omega
    subst e
    rw [asc_unique xs ys a1.2 a2.2 fun k => ?_]
    constructor
    · intro hk
      rcases List.mem_cons.mp ((h k).mp (List.mem_cons_of_mem _ hk)) with e | e
      · have := a1.1 k hk; omega
      · exact e
    · intro hk
      rcases List.mem_cons.mp ((h k).mpr (List.mem_cons_of_mem _ hk)) with e | e
      · have := a2.1 k hk; omega
      · exact e
theorem setI_len : ∀ ns : List Int, (setI ns).length ≤ ns.length
  | [] => Nat.le_refl _
  | x :: r => by
    have ih := setI_len r
    have h : ∀ l : List Int, (insI x l).length ≤ l.length + 1 := by
      intro l
      induction l with
      | nil => simp [insI]
      | cons y l ih => unfold insI; split; · simp
                       split <;> simp; omega
    exact Nat.le_trans (h _) (by show (setI r).length + 1 ≤ r.length + 1; omega)
def insL (x : Int) : List Int → List Int
  | [] => [x]
  | y :: r => if x ≤ y then x :: y :: r else y :: insL x r
def sortI (ns : List Int) : List Int := ns.foldr insL []
theorem insL_perm (x : Int) : ∀ l, (insL x l).Perm (x :: l)
  | [] => List.Perm.refl _
  | y :: r => by
    unfold insL
    split
    · exact List.Perm.refl _
    · exact ((insL_perm x r).cons y).trans (List.Perm.swap x y r)
theorem sortI_perm : ∀ ns : List Int, (sortI ns).Perm ns
  | [] => List.Perm.refl _
  | x :: r => (insL_perm x _).trans ((sortI_perm r).cons x)
theorem insL_asc (x : Int) : ∀ l : List Int, l.Pairwise (· ≤ ·) → (insL x l).Pairwise (· ≤ ·)
  | [], _ => by simp [insL]
  | y :: r, h => by
    have h' := List.pairwise_cons.mp h
    unfold insL
    split
    · rename_i hx
      exact List.pairwise_cons.mpr ⟨fun k hk => by
        rcases List.mem_cons.mp hk with rfl | hk
        · exact hx
        · exact Int.le_trans hx (h'.1 k hk), h⟩
    · refine List.pairwise_cons.mpr ⟨fun k hk => ?_, insL_asc x r h'.2⟩
      rcases List.mem_cons.mp ((insL_perm x r).mem_iff.mp hk) with rfl | hk
      · omega
      · exact h'.1 k hk
theorem sortI_asc : ∀ ns : List Int, (sortI ns).Pairwise (· ≤ ·)
  | [] => List.Pairwise.nil
  | x :: r => insL_asc x _ (sortI_asc r)
theorem perm_unique : ∀ xs ys : List Int, xs.Perm ys → xs.Pairwise (· ≤ ·) → ys.Pairwise (· ≤ ·) → xs = ys
  | [], ys, h, _, _ => (List.nil_perm.mp h).symm
  | x :: xs, [], h, _, _ => absurd h.length_eq (by simp)
  | x :: xs, y :: ys, h, h1, h2 => by
    have a1 := List.pairwise_cons.mp h1
    have a2 := List.pairwise_cons.mp h2
    have e : x = y := by
      rcases List.mem_cons.mp (h.mem_iff.mp List.mem_cons_self) with e | e
      · exact e
      · rcases List.mem_cons.mp (h.mem_iff.mpr List.mem_cons_self) with q | q
        · exact q.symm
        · have := a1.1 y q; have := a2.1 x e; omega
    subst e
    rw [perm_unique xs ys h.cons_inv a1.2 a2.2]
noncomputable section
/-! ### their denotations -/
theorem RpL.ints {T : Tab} {K : PySem.W.Frag} {I : Hp} {m : List Addr} : ∀ (ns : List Int), RpL T K I m (ns.map D.int) (ns.map V.int)
  | [] => RpL.nil
  | n :: ns => RpL.cons (rp_int.mpr rfl) (RpL.ints ns)
section
variable {X : Cx} {T : Tab} {W : WX} {a b o e i : Expr} {es : List Expr} {pos apos : Pos} {f g h : Den D}
def sortSetD (xs : List D) (cs : List Cell) : Out D := match xs with
  | [x] => match (itemsS cs x).bind intsD with
    | some ns => if ns.length < 64 then .ok (.lst ((setI ns).map D.int)) cs else .no
    | none => .no
  | _ => .no
theorem de_sortSet {p p2 q : Pos} {g : Den (List D)} (hc : X.calm = true) (hm : X.mg "sorted" = none) (hm2 : X.mg "set" = none) (ha : DA X T W [e] g) (hg : Gl X "sorted" := by rfl) (hg2 : Gl X "set" := by rfl)
    (hv : bootBuiltins "sorted" = some (.builtin "sorted") := by decide +kernel) (hv2 : bootBuiltins "set" = some (.type "set") := by decide +kernel)
    (he : starEach [e] X.env = (false, eval e X.env) :: starEach [] X.env := by rfl) (he2 : starEach [.Call (.Name "set" p2) [e] [] q] X.env = (false, eval (.Call (.Name "set" p2) [e] [] q) X.env) :: starEach [] X.env := by rfl) :
    DE X T W (.Call (.Name "sorted" p) [.Call (.Name "set" p2) [e] [] q] [] pos) (dCall g sortSetD) := by
  have h1 := pe_callTy (pos := q) (p := p2) (cr_setI hc) hg2 hm2 hv2 ha (he := he) (hpl := rfl)
  refine PE.imp (pe_callB (cr_sortedSet hc) hg hm hv (pa_cons h1 pa_nil he2) (he := he2) (hpl := rfl)) ?_
  rintro σ H Q ⟨I, m, cs, env, er, sr, h⟩
  refine ⟨I, m, cs, env, er, sr, OutG.bindI h fun xs cs1 vs H1 I1 m1 s1 p1 sr1 r1 h1 => ?_⟩
  unfold sortSetD at h1
  match xs, r1, h1 with
  | [], _, h1 => exact h1.elim
  | _ :: _ :: _, _, h1 => exact h1.elim
  | [x], r1, h1 =>
    obtain ⟨v, rfl, r⟩ := r1.i1
    simp only at h1
    cases hi : itemsS cs1 x with
    | none => simp only [hi, Option.bind_none] at h1; exact h1.elim
    | some bs =>
      cases hn : intsD bs with
      | none => simp only [hi, Option.bind_some, hn] at h1; exact h1.elim
      | some ns =>
        simp only [hi, Option.bind_some, hn] at h1
        split at h1
        · rename_i hl
          obtain ⟨l, ys, e1, q1, q2⟩ := itemsS_ok sr1 r hi
          have ey := intsD_ok q2 hn
          subst ey
          refine ⟨l, ns, by rw [e1], ?_, by omega, fun p c hp hc1 => ?_⟩
          · rcases q1 with q1 | q1
            · exact .inl q1.l
            · exact .inr q1
          · refine ⟨p, _, c, rfl, upd_same, by omega, fun ns' p' hp1 hp2 hp3 hp4 => ?_⟩
            have es : ns' = setI ns := asc_unique _ _ hp1 (setI_asc ns) fun k => by rw [hp2 k, mem_setI]; simp
            subst es
            obtain ⟨sr2, sI⟩ := sr1.newI (o := SetO X.w p (fun j => decide (j ∈ ns)) c) hp (by intro ps z; cases z)
            exact rp_newL sr2 hp4 (RpL.ints _) (OutG.up sI (List.prefix_refl _) h1)
        · exact h1.elim
def sortID (xs : List D) (cs : List Cell) : Out D := match xs with
  | [x] => match (itemsL cs x).bind intsD with
    | some ns => .ok (.lst ((sortI ns).map D.int)) cs
    | none => .no
  | _ => .no
theorem hk_sortI {K : PySem.W.Frag} : HkC T K (rSortedI K) sortID := by
  intro I m cs H xs vs Q E sr rx h
  unfold sortID at h
  match xs, rx, h with
  | [], _, h => exact h.elim
  | _ :: _ :: _, _, h => exact h.elim
  | [x], rx, h =>
    obtain ⟨v, rfl, r⟩ := rx.i1
    simp only at h
    cases hi : itemsL cs x with
    | none => simp only [hi, Option.bind_none] at h; exact h.elim
    | some bs =>
      cases hn : intsD bs with
      | none => simp only [hi, Option.bind_some, hn] at h; exact h.elim
      | some ns =>
        simp only [hi, Option.bind_some, hn] at h
        obtain ⟨l, ys, e1, q1, q2⟩ := itemsL_ok sr r hi
        have ey := intsD_ok q2 hn
        subst ey
        refine ⟨l, ns, by rw [e1], q1.l, fun ns' p hp1 hp2 hp3 => ?_⟩
        have es : ns' = sortI ns := perm_unique _ _ (hp1.trans (sortI_perm ns).symm) hp2 (sortI_asc ns)
        subst es
        exact rp_newL sr hp3 (RpL.ints _) h
theorem de_sortI {p : Pos} {g : Den (List D)} (hm : X.mg "sorted" = none) (ha : DA X T W [e] g) (hg : Gl X "sorted" := by rfl) (he : starEach [e] X.env = (false, eval e X.env) :: starEach [] X.env := by rfl) (hcr : CallR X (.builtin "sorted") (rSortedI X.K) := by exact cr_sortedI) : DE X T W (.Call (.Name "sorted" p) [e] [] pos) (dCall g sortID) :=
  de_callB hcr hk_sortI hm ha (hg := hg) (he := he) (hpl := rfl)
/-! ### dicts -/
theorem lkD_none {k : Key} : ∀ {ks : List Key} {ds : List D} {kvs : List (Key × V)}, kvs.map (·.1) = ks → ds.length = ks.length → lkD ks ds k = none → valV kvs k = none
  | [], ds, kvs, e, l, h => by cases List.map_eq_nil_iff.mp e; rfl
  | k1 :: ks, [], kvs, e, l, h => by simp at l
  | k1 :: ks, x :: ds, [], e, l, h => by cases e
  | k1 :: ks, x :: ds, p :: kvs, e, l, h => by
    simp only [List.map_cons, List.cons.injEq] at e
    unfold lkD at h
    by_cases hk : k1 = k
    · rw [if_pos hk] at h; cases h
    · rw [if_neg hk] at h
      rw [valV_neg (by rw [e.1]; exact hk)]
      exact lkD_none e.2 (by simpa using l) h
/-- d.get(k): None where it is not -/
def dget1D (x y : D) (cs : List Cell) : Out D := match itemsK cs x, keyD y with
  | some (ks, ds), some k => .ok ((lkD ks ds k).getD .non) cs
  | _, _ => .no
def dget2D (x y z : D) (cs : List Cell) : Out D := match itemsK cs x, keyD y with
  | some (ks, ds), some k => .ok ((lkD ks ds k).getD z) cs
  | _, _ => .no
def isK (cs : List Cell) (x : D) : Bool := (itemsK cs x).isSome
def dGet1 (f g : Den D) : Den D := fun env cs => (f env cs).bind fun x cs => if isK cs x = true then (g env cs).bind fun y cs => dget1D x y cs else .no
def dGet2 (f g h : Den D) : Den D := fun env cs => (f env cs).bind fun x cs => if isK cs x = true then (g env cs).bind fun y cs => (h env cs).bind fun z cs => dget2D x y z cs else .no
theorem itemsK_D {K : PySem.W.Frag} {I H : Hp} {m : List Addr} {cs : List Cell} {d : D} {v : V} (sr : SR T K I m cs H) (r : Rp T K I m d v) (h : isK cs d = true) : ∃ a, v = .ref a ∧ IsD H a := by
  unfold isK at h
  obtain ⟨⟨ks, ds⟩, e⟩ := Option.isSome_iff_exists.mp h
  obtain ⟨a, kvs, e1, e2, _⟩ := itemsK_ok sr r e
  exact ⟨a, e1, .inl ⟨kvs, e2⟩⟩
theorem dget_ok {K : PySem.W.Frag} {I H : Hp} {m : List Addr} {cs : List Cell} {x y : D} {ks : List Key} {ds : List D} {k : Key} {a : Addr} {u : V} (sr : SR T K I m cs H) (rx : Rp T K I m x (.ref a)) (ry : Rp T K I m y u) (hi : itemsK cs x = some (ks, ds)) (hk : keyD y = some k) :
    ∃ o, DGet H a u o ∧ match lkD ks ds k with | some d => ∃ v, o = some v ∧ Rp T K I m d v | none => o = none := by
  obtain ⟨a', kvs, e, q, k1, k2⟩ := itemsK_ok sr rx hi
  cases e
  have ey := keyD_ok ry hk
  refine ⟨valV kvs k, .inl ⟨kvs, k, q, ey, rfl⟩, ?_⟩
  cases hl : lkD ks ds k with
  | some d => exact lkD_ok k1 k2 hl
  | none =>
    have l := k2.length
    rw [List.length_map] at l
    have l2 := congrArg List.length k1
    rw [List.length_map] at l2
    exact lkD_none k1 (by omega) hl
theorem de_dget1 (hu : X.A.units + 1 < cLine) (ho : DE X T W o f) (hi : DE X T W i g) (m : M1 X o "get" apos i pos := by exact ⟨rfl, rfl, rfl, rfl⟩) : DE X T W (.Call (.Attribute o "get" apos) [i] [] pos) (dGet1 f g) := by
  refine PE.imp (pe_dget1 hu ho hi m) ?_
  rintro σ H Q ⟨I, m, cs, env, er, sr, h⟩
  refine ⟨I, m, cs, env, er, sr, OutG.bindI h fun x cs1 v H1 I1 m1 s1 p1 sr1 r1 h1 => ?_⟩
  split at h1
  · rename_i hD
    obtain ⟨a, rfl, isd⟩ := itemsK_D sr1 r1 hD
    refine ⟨a, rfl, isd, I1, m1, cs1, env, er.mono s1 p1, sr1, OutG.bindI h1 fun y cs2 u H2 I2 m2 s2 p2 sr2 r2 h2 => ?_⟩
    unfold dget1D at h2
    cases hi : itemsK cs2 x with
    | none => simp only [hi] at h2; exact h2.elim
    | some p =>
      obtain ⟨ks, ds⟩ := p
      cases hk : keyD y with
      | none => simp only [hi, hk] at h2; exact h2.elim
      | some k =>
        simp only [hi, hk] at h2
        obtain ⟨o, g1, g2⟩ := dget_ok sr2 (r1.mono s2 p2) r2 hi hk
        refine ⟨o, g1, ?_⟩
        cases hl : lkD ks ds k with
        | some d =>
          simp only [hl] at g2 h2
          obtain ⟨v, rfl, rv⟩ := g2
          exact h2.okI sr2 rv
        | none =>
          simp only [hl] at g2 h2
          subst g2
          exact h2.okI sr2 (rp_non.mpr rfl)
  · exact h1.elim
theorem de_dget2 {e2 : Expr} (hu : X.A.units + 1 < cLine) (ho : DE X T W o f) (hi : DE X T W i g) (hd : DE X T W e2 h) (m : M2 X o "get" apos i e2 pos := by exact ⟨rfl, rfl, rfl, rfl⟩) : DE X T W (.Call (.Attribute o "get" apos) [i, e2] [] pos) (dGet2 f g h) := by
  refine PE.imp (pe_dget2 hu ho hi hd m) ?_
  rintro σ H Q ⟨I, m, cs, env, er, sr, h⟩
  refine ⟨I, m, cs, env, er, sr, OutG.bindI h fun x cs1 v H1 I1 m1 s1 p1 sr1 r1 h1 => ?_⟩
  split at h1
  · rename_i hD
    obtain ⟨a, rfl, isd⟩ := itemsK_D sr1 r1 hD
    refine ⟨a, rfl, isd, I1, m1, cs1, env, er.mono s1 p1, sr1, OutG.bindI h1 fun y cs2 u H2 I2 m2 s2 p2 sr2 r2 h2 => ?_⟩
    refine ⟨I2, m2, cs2, env, (er.mono s1 p1).mono s2 p2, sr2, OutG.bindI h2 fun z cs3 w H3 I3 m3 s3 p3 sr3 r3 h3 => ?_⟩
    unfold dget2D at h3
    cases hi : itemsK cs3 x with
    | none => simp only [hi] at h3; exact h3.elim
    | some p =>
      obtain ⟨ks, ds⟩ := p
      cases hk : keyD y with
      | none => simp only [hi, hk] at h3; exact h3.elim
      | some k =>
        simp only [hi, hk] at h3
        obtain ⟨o, g1, g2⟩ := dget_ok sr3 ((r1.mono s2 p2).mono s3 p3) (r2.mono s3 p3) hi hk
        refine ⟨o, g1, ?_⟩
        cases hl : lkD ks ds k with
        | some d =>
          simp only [hl] at g2 h3
          obtain ⟨v, rfl, rv⟩ := g2
          exact h3.okI sr3 rv
        | none =>
          simp only [hl] at g2 h3
          subst g2
          exact h3.okI sr3 r3
  · exact h1.elim
/-- k in d -/
def dinD (neg : Bool) (y x : D) (cs : List Cell) : Out D := match itemsK cs x, keyD y with
  | some (ks, ds), some k => .ok (.bl (if neg then !(lkD ks ds k).isSome else (lkD ks ds k).isSome)) cs
  | _, _ => .no
theorem dc_dinG (neg : Bool) {op : CmpOp} (ho : op = if neg then .NotIn else .In) (hu : X.A.units + 1 < cLine) (hi : DE X T W i g) (hd : DE X T W o f) : DC X T W op i o (d2 g f (dinD neg)) := by
  have key : ∀ σ H Q, tG T X.K W (RD T X.K) (d2 g f (dinD neg)) σ H Q → (tG T X.K W (RD T X.K) g) σ H fun y H1 => (tG T X.K W (RD T X.K) f) σ H1 fun x H2 => ∃ a o, x = .ref a ∧ DGet H2 a y o ∧ Q (.bl (if neg then !o.isSome else o.isSome)) H2 := by
    rintro σ H Q ⟨I, m, cs, env, er, sr, h⟩
    refine ⟨I, m, cs, env, er, sr, OutG.bindI h fun y cs1 u H1 I1 m1 s1 p1 sr1 r1 h1 => ?_⟩
    refine ⟨I1, m1, cs1, env, er.mono s1 p1, sr1, OutG.bindI h1 fun x cs2 v H2 I2 m2 s2 p2 sr2 r2 h2 => ?_⟩
    unfold dinD at h2
    cases hi : itemsK cs2 x with
    | none => simp only [hi] at h2; exact h2.elim
    | some p =>
      obtain ⟨ks, ds⟩ := p
      cases hk : keyD y with
      | none => simp only [hi, hk] at h2; exact h2.elim
      | some k =>
        simp only [hi, hk] at h2
        obtain ⟨a, kvs, rfl, _⟩ := itemsK_ok sr2 r2 hi
        obtain ⟨o, g1, g2⟩ := dget_ok sr2 r2 (r1.mono s2 p2) hi hk
        refine ⟨a, o, rfl, g1, ?_⟩
        have es : o.isSome = (lkD ks ds k).isSome := by
          cases hl : lkD ks ds k with
          | some d => simp only [hl] at g2; obtain ⟨v, rfl, _⟩ := g2; rfl
          | none => simp only [hl] at g2; subst g2; rfl
        rw [es]
        exact h2.okI sr2 (rp_bl.mpr rfl)
  subst ho
  cases neg with
  | false => exact PC.imp (pc_din hu hi hd) key
  | true => exact PC.imp (pc_dnotin hu hi hd) key
theorem dc_din (hu : X.A.units + 1 < cLine) (hi : DE X T W i g) (hd : DE X T W o f) : DC X T W .In i o (d2 g f (dinD false)) := dc_dinG false rfl hu hi hd
theorem dc_dnin (hu : X.A.units + 1 < cLine) (hi : DE X T W i g) (hd : DE X T W o f) : DC X T W .NotIn i o (d2 g f (dinD true)) := dc_dinG true rfl hu hi hd
end
end
end DL
end

section
set_option Elab.async false
set_option linter.all false
set_option maxRecDepth 100000
set_option maxHeartbeats 4000000
/-! DL34: x(lambda: e) where x gives back a() or (text, a()). -/
namespace DL
open PySem PySem.Spec PyProof.Rows L2 LamX
open Classical
noncomputable section
/-- what the body of the try comes to: nothing; a()'s value; (z, a()'s value) -/
inductive AK where
  | E | R | T (z : PySem.Str)
def sActK (k : AK) (act : List Cell → Out D) : SDen := fun env cs => (act cs).bindS env fun d cs => match k with
  | .E => .nx env cs
  | .R => .rt d cs
  | .T z => .rt (.tup [.str z, d]) cs
def dActK (k : AK) (n : Nat) (hs : List Hd) (g : SDen) (act : List Cell → Out D) : List Cell → Out D := fun cs => match finS cs (sSeq (sTry (sActK k act) hs) g (List.replicate n none) cs) with
  | .ok d cs => .ok d cs
  | _ => .no
def TTk (k : AK) (T : Tab) (K : PySem.W.Frag) (n : Nat) (hs : List Hd) (g : SDen) : (XK → Hp → VK → Prop) → Hp → VK → Prop := fun tl H Q =>
  ∃ I m cs act, SR T K I m cs H ∧ (∀ I' m' cs' H' Q' E', Same I I' → m <+: m' → SR T K I' m' cs' H' → OutG T K (RD T K) I' m' (act cs') Q' E' → tl E' H' Q') ∧ OutG T K (RD T K) I m (dActK k n hs g act cs) Q (fun _ _ _ => False)
section
variable {X : Cx} {T : Tab}
/-- what the statement in the try reads -/
def actR (k : AK) (f c' : Addr) (q : PySem.Str) (tl : XK → Hp → VK → Prop) : WX → TS := fun W D σ H => σ[0]? = some (some (.ref f)) ∧ H c' = some (CodeO c' q) ∧ tl (WE W σ) H (match k with
  | .E => fun _ H1 => D.nx σ H1
  | .R => D.rt
  | .T z => fun v H1 => 2 ≤ sizeLine ∧ ∀ p, H1 p = none → D.rt (.ref p) (upd H1 p (.tup [.str z, v])))
theorem act_givesK {Ng : List PySem.Str} {x a q : PySem.Str} {sg : Scope} {g : Addr} {cdg : Value} {st : Stmt} {pos : Pos} {h₀ : ExceptHandler} {hds : List ExceptHandler} {rest : List Stmt} {hs : List Hd} {gd : SDen} (k : AK) (hnd : Ng.Nodup) (hlen : 1 ≤ Ng.length)
    (hh : ∀ (s : Shared) (H : Hp), HdX (zCx X Ng x sg g cdg s H).nox T (h₀ :: hds) hs) (hr : ∀ (s : Shared) (H : Hp), DSs (zCx X Ng x sg g cdg s H).nox T (fun _ _ _ _ => False) rest gd)
    (hst : ∀ (f c' : Addr) (s : Shared) (H : Hp) (tl : XK → Hp → VK → Prop) (W : WX) (pn : List (Addr × Obj)) (xe : Value → Shared → Prop),
      (∀ p1 p2 : Pos, PE ((zCx X Ng x sg g cdg s H).tr pn xe) (.Call (.Name a p1) [] [] p2) (fun σZ HZ Q => σZ[0]? = some (some (.ref f)) ∧ HZ c' = some (CodeO c' q) ∧ tl (WE W σZ) HZ Q)) → PS ((zCx X Ng x sg g cdg s H).tr pn xe) st (actR k f c' q tl W)) :
    Gives X Ng x sg g cdg (.Try [st] (h₀ :: hds) [] [] pos :: rest) a q (TTk k T X.K Ng.length hs gd) := by
  intro f c' s H Q tl act hc hTT
  obtain ⟨I, m, cs, actd, sr, htl, ho⟩ := hTT
  obtain ⟨l, hA, hl⟩ := hd_all (W := fun _ _ _ _ => False) (hh s H)
  have hs0 : (L2.start Ng [V.ref f])[0]? = some (some (V.ref f)) := rfl
  have ls : (L2.start Ng [V.ref f]).length = Ng.length := by unfold L2.start; simp; omega
  have er := er_none (T := T) (K := X.K) (I := I) (m := m) ls
  refine ⟨_, pss_cons (ps_tryA (X := (zCx X Ng x sg g cdg s H).nox) (tb := actR k f c' q tl) rfl rfl hnd L2.takes0
    (fun W pn xe tk _ => pss_one (hst f c' s H tl W pn xe fun p1 p2 => act W pn xe p1 p2 tk)) hA) (hr s H), hs0, hc, ?_⟩
  have ho' : OutG T X.K (RD T X.K) I m (finS cs (sSeq (sTry (sActK k actd) hs) gd (List.replicate Ng.length none) cs)) Q (fun _ _ _ => False) := by
    unfold dActK at ho
    cases hf : finS cs (sSeq (sTry (sActK k actd) hs) gd (List.replicate Ng.length none) cs) with
    | ok d cs1 => rw [hf] at ho; exact ho
    | exn => rw [hf] at ho; exact ho.elim
    | no => rw [hf] at ho; exact ho.elim
  have hk := sok_fin sr ho'
  refine htl I m cs H _ _ (Same.refl I) (List.prefix_refl _) sr ?_
  unfold sSeq sTry sActK at hk
  cases ha : actd cs with
  | ok d cs1 =>
    simp only [ha, Out.bindS] at hk
    intro v H' I' m' s1 p1 sr1 r1
    cases k with
    | E => exact ⟨I', m', cs1, _, er.mono s1 p1, sr1, SOk.up s1 p1 hk⟩
    | R => exact hk v H' I' m' s1 p1 sr1 r1
    | T z =>
      refine ⟨by rw [limBig]; omega, fun p hp => ?_⟩
      obtain ⟨sr2, s2⟩ := sr1.newI (o := .tup [.str z, v]) hp
      exact hk (.ref p) _ _ m' (s1.trans s2) p1 sr2 (rp_tup.mpr ⟨p, _, rfl, SqT.of upd_same, RpL.cons (rp_str.mpr rfl) (RpL.one (r1.mono s2 (List.prefix_refl _)))⟩)
  | exn c ks fs cs1 =>
    simp only [ha, Out.bindS] at hk
    intro cls od H' I' m' s1 p1 sr1 xr
    refine hl _ c ks fs _ cs1 I' m' cls od _ H' (er.mono s1 p1) sr1 xr ?_
    cases hq : sHd hs c ks fs (List.replicate Ng.length none) cs1 with
    | nx env2 cs2 =>
      simp only [hq] at hk
      intro σ' H2 I2 m2 s2 p2 sr2 er2
      exact ⟨I2, m2, cs2, env2, er2, sr2, SOk.up (s1.trans s2) (p1.trans p2) hk⟩
    | rt d cs2 =>
      simp only [hq] at hk
      exact SOk.up s1 p1 hk
    | bk => simp only [hq] at hk; exact fun σ' H2 I2 m2 s2 p2 => hk σ' H2 I2 m2 (s1.trans s2) (p1.trans p2)
    | ct => simp only [hq] at hk; exact fun σ' H2 I2 m2 s2 p2 => hk σ' H2 I2 m2 (s1.trans s2) (p1.trans p2)
    | ex => simp only [hq] at hk; exact fun cls2 od2 σ' H2 I2 m2 s2 p2 sr2 er2 xr2 => hk cls2 od2 σ' H2 I2 m2 (s1.trans s2) (p1.trans p2) sr2 er2 xr2
    | no => simp only [hq] at hk; exact hk.elim
  | no =>
    simp only [ha, Out.bindS] at hk
    exact hk.elim
variable {Ng : List PySem.Str} {x a q : PySem.Str} {sg : Scope} {g : Addr} {cdg : Value}
theorem act_R {p1 p2 p3 : Pos} (f c' : Addr) (s : Shared) (H : Hp) (tl : XK → Hp → VK → Prop) (W : WX) (pn : List (Addr × Obj)) (xe : Value → Shared → Prop)
      (h : ∀ p1 p2 : Pos, PE ((zCx X Ng x sg g cdg s H).tr pn xe) (.Call (.Name a p1) [] [] p2) (fun σZ HZ Q => σZ[0]? = some (some (.ref f)) ∧ HZ c' = some (CodeO c' q) ∧ tl (WE W σZ) HZ Q)) : PS ((zCx X Ng x sg g cdg s H).tr pn xe) (.Return (some (.Call (.Name a p1) [] [] p2)) p3) (actR .R f c' q tl W) :=
  PS.imp (ps_ret (h p1 p2)) fun B σ H z => z
theorem act_E {p1 p2 p3 : Pos} (f c' : Addr) (s : Shared) (H : Hp) (tl : XK → Hp → VK → Prop) (W : WX) (pn : List (Addr × Obj)) (xe : Value → Shared → Prop) (hsw : swapsWith (.Call (.Name a p1) [] [] p2) none p3.line ((zCx X Ng x sg g cdg s H).tr pn xe).env = pure false)
      (h : ∀ p1 p2 : Pos, PE ((zCx X Ng x sg g cdg s H).tr pn xe) (.Call (.Name a p1) [] [] p2) (fun σZ HZ Q => σZ[0]? = some (some (.ref f)) ∧ HZ c' = some (CodeO c' q) ∧ tl (WE W σZ) HZ Q)) : PS ((zCx X Ng x sg g cdg s H).tr pn xe) (.Expr (.Call (.Name a p1) [] [] p2) p3) (actR .E f c' q tl W) :=
  PS.imp (ps_expr (h p1 p2) hsw) fun B σ H z => z
theorem act_T {z : PySem.Str} {j p1 p2 p3 p4 p5 kk} (f c' : Addr) (s : Shared) (H : Hp) (tl : XK → Hp → VK → Prop) (W : WX) (pn : List (Addr × Obj)) (xe : Value → Shared → Prop)
      (hs1 : starEach [.Constant (.str z) j p4, .Call (.Name a p1) [] [] p2] ((zCx X Ng x sg g cdg s H).tr pn xe).env = (false, eval (.Constant (.str z) j p4) ((zCx X Ng x sg g cdg s H).tr pn xe).env) :: starEach [.Call (.Name a p1) [] [] p2] ((zCx X Ng x sg g cdg s H).tr pn xe).env)
      (hs2 : starEach [.Call (.Name a p1) [] [] p2] ((zCx X Ng x sg g cdg s H).tr pn xe).env = (false, eval (.Call (.Name a p1) [] [] p2) ((zCx X Ng x sg g cdg s H).tr pn xe).env) :: starEach [] ((zCx X Ng x sg g cdg s H).tr pn xe).env)
      (h : ∀ p1 p2 : Pos, PE ((zCx X Ng x sg g cdg s H).tr pn xe) (.Call (.Name a p1) [] [] p2) (fun σZ HZ Q => σZ[0]? = some (some (.ref f)) ∧ HZ c' = some (CodeO c' q) ∧ tl (WE W σZ) HZ Q)) :
      PS ((zCx X Ng x sg g cdg s H).tr pn xe) (.Return (some (.Tuple [.Constant (.str z) j p4, .Call (.Name a p1) [] [] p2] kk p5)) p3) (actR (.T z) f c' q tl W) :=
  PS.imp (ps_ret (pe_tup (pa_cons pe_str (pa_cons (h p1 p2) pa_nil hs2) hs1))) fun B σ H z => z
/-- x(lambda: body) -/
def dLamK (k : AK) (n : Nat) (hs : List Hd) (g : SDen) (fb : Den D) : Den D := fun env cs => dActK k n hs g (fun cs => fb env cs) cs
theorem de_lamK {k : AK} {W : WX} {n : Nat} {hs : List Hd} {gd : SDen} {fb : Den D} {e : Expr} (ht : T.tb ≠ []) (h : PE X e (tLam T.tb (TTk k T X.K n hs gd) fun E => tG T X.K (fun cls od _ H => E cls od H) (RD T X.K) fb)) : DE X T W e (dLamK k n hs gd fb) := by
  refine PE.imp h ?_
  rintro σ H Q ⟨I, m, cs, env, er, sr, h⟩
  refine ⟨sr.tabs, fun H1 eN T1 => ?_⟩
  have sr1 := sr.extN ht eN T1
  refine ⟨I, m, cs, fun cs' => fb env cs', sr1, fun I' m' cs' H' Q' E' s p sr' ho => ⟨I', m', cs', env, er.mono s p, sr', ho⟩, ?_⟩
  unfold dLamK at h
  cases hd : dActK k n hs gd (fun cs => fb env cs) cs with
  | ok d cs1 => rw [hd] at h; exact h
  | exn c ks fs cs1 =>
    unfold dActK at hd
    split at hd <;> cases hd
  | no => rw [hd] at h; exact h.elim
theorem de_lamcallK {kd : AK} {W : WX} {x a : PySem.Str} {g c Pt : Addr} {pg : Arguments} {bg : List Stmt} {sg : Scope} {Ng : List PySem.Str} {n k j i : Nat} {hs : List Hd} {gd : SDen} {fb : Den D} {params : Arguments} {body : Expr} {scope : Scope} {p lpos pos : Pos}
    (F : ∃ fd, FunD X.K x x pg bg sg [] [] g fd) (Sg : FnScope Ng [a] sg) (hm : X.mg x = some (.ref g)) (hG : ∀ cdv : Value, Gives X Ng x sg g cdv bg a (X.env.qual ++ "<lambda>") (TTk kd T X.K n hs gd))
    (TB : TabB X.base X.mg c Pt) (hcode : X.env.code = .ref c) (hnd : (T.tb.map (·.1)).Nodup) (hi : T.tb[i]? = some (Pt, X.env.qual ++ "<lambda>")) (hr : Room j X.A) (L : LamS X.env.scope scope)
    (hbd : ∀ (kV doc pm : Value) (an : Option Addr) (cdv ct : Value) (us : List Value), us.length = [a].length → bindArgs (PySem.W.fnOf x x pg bg sg .none kV doc pm an cdv ct) ⟨us, []⟩ = pure ([a].zip us))
    (hbind : ∀ (q : PySem.Str) (cl : List (PySem.Str × Addr)) (pm cv ctv : Value), bindArgs (PySem.W.kla_fn "<lambda>" q params body scope cl pm cv ctv) ⟨[], []⟩ = pure [])
    (hbody : ∀ (A : Around) (outer : List PySem.Env) (s : Shared) (H : Hp) (E : XK) (f c' : Addr), Room k (A.deeper (lamEnv X scope s.heap.objs.size f c')) → DE (lamCx X A outer s H E scope f c') T (fun cls od _ H => E cls od H) body fb)
    (hk : k + 2 ≤ j := by decide) (hNg : Ng[0]? = some a := by rfl) (hva : Vis sg a := by first | exact Or.inl rfl | exact Or.inr (Or.inl rfl)) (hdef : defaultsOf params X.env = ([], []) := by rfl) (hg : Gl X x := by rfl)
    (hdb : (x == ("__debug__" : PySem.Str)) = false := by decide) (hd : (a == ("__debug__" : PySem.Str)) = false := by decide) (hcd : (a == ("__classdict__" : PySem.Str)) = false := by decide) :
    DE X T W (.Call (.Name x p) [.Lambda params body scope lpos] [] pos) (dLamK kd n hs gd fb) := by
  obtain ⟨fd, F⟩ := F
  have hb := F.bindsN hbd
  have kp := F.kp
  obtain ⟨oc, od, dV, kV, doc, pm, an, cdv, ct, osl, rfl, lk, hcd', _, _⟩ := F.ex
  obtain ⟨h1, h2⟩ := tb_uniq hnd hi
  exact de_lamK (fun z => by rw [z] at hi; cases hi) (pe_lamS (T := T.tb) hg hm kp lk hcd' hb Sg hNg hva (hG cdv) TB hcode h1 h2 (hr.mono hk) L hdef hbind hbody hdb hd hcd)
end
end
end DL
end

section
set_option Elab.async false
set_option linter.all false
set_option maxRecDepth 100000
set_option maxHeartbeats 4000000
/-! DL35: clauses that say nothing. -/
namespace DL
open PySem PySem.Spec PyProof.Rows L2
open Classical
noncomputable section
section
variable {X : Cx} {T : Tab}
theorem dx_no {a : Addr} {oe : Obj} {pn : List (Addr × Obj)} {cls : Value} {od : Option Addr} {i : Option Nat} {e : Expr} : DX X T a oe pn cls od i e (fun _ _ _ _ _ => .no) :=
  ⟨fun pins s σ H Q I h => by
    obtain ⟨_, _, _, _, _, _, _, _, _, _, _, h⟩ := h
    exact h.elim⟩
variable {a : Addr} {oe : Obj} {pn : List (Addr × Obj)} {cls : Value} {od : Option Addr} {i : Option Nat} {e b c : Expr} {rest : List Expr} {pos : Pos}
def xAnd (f g : XDen D) : XDen D := fun c ks fs env cs => (f c ks fs env cs).bind fun x cs => match asB x with
  | some b => if b = true then g c ks fs env cs else .ok (.bl false) cs
  | none => .no
theorem dx_and {f g : XDen D} (ha : DX X T a oe pn cls od i b f) (hb : DX X T a oe pn cls od i (.BoolOp .And (c :: rest) pos) g) : DX X T a oe pn cls od i (.BoolOp .And (b :: c :: rest) pos) (xAnd f g) := by
  refine PE.imp (pe_and ha hb) ?_
  rintro σ H Q ⟨c, ks, fs, I, m, cs, env, er, sr, xr, hsl, h⟩
  refine ⟨c, ks, fs, I, m, cs, env, er, sr, xr, hsl, OutG.bindI h fun x cs1 v H1 I1 m1 s1 p1 sr1 r1 h1 => ?_⟩
  cases e1 : asB x with
  | none => simp only [e1] at h1; exact h1.elim
  | some b =>
    have e := asB_ok e1; subst e
    simp only [e1] at h1
    refine ⟨b, rp_bl.mp r1, ?_⟩
    cases b with
    | true => exact ⟨c, ks, fs, I1, m1, cs1, env, er.mono s1 p1, sr1, xr.mono s1 p1, hsl, h1⟩
    | false => exact h1.okI sr1 (rp_bl.mpr rfl)
theorem dx_one {op} {f : XDen D} (h : DX X T a oe pn cls od i b f) : DX X T a oe pn cls od i (.BoolOp op [b] pos) f := PE.imp (pe_one h) fun _ _ _ q => q
/-- two whole numbers -/
def xEqI (f g : XDen D) : XDen D := fun c ks fs env cs => (f c ks fs env cs).bind fun x cs => (g c ks fs env cs).bind fun y cs => match both (asI x) (asI y) with
  | some (i, j) => .ok (.bl (decide (i = j))) cs
  | none => .no
theorem dx_eqI {f g : XDen D} (ha : DX X T a oe pn cls od i b f) (hb : DX X T a oe pn cls od i c g) (hm : behindInMarks .Eq c = false := by first | exact nomark _ | rfl) : DX X T a oe pn cls od i (.Compare b [.Eq] [c] pos) (xEqI f g) := by
  have h : PC (X.suite a ((a, oe) :: pn)) .Eq b c (tX T X.K a cls od i (RD T X.K) (xEqI f g)) := by
    refine ⟨fun pins s σ H Q J h => ?_⟩
    refine bin (R := fun x y H2 => rEq x y H2 Q) ha hb J ?_ fun v u s2 x y H2 I2 rx ry q => op_eq pins s2 σ H2 x y v u Q I2 rx ry q
    obtain ⟨c, ks, fs, I, m, cs, env, er, sr, xr, hsl, h⟩ := h
    refine ⟨c, ks, fs, I, m, cs, env, er, sr, xr, hsl, OutG.bindI h fun x cs1 v H1 I1 m1 s1 p1 sr1 r1 h1 => ?_⟩
    refine ⟨c, ks, fs, I1, m1, cs1, env, er.mono s1 p1, sr1, xr.mono s1 p1, hsl, OutG.bindI h1 fun y cs2 u H2 I2 m2 s2 p2 sr2 r2 h2 => ?_⟩
    cases e1 : both (asI x) (asI y) with
    | none => simp only [e1] at h2; exact h2.elim
    | some p =>
      obtain ⟨q1, q2⟩ := both_ok e1
      have e := asI_ok q1; subst e; have e := asI_ok q2; subst e
      simp only [e1] at h2
      have e1 := rp_int.mp r1; have e2 := rp_int.mp r2
      subst e1; subst e2
      have hq := h2.okI sr2 (v := .bl (decide (p.1 = p.2))) (rp_bl.mpr rfl)
      refine ⟨rfl, ?_⟩
      have ed : decide (V.int p.1 = V.int p.2) = decide (p.1 = p.2) := by simp
      rw [ed]; exact hq
  exact pe_cmp h hm
end
end
end DL
end

section
set_option Elab.async false
set_option linter.all false
set_option maxRecDepth 100000
set_option maxHeartbeats 4000000
/-! DL36: more methods of lists; dicts written, copied, frozen; max of a list. -/
namespace DL
open PySem PySem.Spec PyProof.Rows L2
open Classical
noncomputable section
section
variable {X : Cx} {T : Tab} {W : WX} {a b o e i : Expr} {es : List Expr} {pos apos : Pos} {f g h : Den D}
/-- xs.extend(ys), ys a cell -/
def extendD (x : D) (xs : List D) (cs : List Cell) : Out D := match x, xs with
  | .cell n, [.cell k] => match cs[n]?, cs[k]? with
    | some (.lst ys), some (.lst zs) => if fits (ys.length + zs.length) then .ok .non (cs.set n (.lst (ys ++ zs))) else .no
    | _, _ => .no
  | _, _ => .no
theorem hk_extend {K : PySem.W.Frag} : HkM T K rExtend extendD := by
  intro I m cs H x xs v vs Q E sr rx rxs h
  unfold extendD at h
  split at h
  · rename_i n k
    obtain ⟨w, rfl, ry⟩ := rxs.i1
    split at h
    · rename_i ys zs hc hk
      split at h
      · rename_i hl
        obtain ⟨p, us, rfl, ea, q1, q2⟩ := cell_lst sr rx hc
        obtain ⟨p2, us2, rfl, ea2, q3, q4⟩ := cell_lst sr ry hk
        refine ⟨p, p2, us, us2, rfl, rfl, q1, q3, by rw [← q2.length, ← q4.length]; exact hl, ?_⟩
        have s2 := sr.setC (o := .lst (us ++ us2)) (c := .lst (ys ++ zs)) hc (by intro z; cases z) ea (q2.append q4)
        exact h.okI s2 (rp_non.mpr rfl)
      · exact h.elim
    · exact h.elim
  · exact h.elim
theorem de_extend {g : Den (List D)} (ho : DE X T W o f) (ha : DA X T W [e] g) (hbase : attributeBase o "extend" X.env (eval o X.env) = eval o X.env := by rfl) (hs : starEach [e] X.env = (false, eval e X.env) :: starEach [] X.env := by rfl)
    (hfew : ((backTo pos (starEach [e] X.env)).all (fun x => !x.1) && (backToKw pos (keywordEach [] X.env)).all (fun x => x.1.isSome) && decide ([e].length + ([] : List Keyword).length + (if ([] : List Keyword).isEmpty then 0 else 1) < 30)) = true := by rfl) (hline : (apos.endLine == pos.line) = true := by rfl) :
    DE X T W (.Call (.Attribute o "extend" apos) [e] [] pos) (dML f g extendD) :=
  PE.imp (pe_bm PySem.F.plainAttrs_list PySem.F.slot_list_extend PySem.F.type_list_extend mt_extend ho ha hbase hfew hline hs rfl) (tBM_of hk_extend rfl rfl)
/-- methods without arguments -/
def dM0 (f : Den D) (k : D → List Cell → Out D) : Den D := fun env cs => (f env cs).bind fun x cs => if isL cs x = true then k x cs else .no
theorem tBM0_of {k : D → List Cell → Out D} {r : V → List V → Hp → VK → Prop} (hk : ∀ (I : Hp) (m : List Addr) (cs : List Cell) (H : Hp) (x : D) (v : V) (Q : VK) (E : XK), SR T X.K I m cs H → Rp T X.K I m x v → OutG T X.K (RD T X.K) I m (k x cs) Q E → r v [] H Q) :
    ∀ σ H Q, tG T X.K W (RD T X.K) (dM0 f k) σ H Q → tBM0 X.K "list" r (tG T X.K W (RD T X.K) f) σ H Q := by
  rintro σ H Q ⟨I, m, cs, env, er, sr, h⟩
  refine ⟨I, m, cs, env, er, sr, OutG.bindI h fun x cs1 v H1 I1 m1 s1 p1 sr1 r1 h1 => ?_⟩
  split at h1
  · rename_i hl
    exact ⟨isL_ok sr1 r1 hl, hk I1 m1 cs1 H1 x v Q _ sr1 r1 h1⟩
  · exact h1.elim
def reverseD (x : D) (cs : List Cell) : Out D := match x with
  | .cell n => match cs[n]? with
    | some (.lst ys) => .ok .non (cs.set n (.lst ys.reverse))
    | _ => .no
  | _ => .no
def clearD (x : D) (cs : List Cell) : Out D := match x with
  | .cell n => match cs[n]? with
    | some (.lst ys) => .ok .non (cs.set n (.lst []))
    | _ => .no
  | _ => .no
def pop0D (x : D) (cs : List Cell) : Out D := match x with
  | .cell n => match cs[n]? with
    | some (.lst ys) => match ys[ys.length - 1]? with
      | some y => .ok y (cs.set n (.lst ys.dropLast))
      | none => .no
    | _ => .no
  | _ => .no
theorem de_reverse (ho : DE X T W o f) (hbase : attributeBase o "reverse" X.env (eval o X.env) = eval o X.env := by rfl) (hline : (apos.endLine == pos.line) = true := by rfl) : DE X T W (.Call (.Attribute o "reverse" apos) [] [] pos) (dM0 f reverseD) := by
  refine PE.imp (pe_bm0 PySem.F.plainAttrs_list PySem.F.slot_list_reverse PySem.F.type_list_reverse mt_reverse ho hbase hline) (tBM0_of fun I m cs H x v Q E sr rx h => ?_)
  unfold reverseD at h
  split at h
  · rename_i n
    split at h
    · rename_i ys hc
      obtain ⟨p, us, rfl, ea, q1, q2⟩ := cell_lst sr rx hc
      exact ⟨p, us, rfl, rfl, q1, h.okI (sr.setC (o := .lst us.reverse) (c := .lst ys.reverse) hc (by intro z; cases z) ea q2.reverse) (rp_non.mpr rfl)⟩
    · exact h.elim
  · exact h.elim
theorem de_clear (ho : DE X T W o f) (hbase : attributeBase o "clear" X.env (eval o X.env) = eval o X.env := by rfl) (hline : (apos.endLine == pos.line) = true := by rfl) : DE X T W (.Call (.Attribute o "clear" apos) [] [] pos) (dM0 f clearD) := by
  refine PE.imp (pe_bm0 PySem.F.plainAttrs_list PySem.F.slot_list_clear PySem.F.type_list_clear mt_clear ho hbase hline) (tBM0_of fun I m cs H x v Q E sr rx h => ?_)
  unfold clearD at h
  split at h
  · rename_i n
    split at h
    · rename_i ys hc
      obtain ⟨p, us, rfl, ea, q1, q2⟩ := cell_lst sr rx hc
      exact ⟨p, us, rfl, rfl, q1, h.okI (sr.setC (o := .lst []) (c := .lst []) hc (by intro z; cases z) ea (RpL.nil (T := T) (K := X.K) (I := I) (m := m))) (rp_non.mpr rfl)⟩
    · exact h.elim
  · exact h.elim
theorem RpL.dropLast {K : PySem.W.Frag} {I : Hp} {m : List Addr} {ds : List D} {vs : List V} (h : RpL T K I m ds vs) : RpL T K I m ds.dropLast vs.dropLast := by
  rw [List.dropLast_eq_take, List.dropLast_eq_take, h.length]
  exact h.take
theorem de_pop0 (ho : DE X T W o f) (hbase : attributeBase o "pop" X.env (eval o X.env) = eval o X.env := by rfl) (hline : (apos.endLine == pos.line) = true := by rfl) : DE X T W (.Call (.Attribute o "pop" apos) [] [] pos) (dM0 f pop0D) := by
  refine PE.imp (pe_bm0 PySem.F.plainAttrs_list PySem.F.slot_list_pop PySem.F.type_list_pop mt_pop ho hbase hline) (tBM0_of fun I m cs H x v Q E sr rx h => ?_)
  unfold pop0D at h
  split at h
  · rename_i n
    split at h
    · rename_i ys hc
      split at h
      · rename_i y hy
        obtain ⟨p, us, rfl, ea, q1, q2⟩ := cell_lst sr rx hc
        obtain ⟨u, hu, ru⟩ := q2.get hy
        rw [q2.length] at hu
        exact ⟨p, us, u, rfl, rfl, q1, hu, h.okI (sr.setC (o := .lst us.dropLast) (c := .lst ys.dropLast) hc (by intro z; cases z) ea q2.dropLast) ru⟩
      · exact h.elim
    · exact h.elim
  · exact h.elim
/-- xs.index(b), truth values -/
def indexB (x : D) (xs : List D) (cs : List Cell) : Out D := match xs with
  | [.bl b] => match (itemsL cs x).bind blsD with
    | some bs => match bs.findIdx? (· == b) with
      | some j => .ok (.int (j : Nat)) cs
      | none => .no
    | none => .no
  | _ => .no
theorem hk_indexB {K : PySem.W.Frag} : HkM T K (rIndex K) indexB := by
  intro I m cs H x xs v vs Q E sr rx rxs h
  unfold indexB at h
  split at h
  · rename_i b
    obtain ⟨w, rfl, ry⟩ := rxs.i1
    have ew := rp_bl.mp ry
    subst ew
    cases hi : itemsL cs x with
    | none => simp only [hi, Option.bind_none] at h; exact h.elim
    | some ds =>
      cases hb : blsD ds with
      | none => simp only [hi, Option.bind_some, hb] at h; exact h.elim
      | some bs =>
        simp only [hi, Option.bind_some, hb] at h
        cases hj : bs.findIdx? (· == b) with
        | none => simp only [hj] at h; exact h.elim
        | some j =>
          simp only [hj] at h
          obtain ⟨l, ys, e1, q1, q2⟩ := itemsL_ok sr rx hi
          have ey := blsD_ok q2 hb
          subst ey
          rw [List.findIdx?_eq_some_iff_getElem] at hj
          obtain ⟨hj1, hj2, hj3⟩ := hj
          refine ⟨l, bs.map V.bl, .bl b, j, .bl bs[j], e1, rfl, q1.l, rfl, ?_, ?_, ?_, ?_, h.okI sr (rp_int.mpr rfl)⟩
          · rw [List.all_map, List.all_eq_true]; intro z _; rfl
          · rw [List.getElem?_map, List.getElem?_eq_getElem hj1]; rfl
          · exact hj2
          · intro k z' hk hz
            rw [List.getElem?_map] at hz
            have hk' : k < bs.length := by omega
            rw [List.getElem?_eq_getElem hk'] at hz
            cases hz
            have h0 := hj3 k hk
            show (bs[k] == b) = false
            simpa using h0
  · exact h.elim
theorem de_indexB {g : Den (List D)} (ho : DE X T W o f) (ha : DA X T W [e] g) (hbase : attributeBase o "index" X.env (eval o X.env) = eval o X.env := by rfl) (hs : starEach [e] X.env = (false, eval e X.env) :: starEach [] X.env := by rfl)
    (hfew : ((backTo pos (starEach [e] X.env)).all (fun x => !x.1) && (backToKw pos (keywordEach [] X.env)).all (fun x => x.1.isSome) && decide ([e].length + ([] : List Keyword).length + (if ([] : List Keyword).isEmpty then 0 else 1) < 30)) = true := by rfl) (hline : (apos.endLine == pos.line) = true := by rfl) :
    DE X T W (.Call (.Attribute o "index" apos) [e] [] pos) (dML f g indexB) :=
  PE.imp (pe_bm PySem.F.plainAttrs_list PySem.F.slot_list_index PySem.F.type_list_index mt_index ho ha hbase hfew hline hs rfl) (tBM_of hk_indexB rfl rfl)
/-! ### dicts written -/
def replAll (k : Key) (d : D) : List Key → List D → List D
  | k' :: ks, x :: ds => (if k' = k then d else x) :: replAll k d ks ds
  | _, ds => ds
def putL (k : Key) (d : D) (ks : List Key) (ds : List D) : List Key × List D := if k ∈ ks then (ks, replAll k d ks ds) else (ks ++ [k], ds ++ [d])
theorem replAll_ok {K : PySem.W.Frag} {I : Hp} {m : List Addr} {k : Key} {d : D} {v : V} (rv : Rp T K I m d v) : ∀ {ks : List Key} {ds : List D} {kvs : List (Key × V)}, kvs.map (·.1) = ks → RpL T K I m ds (kvs.map (·.2)) →
    (kvs.map fun kv => if kv.1 = k then (kv.1, v) else kv).map (·.1) = ks ∧ RpL T K I m (replAll k d ks ds) ((kvs.map fun kv => if kv.1 = k then (kv.1, v) else kv).map (·.2))
  | [], ds, kvs, e, r => by
    have := List.map_eq_nil_iff.mp e
    subst this
    have e2 : ds = [] := by
      cases ds with
      | nil => rfl
      | cons x ds => obtain ⟨_, _, h, _⟩ := r.inv; cases h
    subst e2
    exact ⟨rfl, r⟩
  | k1 :: ks, ds, [], e, r => by cases e
  | k1 :: ks, [], p :: kvs, e, r => by exact nomatch r.inil
  | k1 :: ks, x :: ds, p :: kvs, e, r => by
    simp only [List.map_cons, List.cons.injEq] at e
    obtain ⟨u, r', e2, q, r2⟩ := r.inv
    simp only [List.map_cons, List.cons.injEq] at e2
    obtain ⟨h1, h2⟩ := replAll_ok rv (d := d) (k := k) e.2 (ds := ds) (by rw [e2.2]; exact r2)
    unfold replAll
    by_cases hk : k1 = k
    · have hp : p.1 = k := by rw [e.1]; exact hk
      simp only [List.map_cons, if_pos hp, if_pos hk]
      refine ⟨?_, RpL.cons rv h2⟩
      rw [h1, e.1]
    · have hp : ¬ p.1 = k := by rw [e.1]; exact hk
      simp only [List.map_cons, if_neg hp, if_neg hk]
      refine ⟨?_, RpL.cons (by rw [e2.1]; exact q) h2⟩
      rw [h1, e.1]
theorem putL_ok {K : PySem.W.Frag} {I : Hp} {m : List Addr} {k : Key} {d : D} {v : V} {ks : List Key} {ds : List D} {kvs : List (Key × V)} (rv : Rp T K I m d v) (e : kvs.map (·.1) = ks) (r : RpL T K I m ds (kvs.map (·.2))) :
    (L2.putK kvs k v).map (·.1) = (putL k d ks ds).1 ∧ RpL T K I m (putL k d ks ds).2 ((L2.putK kvs k v).map (·.2)) := by
  have ha : (kvs.any fun kv => decide (kv.1 = k)) = decide (k ∈ ks) := by
    rw [← e, Bool.eq_iff_iff]
    simp only [List.any_eq_true, decide_eq_true_eq, List.mem_map]
  unfold L2.putK putL
  rw [ha]
  by_cases hk : k ∈ ks
  · simp only [hk, decide_true, if_true]
    exact replAll_ok rv e r
  · simp only [hk, decide_false, if_false, Bool.false_eq_true]
    refine ⟨by rw [List.map_append, e]; rfl, ?_⟩
    rw [List.map_append]
    exact r.append (RpL.one rv)
theorem cell_dic {K : PySem.W.Frag} {I H : Hp} {m : List Addr} {cs : List Cell} {n : Nat} {ks : List Key} {ds : List D} {v : V} (sr : SR T K I m cs H) (r : Rp T K I m (.cell n) v) (h : cs[n]? = some (.dic ks ds)) :
    ∃ a kvs, v = .ref a ∧ m[n]? = some a ∧ H a = some (.dK kvs) ∧ kvs.map (·.1) = ks ∧ RpL T K I m ds (kvs.map (·.2)) := by
  obtain ⟨a, e1, e2⟩ := rp_cell.mp r
  obtain ⟨a', o, q1, q2, q3, q4⟩ := sr.at_ n _ h (by intro z; cases z)
  rw [e1] at q1; cases q1
  cases o with
  | dK kvs => exact ⟨a, kvs, e2, e1, q3, q4.1, q4.2⟩
  | _ => exact q4.elim
/-- d[k] = v -/
def sDput (fo fi fv : Den D) : SDen := fun env cs => (fv env cs).bindS env fun d cs => (fo env cs).bindS env fun x cs => (fi env cs).bindS env fun y cs => match x, keyD y with
  | .cell n, some k => match cs[n]? with
    | some (.dic ks ds) => if fitsL ks.length then .nx env (cs.set n (.dic (putL k d ks ds).1 (putL k d ks ds).2)) else .no
    | _ => .no
  | _, _ => .no
theorem ds_dput {pos' : Pos} (hu : X.A.units + 1 < cLine) (ho : DE X T W o f) (hi : DE X T W i g) (hv : DE X T W e h) (hs : swapsWith e (some (.Subscript o i pos')) pos.line X.env = pure false := by rfl) : DS X T W (.Assign [.Subscript o i pos'] e pos) (sDput f g h) := by
  refine PS.imp (ps_dput hu ho hi hv hs) ?_
  rintro B σ H ⟨I, m, cs, env, er, sr, h⟩
  refine ⟨I, m, cs, env, er, sr, SOk.bindE h er fun d cs1 v H1 I1 m1 s1 p1 sr1 r1 h1 => ?_⟩
  refine ⟨I1, m1, cs1, env, er.mono s1 p1, sr1, SOk.bindE h1 (er.mono s1 p1) fun x cs2 w H2 I2 m2 s2 p2 sr2 r2 h2 => ?_⟩
  refine ⟨I2, m2, cs2, env, (er.mono s1 p1).mono s2 p2, sr2, SOk.bindE h2 ((er.mono s1 p1).mono s2 p2) fun y cs3 u H3 I3 m3 s3 p3 sr3 r3 h3 => ?_⟩
  split at h3
  · rename_i n k hk
    split at h3
    · rename_i ks ds hc
      split at h3
      · rename_i hl
        obtain ⟨a, kvs, rfl, ea, q1, q2, q3⟩ := cell_dic sr3 (r2.mono s3 p3) hc
        have ek := keyD_ok r3 hk
        obtain ⟨z1, z2⟩ := putL_ok (k := k) ((r1.mono s2 p2).mono s3 p3) q2 q3
        refine ⟨a, _, rfl, .inl ⟨kvs, k, q1, ek, ?_, rfl⟩, ?_⟩
        · have := congrArg List.length q2
          rw [List.length_map] at this
          rw [this]; exact hl
        · have s4 := sr3.setC (o := .dK (L2.putK kvs k v)) (c := .dic (putL k d ks ds).1 (putL k d ks ds).2) hc (by intro z; cases z) ea ⟨z1, z2⟩
          exact SOk.nxI h3 s4 (((er.mono s1 p1).mono s2 p2).mono s3 p3)
      · exact h3.elim
    · exact h3.elim
  · exact h3.elim
def dropL (k : Key) : List Key → List D → List Key × List D
  | k' :: ks, x :: ds => if k' = k then dropL k ks ds else (k' :: (dropL k ks ds).1, x :: (dropL k ks ds).2)
  | _, _ => ([], [])
theorem dropL_ok {K : PySem.W.Frag} {I : Hp} {m : List Addr} {k : Key} : ∀ {ks : List Key} {ds : List D} {kvs : List (Key × V)}, kvs.map (·.1) = ks → RpL T K I m ds (kvs.map (·.2)) →
    (L2.dropK kvs k).map (·.1) = (dropL k ks ds).1 ∧ RpL T K I m (dropL k ks ds).2 ((L2.dropK kvs k).map (·.2))
  | [], ds, kvs, e, r => by
    have := List.map_eq_nil_iff.mp e
    subst this
    exact ⟨rfl, RpL.nil⟩
  | k1 :: ks, ds, [], e, r => by cases e
  | k1 :: ks, [], p :: kvs, e, r => by exact nomatch r.inil
  | k1 :: ks, x :: ds, p :: kvs, e, r => by
    simp only [List.map_cons, List.cons.injEq] at e
    obtain ⟨u, r', e2, q, r2⟩ := r.inv
    simp only [List.map_cons, List.cons.injEq] at e2
    obtain ⟨h1, h2⟩ := dropL_ok (k := k) e.2 (ds := ds) (by rw [e2.2]; exact r2)
    unfold dropL
    by_cases hk : k1 = k
    · rw [dropK_pos (by rw [e.1]; exact hk), if_pos hk]
      exact ⟨h1, h2⟩
    · rw [dropK_neg (by rw [e.1]; exact hk), if_neg hk]
      exact ⟨by rw [List.map_cons, h1, e.1], RpL.cons (by show Rp T K I m x p.2; rw [e2.1]; exact q) h2⟩
/-- d.pop(k) -/
def dpop1D (x y : D) (cs : List Cell) : Out D := match x, keyD y with
  | .cell n, some k => match cs[n]? with
    | some (.dic ks ds) => match lkD ks ds k with
      | some d => .ok d (cs.set n (.dic (dropL k ks ds).1 (dropL k ks ds).2))
      | none => .no
    | _ => .no
  | _, _ => .no
def dPop1 (f g : Den D) : Den D := fun env cs => (f env cs).bind fun x cs => if isK cs x = true then (g env cs).bind fun y cs => dpop1D x y cs else .no
theorem de_dpop1 (ho : DE X T W o f) (hi : DE X T W i g) (m : M1 X o "pop" apos i pos := by exact ⟨rfl, rfl, rfl, rfl⟩) : DE X T W (.Call (.Attribute o "pop" apos) [i] [] pos) (dPop1 f g) := by
  refine PE.imp (pe_dpop1 ho hi m) ?_
  rintro σ H Q ⟨I, m, cs, env, er, sr, h⟩
  refine ⟨I, m, cs, env, er, sr, OutG.bindI h fun x cs1 v H1 I1 m1 s1 p1 sr1 r1 h1 => ?_⟩
  split at h1
  · rename_i hD
    obtain ⟨a, rfl, isd⟩ := itemsK_D sr1 r1 hD
    refine ⟨a, rfl, isd, I1, m1, cs1, env, er.mono s1 p1, sr1, OutG.bindI h1 fun y cs2 u H2 I2 m2 s2 p2 sr2 r2 h2 => ?_⟩
    unfold dpop1D at h2
    split at h2
    · rename_i n k hk
      split at h2
      · rename_i ks ds hc
        split at h2
        · rename_i d hd
          obtain ⟨a', kvs, e, ea, q1, q2, q3⟩ := cell_dic sr2 (r1.mono s2 p2) hc
          cases e
          have ek := keyD_ok r2 hk
          obtain ⟨w, hw, rw'⟩ := lkD_ok q2 q3 hd
          obtain ⟨z1, z2⟩ := dropL_ok (k := k) q2 q3
          have s4 := sr2.setC (o := .dK (L2.dropK kvs k)) (c := .dic (dropL k ks ds).1 (dropL k ks ds).2) hc (by intro z; cases z) ea ⟨z1, z2⟩
          exact ⟨kvs, k, w, q1, ek, hw, h2.okI s4 rw'⟩
        · exact h2.elim
      · exact h2.elim
    · exact h2.elim
  · exact h1.elim
/-- d.pop(k, z) -/
def dpop2D (x y z : D) (cs : List Cell) : Out D := match x, keyD y with
  | .cell n, some k => match cs[n]? with
    | some (.dic ks ds) => match lkD ks ds k with
      | some d => .ok d (cs.set n (.dic (dropL k ks ds).1 (dropL k ks ds).2))
      | none => .ok z cs
    | _ => .no
  | _, _ => .no
def dPop2 (f g h : Den D) : Den D := fun env cs => (f env cs).bind fun x cs => if isK cs x = true then (g env cs).bind fun y cs => (h env cs).bind fun z cs => dpop2D x y z cs else .no
theorem de_dpop2 {e2 : Expr} (ho : DE X T W o f) (hi : DE X T W i g) (hd : DE X T W e2 h) (m : M2 X o "pop" apos i e2 pos := by exact ⟨rfl, rfl, rfl, rfl⟩) : DE X T W (.Call (.Attribute o "pop" apos) [i, e2] [] pos) (dPop2 f g h) := by
  refine PE.imp (pe_dpop2 ho hi hd m) ?_
  rintro σ H Q ⟨I, m, cs, env, er, sr, h⟩
  refine ⟨I, m, cs, env, er, sr, OutG.bindI h fun x cs1 v H1 I1 m1 s1 p1 sr1 r1 h1 => ?_⟩
  split at h1
  · rename_i hD
    obtain ⟨a, rfl, isd⟩ := itemsK_D sr1 r1 hD
    refine ⟨a, rfl, isd, I1, m1, cs1, env, er.mono s1 p1, sr1, OutG.bindI h1 fun y cs2 u H2 I2 m2 s2 p2 sr2 r2 h2 => ?_⟩
    refine ⟨I2, m2, cs2, env, (er.mono s1 p1).mono s2 p2, sr2, OutG.bindI h2 fun z cs3 w H3 I3 m3 s3 p3 sr3 r3 h3 => ?_⟩
    unfold dpop2D at h3
    split at h3
    · rename_i n k hk
      split at h3
      · rename_i ks ds hc
        obtain ⟨a', kvs, e, ea, q1, q2, q3⟩ := cell_dic sr3 ((r1.mono s2 p2).mono s3 p3) hc
        cases e
        have ek := keyD_ok (r2.mono s3 p3) hk
        refine ⟨kvs, k, q1, ek, fun v hv => ?_, fun hv => ?_⟩
        · cases hl : lkD ks ds k with
          | some d =>
            simp only [hl] at h3
            obtain ⟨w, hw, rw'⟩ := lkD_ok q2 q3 hl
            rw [hv] at hw; cases hw
            obtain ⟨z1, z2⟩ := dropL_ok (k := k) q2 q3
            have s4 := sr3.setC (o := .dK (L2.dropK kvs k)) (c := .dic (dropL k ks ds).1 (dropL k ks ds).2) hc (by intro z; cases z) ea ⟨z1, z2⟩
            exact h3.okI s4 rw'
          | none =>
            have l := q3.length
            rw [List.length_map] at l
            have l2 := congrArg List.length q2
            rw [List.length_map] at l2
            rw [lkD_none q2 (by omega) hl] at hv; cases hv
        · cases hl : lkD ks ds k with
          | some d =>
            obtain ⟨w, hw, _⟩ := lkD_ok q2 q3 hl
            rw [hv] at hw; cases hw
          | none =>
            simp only [hl] at h3
            exact h3.okI sr3 r3
      · exact h3.elim
    · exact h3.elim
  · exact h1.elim
/-- dict(d): a new cell -/
def dictC (xs : List D) (cs : List Cell) : Out D := match xs with
  | [x] => match itemsK cs x with
    | some (ks, ds) => .ok (.cell cs.length) (cs ++ [.dic ks ds])
    | none => .no
  | _ => .no
theorem hk_dict {K : PySem.W.Frag} : HkC T K (fun xs H Q => ∃ (a : Addr) (kvs : List (Key × V)), xs = [.ref a] ∧ Rd H a (.dK kvs) ∧ ∀ p, H p = none → Q (.ref p) (upd H p (.dK kvs))) dictC := by
  intro I m cs H xs vs Q E sr rx h
  unfold dictC at h
  match xs, rx, h with
  | [], _, h => exact h.elim
  | _ :: _ :: _, _, h => exact h.elim
  | [x], rx, h =>
    obtain ⟨v, rfl, r⟩ := rx.i1
    simp only at h
    cases hi : itemsK cs x with
    | none => simp only [hi] at h; exact h.elim
    | some p =>
      obtain ⟨ks, ds⟩ := p
      simp only [hi] at h
      obtain ⟨a, kvs, e, q, k1, k2⟩ := itemsK_ok sr r hi
      exact ⟨a, kvs, by rw [e], q, fun p hp => rp_newC (c := .dic ks ds) sr hp ⟨k1, k2⟩ h⟩
theorem de_dict {p : Pos} {g : Den (List D)} (hm : X.mg "dict" = none) (ha : DA X T W [e] g) (hg : Gl X "dict" := by rfl) (he : starEach [e] X.env = (false, eval e X.env) :: starEach [] X.env := by rfl) : DE X T W (.Call (.Name "dict" p) [e] [] pos) (dCall g dictC) :=
  de_callTy call_dictD hk_dict hm ha (hg := hg) (he := he) (hpl := rfl)
/-- a dict's cell is given out frozen -/
def dFrzK (f : Den D) : Den D := fun env cs => (f env cs).bind fun x cs => match x with
  | .cell n => match cs[n]? with
    | some (.dic ks ds) => .ok (.dic ks ds) (cs.set n .gone)
    | _ => .no
  | d => .ok d cs
theorem de_frzK (h : DE X T W e f) : DE X T W e (dFrzK f) := by
  refine PE.imp h ?_
  rintro σ H Q ⟨I, m, cs, env, er, sr, h⟩
  refine ⟨I, m, cs, env, er, sr, OutG.bindI h fun x cs1 v H1 I1 m1 s1 p1 sr1 r1 h1 => ?_⟩
  by_cases hz : ∃ z, x = .cell z
  · obtain ⟨z, rfl⟩ := hz
    simp only at h1
    split at h1
    · rename_i ks ds hc
      obtain ⟨a, kvs, rfl, ea, q1, q2, q3⟩ := cell_dic sr1 r1 hc
      obtain ⟨sr2, s2⟩ := sr1.frz hc (by intro z; cases z) ea q1
      refine h1.ok1 s2 sr2 ?_
      show Rp _ _ _ _ _ _
      unfold Rp
      exact ⟨a, kvs, rfl, upd_same, q2, RpL.mono s2 (List.prefix_refl _) q3⟩
    · exact h1.elim
  · have h' : OutG T X.K (RD T X.K) I1 m1 (.ok x cs1) Q (fun cls od H' => W cls od σ H') := by
      cases x <;> first | exact h1 | exact absurd ⟨_, rfl⟩ hz
    exact h'.okI sr1 r1
theorem itemsK_H {K : PySem.W.Frag} {I H : Hp} {m : List Addr} {cs : List Cell} {d : D} {ks : List Key} {ds : List D} {v : V} (sr : SR T K I m cs H) (r : Rp T K I m d v) (h : itemsK cs d = some (ks, ds)) :
    ∃ a kvs, v = .ref a ∧ H a = some (.dK kvs) ∧ kvs.map (·.1) = ks ∧ RpL T K I m ds (kvs.map (·.2)) := by
  cases d with
  | dic ks' ds' =>
    cases h
    unfold Rp at r
    obtain ⟨a, kvs, e, q, k1, k2⟩ := r
    exact ⟨a, kvs, e, sr.same _ _ q, k1, k2⟩
  | cell n =>
    unfold itemsK at h
    cases hc : cs[n]? with
    | none => simp [hc] at h
    | some c =>
      cases c with
      | dic ks' ds' =>
        simp only [hc] at h
        cases h
        obtain ⟨a, kvs, e, ea, q1, q2, q3⟩ := cell_dic sr r hc
        exact ⟨a, kvs, e, q1, q2, q3⟩
      | _ => simp [hc] at h
  | _ => cases h
/-- len(d) -/
def lenK (xs : List D) (cs : List Cell) : Out D := match xs with
  | [x] => match itemsK cs x with
    | some (ks, ds) => .ok (.int (ks.length : Nat)) cs
    | none => .no
  | _ => .no
theorem hk_lenK {K : PySem.W.Frag} : HkC T K (fun xs H Q => ∃ a kvs, xs = [V.ref a] ∧ H a = some (.dK kvs) ∧ Q (.int kvs.length) H) lenK := by
  intro I m cs H xs vs Q E sr rx h
  unfold lenK at h
  match xs, rx, h with
  | [], _, h => exact h.elim
  | _ :: _ :: _, _, h => exact h.elim
  | [x], rx, h =>
    obtain ⟨v, rfl, r⟩ := rx.i1
    simp only at h
    cases hi : itemsK cs x with
    | none => simp only [hi] at h; exact h.elim
    | some p =>
      obtain ⟨ks, ds⟩ := p
      simp only [hi] at h
      obtain ⟨a, kvs, e, q, k1, k2⟩ := itemsK_H sr r hi
      have := congrArg List.length k1
      rw [List.length_map] at this
      exact ⟨a, kvs, by rw [e], q, h.okI sr (rp_int.mpr (by rw [this]))⟩
theorem de_lenK {p : Pos} {g : Den (List D)} (hm : X.mg "len" = none) (ha : DA X T W [e] g) (hg : Gl X "len" := by rfl) (he : starEach [e] X.env = (false, eval e X.env) :: starEach [] X.env := by rfl) : DE X T W (.Call (.Name "len" p) [e] [] pos) (dCall g lenK) :=
  de_callB call_lenD hk_lenK hm ha (hg := hg) (he := he) (hpl := rfl)
/-- max of a list of whole numbers -/
def maxI : List Int → Int
  | [] => 0
  | [x] => x
  | x :: r => max x (maxI r)
theorem maxI_ok : ∀ (ns : List Int), ns ≠ [] → maxI ns ∈ ns ∧ ∀ y ∈ ns, y ≤ maxI ns
  | [], h => absurd rfl h
  | [x], _ => ⟨List.mem_cons_self, fun y hy => by simp at hy; subst hy; exact Int.le_refl _⟩
  | x :: y :: r, _ => by
    obtain ⟨h1, h2⟩ := maxI_ok (y :: r) (by simp)
    have e : maxI (x :: y :: r) = max x (maxI (y :: r)) := rfl
    rw [e]
    refine ⟨?_, fun z hz => ?_⟩
    · rcases Int.le_total x (maxI (y :: r)) with q | q
      · rw [Int.max_eq_right q]; exact List.mem_cons_of_mem _ h1
      · rw [Int.max_eq_left q]; exact List.mem_cons_self
    · rcases List.mem_cons.mp hz with q | q
      · rw [q]; exact Int.le_max_left _ _
      · exact Int.le_trans (h2 z q) (Int.le_max_right _ _)
def maxLD (xs : List D) (cs : List Cell) : Out D := match xs with
  | [x] => match (itemsL cs x).bind intsD with
    | some ns => if ns ≠ [] then .ok (.int (maxI ns)) cs else .no
    | none => .no
  | _ => .no
theorem hk_maxL {K : PySem.W.Frag} : HkC T K (rMax K) maxLD := by
  intro I m cs H xs vs Q E sr rx h
  unfold maxLD at h
  match xs, rx, h with
  | [], _, h => exact h.elim
  | _ :: _ :: _, _, h => exact h.elim
  | [x], rx, h =>
    obtain ⟨v, rfl, r⟩ := rx.i1
    simp only at h
    cases hi : itemsL cs x with
    | none => simp only [hi, Option.bind_none] at h; exact h.elim
    | some bs =>
      cases hn : intsD bs with
      | none => simp only [hi, Option.bind_some, hn] at h; exact h.elim
      | some ns =>
        simp only [hi, Option.bind_some, hn] at h
        split at h
        · rename_i hne
          obtain ⟨l, ys, e1, q1, q2⟩ := itemsL_ok sr r hi
          have ey := intsD_ok q2 hn
          subst ey
          refine ⟨l, ns, by rw [e1], q1.l, List.length_pos_iff.mpr hne, fun m hm hy => ?_⟩
          obtain ⟨m1, m2⟩ := maxI_ok ns hne
          have e : m = maxI ns := by have := hy _ m1; have := m2 _ hm; omega
          subst e
          exact h.okI sr (rp_int.mpr rfl)
        · exact h.elim
theorem de_maxL {p : Pos} {g : Den (List D)} (hc : X.calm = true) (hm : X.mg "max" = none) (ha : DA X T W [e] g) (hg : Gl X "max" := by rfl) (he : starEach [e] X.env = (false, eval e X.env) :: starEach [] X.env := by rfl) : DE X T W (.Call (.Name "max" p) [e] [] pos) (dCall g maxLD) :=
  de_callB (cr_max hc) hk_maxL hm ha (hg := hg) (he := he) (hpl := rfl)
end
end
end DL
end

section
set_option Elab.async false
set_option linter.all false
set_option maxRecDepth 100000
/-! G0: tools for mirrors, whatever the law. -/
namespace DL
open PySem L2
open Classical
noncomputable section
/-! ### tools -/
theorem mulX_l {i j : Int} (h : -18446744073709551616 < i) (h' : i < 18446744073709551616) : CMulX i j := .inl (.inl ⟨h, h'⟩)
theorem mulX_r {i j : Int} (h : -18446744073709551616 < j) (h' : j < 18446744073709551616) : CMulX i j := .inl (.inr ⟨h, h'⟩)
theorem divX_s {i j : Int} (h : 0 < j) (h' : j < 1073741824) : CDivX i j := .inl ⟨h, h'⟩
theorem divX_w {i j : Int} (h : 0 < j) (h' : j.natAbs.log2 < 9000) : CDivX i j := .inr ⟨h, h'⟩
theorem end_get {cs : List Cell} {c : Cell} : (cs ++ [c])[cs.length]? = some c := by simp
theorem end_set {cs : List Cell} {c d : Cell} : (cs ++ [c]).set cs.length d = cs ++ [d] := by simp
theorem atI_nat {α : Type} {xs : List α} {n : Nat} {x : α} (h : xs[n]? = some x) : L2.atI xs (n : Int) = some x := by
  have hn := (List.getElem?_eq_some_iff.mp h).1
  unfold L2.atI L2.ixN
  rw [if_pos (by omega), if_pos (by omega)]
  simpa using h
theorem atI_int {α : Type} {xs : List α} {i : Int} {x : α} (h0 : 0 ≤ i) (h : xs[i.toNat]? = some x) : L2.atI xs i = some x := by
  have e : ((i.toNat : Nat) : Int) = i := Int.toNat_of_nonneg h0
  rw [← e]
  exact atI_nat h
theorem ixN_nat {n k : Nat} (h : k < n) : L2.ixN n (k : Int) = some k := by
  unfold L2.ixN
  rw [if_pos (by omega), if_pos (by omega)]
  simp
theorem gA {b l : List Cell} {k : Nat} : (b ++ l)[b.length + k]? = l[k]? := by
  rw [List.getElem?_append_right (Nat.le_add_right _ _)]; simp
theorem g0 {b l : List Cell} : (b ++ l)[b.length]? = l[0]? := gA (k := 0)
theorem sA {b l : List Cell} {k : Nat} {x : Cell} : (b ++ l).set (b.length + k) x = b ++ l.set k x := by
  rw [List.set_append_right _ _ (Nat.le_add_right _ _)]; simp
theorem s0 {b l : List Cell} {x : Cell} : (b ++ l).set b.length x = b ++ l.set 0 x := sA (k := 0)
theorem line_eq : (sizeLine : Nat) = 16777216 := by decide
theorem trim_keep {cs0 cs : List Cell} {b : Bool} {c : Cell} {i : Nat} (hi : i < cs0.length) (h : cs[i]? = some c) (hne : cs0[i]? ≠ some c) (hl : Cell.lt cs0.length c = false) : DL.trim cs0 cs b = cs := by
  unfold DL.trim
  rw [if_neg]
  intro z
  rcases z.2 i c hi h with q | q
  · exact hne q
  · rw [hl] at q; cases q
theorem forL_nil {chk : List Cell → Prop} {g : GDen} {b : SDen} {env : DL.Env} {cs : List Cell} (hc : chk cs) : forL chk g b [] env cs = .nx env cs := by
  unfold forL; exact if_pos hc
theorem forL_step {chk : List Cell → Prop} {g : GDen} {b : SDen} {x : D} {r : List D} {env env1 env2 : DL.Env} {cs cs1 cs2 : List Cell} (hc : chk cs) (h1 : g x env cs = .nx env1 cs1) (h2 : b env1 cs1 = .nx env2 cs2) :
    forL chk g b (x :: r) env cs = forL chk g b r env2 cs2 := by
  rw [forL]; simp only [if_pos hc, h1, h2]
theorem forL_ret {chk : List Cell → Prop} {g : GDen} {b : SDen} {x : D} {r : List D} {env env1 : DL.Env} {cs cs1 cs2 : List Cell} {d : D} (hc : chk cs) (h1 : g x env cs = .nx env1 cs1) (h2 : b env1 cs1 = .rt d cs2) :
    forL chk g b (x :: r) env cs = .rt d cs2 := by
  rw [forL]; simp only [if_pos hc, h1, h2]
/-- a comprehension without a test whose element leaves the cells as they are -/
theorem lcL_map {α : Type} {chk : List Cell → Prop} {g : GDen} {h : Den D} {env : DL.Env} {cs : List Cell} {en ψ : α → D} : ∀ (xs : List α) (acc : List D), (∀ acc, chk (cs ++ [.lst acc])) → acc.length + xs.length ≤ 1000000 →
    (∀ x ∈ xs, ∀ acc, ∃ env', g (en x) env (cs ++ [.lst acc]) = .nx env' (cs ++ [.lst acc]) ∧ h env' (cs ++ [.lst acc]) = .ok (ψ x) (cs ++ [.lst acc])) →
    lcL chk g pYes h cs.length env (xs.map en) (cs ++ [.lst acc]) = .ok () (cs ++ [.lst (acc ++ xs.map ψ)])
  | [], acc, hc, _, _ => by
    show lcL chk g pYes h cs.length env [] _ = _
    unfold lcL; rw [if_pos (hc acc)]; simp
  | x :: xs, acc, hc, hn, he => by
    obtain ⟨env', h1, h2⟩ := he x List.mem_cons_self acc
    have ih := lcL_map (en := en) (ψ := ψ) xs (acc ++ [ψ x]) hc (by simp at hn ⊢; omega) fun y hy => he y (List.mem_cons_of_mem _ hy)
    have hf : fitsL acc.length := fitsL_of (by simp at hn; omega)
    show lcL chk g pYes h cs.length env (en x :: xs.map en) _ = _
    rw [lcL]
    simp only [if_pos (hc acc), h1, h2, pYes, trim_self, end_get, if_pos hf, end_set, if_true]
    rw [ih]
    simp
theorem lc_map {α : Type} {vs : List Nat} {f : Den ItV} {g : GDen} {h : Den D} {env : DL.Env} {cs : List Cell} (xs : List α) (en ψ : α → D) {chk : List Cell → Prop} (hf : f env cs = .ok ⟨xs.map en, chk⟩ cs) (hc : ∀ acc, chk (cs ++ [.lst acc])) (hn : xs.length ≤ 1000000)
    (he : ∀ x ∈ xs, ∀ acc, ∃ env', g (en x) (wipeE env vs) (cs ++ [.lst acc]) = .nx env' (cs ++ [.lst acc]) ∧ h env' (cs ++ [.lst acc]) = .ok (ψ x) (cs ++ [.lst acc])) (hl : D.ltL cs.length (xs.map ψ) = true) :
    dLc vs f g pYes h env cs = .ok (.lst (xs.map ψ)) cs := by
  have e := lcL_map (env := wipeE env vs) (en := en) (ψ := ψ) xs [] hc (by simpa using hn) he
  unfold dLc dTr dFrz dLcC
  simp only [hf, Out.bind, e, List.nil_append, end_get, end_set]
  rw [show D.lt cs.length (.lst (xs.map ψ)) = D.ltL cs.length (xs.map ψ) from rfl, hl, trim_app]
theorem ltL_map {α : Type} {n : Nat} {ψ : α → D} : ∀ {xs : List α}, (∀ x ∈ xs, D.lt n (ψ x) = true) → D.ltL n (xs.map ψ) = true
  | [], _ => rfl
  | x :: xs, h => by
    show (D.lt n (ψ x) && D.ltL n (xs.map ψ)) = true
    rw [h x List.mem_cons_self, ltL_map fun y hy => h y (List.mem_cons_of_mem _ hy)]; rfl
theorem whileD_step {p : Den Bool} {b : SDen} {n : Nat} {env env2 : DL.Env} {cs cs2 : List Cell} (h1 : p env cs = .ok true cs) (h2 : b env cs = .nx env2 cs2) : whileD p b (n + 1) env cs = whileD p b n env2 cs2 := by
  rw [whileD]; simp only [h1, h2, Out.bindS, if_true]
theorem whileD_stop {p : Den Bool} {b : SDen} {n : Nat} {env : DL.Env} {cs : List Cell} (h1 : p env cs = .ok false cs) : whileD p b (n + 1) env cs = .nx env cs := by
  rw [whileD]; simp only [h1, Out.bindS]; rfl
theorem okL_nil {ob : List Nat} {n : Nat} : D.okL ob [] n = true := by unfold D.okL; rfl
def ilist (xs : List Int) : List D := xs.map D.int
theorem il_get {xs : List Int} {i : Nat} : (ilist xs)[i]? = (xs[i]?).map D.int := by unfold ilist; simp
theorem il_len {xs : List Int} : (ilist xs).length = xs.length := by unfold ilist; simp
theorem ltL_il {n : Nat} : ∀ xs : List Int, D.ltL n (ilist xs) = true
  | [] => rfl
  | x :: xs => by
    show (D.lt n (.int x) && D.ltL n (ilist xs)) = true
    rw [ltL_il xs]; rfl
/-! ### Memory -/
def isS (c : Cell) : Prop := ∃ a b d : Int, c = .lst [.int a, .int b, .int d]
theorem isS_lt {c : Cell} (h : isS c) (n : Nat) : c.lt n = true := by
  obtain ⟨a, b, d, rfl⟩ := h
  rfl
theorem set_self {cs : List Cell} {n : Nat} {c : Cell} (h : cs[n]? = some c) : cs.set n c = cs := by
  obtain ⟨h1, h2⟩ := List.getElem?_eq_some_iff.mp h
  rw [← h2, List.set_getElem_self]
theorem set_get {cs : List Cell} {n : Nat} {c : Cell} (h : n < cs.length) : (cs.set n c)[n]? = some c := List.getElem?_set_self h
theorem app_get {cs e : List Cell} {n : Nat} {c : Cell} (h : cs[n]? = some c) : (cs ++ e)[n]? = some c := by
  rw [List.getElem?_append_left (live_len h)]; exact h
theorem app_set {cs e : List Cell} {n : Nat} {c : Cell} (h : n < cs.length) : (cs ++ e).set n c = cs.set n c ++ e := List.set_append_left _ _ h
/-- a comprehension whose element draws -/
theorem lcL_st {g : GDen} {h : Den D} {env : DL.Env} {cs : List Cell} {n : Nat} {P : D → Prop} (hn : n < cs.length) : ∀ (xs acc : List D) (c : Cell), isS c → acc.length + xs.length ≤ 1000000 →
    (∀ x ∈ xs, ∀ (c : Cell) (acc : List D), isS c → ∃ env' d c', isS c' ∧ P d ∧ g x env (cs.set n c ++ [.lst acc]) = .nx env' (cs.set n c ++ [.lst acc]) ∧ h env' (cs.set n c ++ [.lst acc]) = .ok d (cs.set n c' ++ [.lst acc])) →
    ∃ ds c', isS c' ∧ (∀ d ∈ ds, P d) ∧ ds.length = xs.length ∧ lcL noChk g pYes h cs.length env xs (cs.set n c ++ [.lst acc]) = .ok () (cs.set n c' ++ [.lst (acc ++ ds)])
  | [], acc, c, hs, _, _ => ⟨[], c, hs, fun _ h => (nomatch h), rfl, by unfold lcL; rw [if_pos (show noChk _ from trivial), List.append_nil]⟩
  | x :: xs, acc, c, hs, hl, he => by
    obtain ⟨env', d, c1, s1, p1, h1, h2⟩ := he x List.mem_cons_self c acc hs
    obtain ⟨ds, c', s', p', l', ih⟩ := lcL_st (P := P) hn xs (acc ++ [d]) c1 s1 (by simp at hl ⊢; omega) fun y hy => he y (List.mem_cons_of_mem _ hy)
    refine ⟨d :: ds, c', s', fun y hy => ?_, by simp [l'], ?_⟩
    · rcases List.mem_cons.mp hy with z | z
      · subst z; exact p1
      · exact p' y z
    · have hf : fitsL acc.length := fitsL_of (by simp at hl; omega)
      have ht : ∀ b, DL.trim (cs.set n c ++ [.lst acc]) (cs.set n c1 ++ [.lst acc]) b = cs.set n c1 ++ [.lst acc] := fun b => trim_len (by simp)
      have eg : (cs.set n c1 ++ [Cell.lst acc])[cs.length]? = some (.lst acc) := by
        have := end_get (cs := cs.set n c1) (c := .lst acc)
        rwa [List.length_set] at this
      have es : ∀ z, (cs.set n c1 ++ [Cell.lst acc]).set cs.length z = cs.set n c1 ++ [z] := fun z => by
        have := end_set (cs := cs.set n c1) (c := .lst acc) (d := z)
        rwa [List.length_set] at this
      rw [lcL]
      simp only [if_pos (show noChk _ from trivial), h1, pYes, h2, ht, eg, if_pos hf, es, if_true]
      rw [ih]
      simp
theorem lc_st {vs : List Nat} {f : Den ItV} {g : GDen} {h : Den D} {env : DL.Env} {cs : List Cell} {n : Nat} {P : D → Prop} {c : Cell} (xs : List D) (hn : n < cs.length) (hs : isS c) (hf : f env cs = .ok ⟨xs, noChk⟩ (cs.set n c)) (hl : xs.length ≤ 1000000)
    (he : ∀ x ∈ xs, ∀ (c : Cell) (acc : List D), isS c → ∃ env' d c', isS c' ∧ P d ∧ g x (wipeE env vs) (cs.set n c ++ [.lst acc]) = .nx env' (cs.set n c ++ [.lst acc]) ∧ h env' (cs.set n c ++ [.lst acc]) = .ok d (cs.set n c' ++ [.lst acc]))
    (hlt : ∀ d, P d → ∀ n, D.lt n d = true) :
    ∃ ds c', isS c' ∧ (∀ d ∈ ds, P d) ∧ ds.length = xs.length ∧ dLc vs f g pYes h env cs = .ok (.lst ds) (cs.set n c') := by
  obtain ⟨ds, c', s', p', l', e⟩ := lcL_st (env := wipeE env vs) (P := P) hn xs [] c hs (by simpa using hl) he
  refine ⟨ds, c', s', p', l', ?_⟩
  have eg : (cs.set n c' ++ [Cell.lst ds])[cs.length]? = some (.lst ds) := by
    have := end_get (cs := cs.set n c') (c := .lst ds)
    rwa [List.length_set] at this
  have es : ∀ z, (cs.set n c' ++ [Cell.lst ds]).set cs.length z = cs.set n c' ++ [z] := fun z => by
    have := end_set (cs := cs.set n c') (c := .lst ds) (d := z)
    rwa [List.length_set] at this
  have hlt2 : D.ltL cs.length ds = true := by
    have := ltL_map (n := cs.length) (ψ := fun d : D => d) (xs := ds) fun d hd => hlt d (p' d hd) _
    simpa using this
  unfold dLc dTr dFrz dLcC
  have ln : (cs.set n c).length = cs.length := by simp
  simp only [hf, Out.bind, ln, e, List.nil_append, eg, es]
  rw [show D.lt cs.length (.lst ds) = D.ltL cs.length ds from rfl, hlt2]
  rw [trim_gen (by simp) fun i x q => ?_]
  by_cases hi : n = i
  · subst hi
    rw [List.getElem?_set_self hn] at q; cases q
    exact .inr (isS_lt s' _)
  · rw [List.getElem?_set_ne hi] at q
    exact .inl q

theorem to_il {Q : Int → Prop} : ∀ (ds : List D), (∀ d ∈ ds, ∃ y, d = .int y ∧ Q y) → ∃ ys, ds = ilist ys ∧ ∀ y ∈ ys, Q y
  | [], _ => ⟨[], rfl, fun _ h => (nomatch h)⟩
  | d :: ds, h => by
    obtain ⟨y, rfl, q⟩ := h d List.mem_cons_self
    obtain ⟨ys, rfl, q2⟩ := to_il ds fun d hd => h d (List.mem_cons_of_mem _ hd)
    exact ⟨y :: ys, rfl, fun z hz => by
      rcases List.mem_cons.mp hz with e | e
      · subst e; exact q
      · exact q2 z e⟩
theorem trim_no {cs0 cs : List Cell} : DL.trim cs0 cs false = cs := by
  unfold DL.trim; rw [if_neg]; intro h; cases h.1
theorem rngL_succ (lo : Int) (n : Nat) : rngL lo (n + 1) = .int lo :: rngL (lo + 1) n := by
  unfold rngL
  rw [List.range_succ_eq_map, List.map_cons, List.map_map]
  congr 1
  · simp
  · refine List.map_congr_left fun i _ => ?_
    show D.int (lo + ((i + 1 : Nat) : Int)) = D.int (lo + 1 + (i : Int))
    congr 1
    omega
def small (z : Int) : Prop := z.natAbs < 10000000000000000000000000000000
theorem log_small {n : Nat} (h : n ≤ 8999) : n.log2 < 9000 := Nat.lt_of_le_of_lt (Nat.log2_le_self _) (by omega)
def numZ (z : Int) : List Nat := if z < 0 then 45 :: TL.numL z.natAbs else TL.numL z.natAbs
theorem numS_eq (z : Int) : (toString z : String) = SX.S (numZ z) := by
  refine TL.ext_tl ?_
  show TL.tl (Str.ofString (toString z)) = numZ z
  unfold numZ
  by_cases h : z < 0
  · rw [if_pos h, PyProof.Rows.toString_neg h]
    have e : (0 - z) = ((z.natAbs : Nat) : Int) := by omega
    rw [e, ← TL.tl_num z.natAbs]
    show (Str.ofString _).cps.toList = 45 :: (Str.ofString _).cps.toList
    rw [PyProof.Rows.signs_ofString, PyProof.Rows.signs_ofString, String.toList_append, List.map_append]
    rfl
  · rw [if_neg h]
    have e : z = ((z.natAbs : Nat) : Int) := by omega
    rw [e, TL.tl_num]
    simp
theorem numL_head : ∀ {n c : Nat} {r : List Nat}, n ≠ 0 → TL.numL n = c :: r → c ≠ 48 := by
  intro n
  induction n using Nat.strongRecOn with
  | _ n ih =>
    intro c r h0 e
    by_cases h : n < 10
    · rw [TL.numL_lt h] at e
      cases e
      omega
    · rw [TL.numL_step (by omega)] at e
      cases hq : TL.numL (n / 10) with
      | nil => exact absurd hq (TL.numL_ne _)
      | cons a b =>
        rw [hq] at e
        cases e
        exact ih (n / 10) (by omega) (by omega) hq
theorem numL_len31 {z : Int} (h : small z) : 1 ≤ (TL.numL z.natAbs).length ∧ (TL.numL z.natAbs).length ≤ 31 := by
  refine ⟨List.length_pos_iff.mpr (TL.numL_ne _), TL.numL_len (by decide) ?_⟩
  unfold small at h
  exact Nat.lt_of_lt_of_le h (by decide)
theorem numZ_len {z : Int} (h : small z) : (numZ z).length ≤ 32 := by
  have := (numL_len31 h).2
  unfold numZ
  split
  · simp; omega
  · omega
theorem int_back {z : Int} (h : small z) : PySem.intText? (SX.S (numZ z)) = some z := by
  have l := (numL_len31 h).2
  unfold numZ
  by_cases hz : z < 0
  · rw [if_pos hz]
    have e := intText_neg (x := SX.S (45 :: TL.numL z.natAbs)) (cs := TL.numL z.natAbs) rfl (TL.numL_digits _) (TL.numL_ne _) (by rw [SX.S_len]; simp; omega)
    rw [e, TL.numL_val]
    congr 1
    omega
  · rw [if_neg hz]
    have e := intText_digits (x := SX.S (TL.numL z.natAbs)) (TL.numL_digits _) (TL.numL_ne _) (by rw [SX.S_len]; omega)
    rw [e]
    show some ((NumText.digitsVal (TL.numL z.natAbs) : Nat) : Int) = _
    rw [TL.numL_val]
    congr 1
    omega
/-! ### texts as lists of signs -/
theorem eqS (a b : List Nat) (cs : List Cell) : eqC [] 20 (.str (SX.S a)) (.str (SX.S b)) cs = .ok (.bl (decide (a = b))) cs := by
  simp [eqC, resL, D.okE, eqD, SX.S_beq_eq]
theorem neS (a b : List Nat) (cs : List Cell) : neC [] 20 (.str (SX.S a)) (.str (SX.S b)) cs = .ok (.bl (!decide (a = b))) cs := by
  simp [neC, resL, D.okE, eqD, SX.S_beq_eq]
theorem cut_to (a : List Nat) (cs : List Cell) (h : a.length ≤ 100000) : sliceD (.str (SX.S a)) none (some 1) cs = .ok (.str (SX.S (a.take 1))) cs := by
  have f : fits (SX.S a).length := fits_of (by rw [SX.S_len]; omega)
  have e : HT.sIx (SX.S a).length (SX.S a).length (some (1 : Int)) = min 1 (SX.S a).length := HT.sIx_nat _ _ 1
  unfold sliceD
  simp only [if_pos f, cutS, HT.sIx_none, e, List.drop_zero, Nat.sub_zero]
  congr 3
  rw [SX.S_len]
  cases a <;> simp
theorem cut_from (a : List Nat) (cs : List Cell) (h : a.length ≤ 100000) : sliceD (.str (SX.S a)) (some 1) none cs = .ok (.str (SX.S (a.drop 1))) cs := by
  have f : fits (SX.S a).length := fits_of (by rw [SX.S_len]; omega)
  have e : HT.sIx (SX.S a).length 0 (some (1 : Int)) = min 1 (SX.S a).length := HT.sIx_nat _ _ 1
  unfold sliceD
  simp only [if_pos f, cutS, HT.sIx_none, e]
  congr 3
  rw [SX.S_len]
  cases a with
  | nil => simp
  | cons x r => simp [List.take_of_length_le]
theorem lit_minus : Str.ofString "-" = SX.S [45] := by decide +kernel
theorem lit_zero : Str.ofString "0" = SX.S [48] := by decide +kernel
theorem lit_blank : Str.ofString " " = SX.S [32] := by decide +kernel
theorem lit_comma : Str.ofString ", " = SX.S [44, 32] := by decide +kernel
theorem lit_none : Str.ofString "none" = SX.S [110, 111, 110, 101] := by decide +kernel
theorem lit_store : Str.ofString "store" = SX.S [115, 116, 111, 114, 101] := by decide +kernel
theorem lit_flush : Str.ofString "flush" = SX.S [102, 108, 117, 115, 104] := by decide +kernel
theorem lit_fence : Str.ofString "fence" = SX.S [102, 101, 110, 99, 101] := by decide +kernel
theorem lit_storeb : Str.ofString "store " = SX.S [115, 116, 111, 114, 101, 32] := by decide +kernel
theorem lit_flushb : Str.ofString "flush " = SX.S [102, 108, 117, 115, 104, 32] := by decide +kernel
theorem lit_figs : (Str.ofString "0123456789").cps.toList = [48, 49, 50, 51, 52, 53, 54, 55, 56, 57] := by decide +kernel
theorem in_figs (c : Nat) (h : 48 ≤ c ∧ c ≤ 57) (cs : List Cell) : inC [] 20 false (.str ⟨#[c]⟩) (.str (Str.ofString "0123456789")) cs = .ok (.bl true) cs := by
  show Out.ok (D.bl (if false = true then !decide (c ∈ (Str.ofString "0123456789").cps.toList) else decide (c ∈ (Str.ofString "0123456789").cps.toList))) cs = _
  rw [lit_figs]
  have : c ∈ [48, 49, 50, 51, 52, 53, 54, 55, 56, 57] := by
    simp only [List.mem_cons, List.not_mem_nil, or_false]
    omega
  simp [this]
theorem bls_true {α : Type} : ∀ xs : List α, blsD (xs.map fun _ => D.bl true) = some (xs.map fun _ => true)
  | [] => rfl
  | x :: xs => by
    show (blsD (xs.map fun _ => D.bl true)).map (true :: ·) = _
    rw [bls_true xs]; rfl
end
end DL
end

section
set_option Elab.async false
set_option linter.all false
set_option maxRecDepth 100000
/-! G1: texts cut at one sign; texts of numbers; comprehensions that may raise. -/
namespace DL
open PySem L2
open Classical
noncomputable section
def sp (c : Nat) : List Nat → List (List Nat)
  | [] => [[]]
  | x :: r => if x = c then [] :: sp c r else match sp c r with
    | p :: ps => (x :: p) :: ps
    | [] => [[x]]
theorem sp_cons (c : Nat) : ∀ t, ∃ p ps, sp c t = p :: ps
  | [] => ⟨[], [], rfl⟩
  | x :: r => by
    unfold sp
    split
    · exact ⟨_, _, rfl⟩
    · obtain ⟨p, ps, e⟩ := sp_cons c r
      rw [e]; exact ⟨_, _, rfl⟩
theorem pre1 (c x : Nat) (r : List Nat) : TL.pre [c] (x :: r) = decide (x = c) := by
  unfold TL.pre
  show (((x :: r).take 1) == [c]) = _
  rw [show (x :: r).take 1 = [x] by simp]
  by_cases h : x = c
  · subst h; simp
  · simp [h]
def glue (acc : List Nat) : List (List Nat) → List (List Nat)
  | p :: ps => (acc ++ p) :: ps
  | [] => [acc]
theorem spl_sp (c : Nat) : ∀ (t acc : List Nat), TL.spl [c] 0 acc t = glue acc (sp c t)
  | [], acc => by rw [TL.spl_nil]; simp [sp, glue]
  | x :: r, acc => by
    by_cases h : x = c
    · rw [TL.spl_hit (by rw [pre1]; simp [h])]
      show acc :: TL.spl [c] 0 [] r = _
      rw [spl_sp c r []]
      rw [sp, if_pos h]
      obtain ⟨p, ps, e⟩ := sp_cons c r
      rw [e]; simp [glue]
    · rw [TL.spl_miss (by rw [pre1]; simp [h]), spl_sp c r (acc ++ [x])]
      rw [sp, if_neg h]
      obtain ⟨p, ps, e⟩ := sp_cons c r
      rw [e]; simp [glue]
theorem par_sp (c : Nat) : ∀ (t acc : List Nat), TL.par [c] acc t = match sp c t with
    | p :: q :: ps => some (acc ++ p, TL.joinL [c] (q :: ps))
    | _ => none
  | [], acc => by unfold TL.par; rfl
  | x :: r, acc => by
    unfold TL.par
    by_cases h : x = c
    · rw [if_pos (by rw [pre1]; simp [h])]
      rw [sp, if_pos h]
      obtain ⟨p, ps, e⟩ := sp_cons c r
      rw [e]
      show some (acc, r) = some (acc ++ [], TL.joinL [c] (p :: ps))
      have hj : ∀ t, TL.joinL [c] (sp c t) = t := by
        intro t
        induction t with
        | nil => rfl
        | cons y t ih =>
          by_cases hy : y = c
          · rw [sp, if_pos hy]
            obtain ⟨p, ps, e⟩ := sp_cons c t
            rw [e] at ih ⊢
            show [] ++ ([c] ++ TL.joinL [c] (p :: ps)) = _
            rw [ih, hy]; rfl
          · rw [sp, if_neg hy]
            obtain ⟨p, ps, e⟩ := sp_cons c t
            rw [e] at ih ⊢
            cases ps with
            | nil => show y :: p = y :: t; rw [show p = t from ih]
            | cons q ps =>
              show y :: p ++ ([c] ++ TL.joinL [c] (q :: ps)) = _
              have ih : p ++ ([c] ++ TL.joinL [c] (q :: ps)) = t := ih
              rw [← ih]; rfl
      rw [← e, hj, List.append_nil]
    · rw [if_neg (by rw [pre1]; simp [h]), par_sp c r (acc ++ [x])]
      rw [sp, if_neg h]
      obtain ⟨p, ps, e⟩ := sp_cons c r
      rw [e]
      cases ps with
      | nil => rfl
      | cons q ps => simp
theorem sp_free (c : Nat) : ∀ t, ∀ p ∈ sp c t, c ∉ p
  | [], p, h => by simp [sp] at h; subst h; simp
  | x :: r, p, h => by
    unfold sp at h
    split at h
    · rcases List.mem_cons.mp h with h | h
      · subst h; simp
      · exact sp_free c r p h
    · rename_i hx
      have ih := sp_free c r
      obtain ⟨q, ps, e⟩ := sp_cons c r
      rw [e] at h ih
      rcases List.mem_cons.mp h with h | h
      · subst h
        intro z
        rcases List.mem_cons.mp z with z | z
        · exact hx z.symm
        · exact ih q List.mem_cons_self z
      · exact ih p (List.mem_cons_of_mem _ h)
theorem sp_mem (c d : Nat) (hd : d ≠ c) : ∀ t, d ∈ t → ∃ p ∈ sp c t, d ∈ p
  | [], h => nomatch h
  | x :: r, h => by
    obtain ⟨q, ps, e⟩ := sp_cons c r
    unfold sp
    rcases List.mem_cons.mp h with h | h
    · subst h
      rw [if_neg hd, e]
      exact ⟨_, List.mem_cons_self, List.mem_cons_self⟩
    · obtain ⟨p, h1, h2⟩ := sp_mem c d hd r h
      split
      · exact ⟨p, List.mem_cons_of_mem _ h1, h2⟩
      · rw [e] at h1 ⊢
        rcases List.mem_cons.mp h1 with h1 | h1
        · subst h1; exact ⟨_, List.mem_cons_self, List.mem_cons_of_mem _ h2⟩
        · exact ⟨p, List.mem_cons_of_mem _ h1, h2⟩
theorem sp_sub (c : Nat) : ∀ t, ∀ p ∈ sp c t, p.length ≤ t.length
  | [], p, h => by simp [sp] at h; subst h; simp
  | x :: r, p, h => by
    have ih := sp_sub c r
    obtain ⟨q, ps, e⟩ := sp_cons c r
    unfold sp at h
    split at h
    · rcases List.mem_cons.mp h with h | h
      · subst h; simp
      · have := ih p h; simp; omega
    · rw [e] at h ih
      rcases List.mem_cons.mp h with h | h
      · subst h; have := ih q List.mem_cons_self; simp; omega
      · have := ih p (List.mem_cons_of_mem _ h); simp; omega
theorem sp_len (c : Nat) : ∀ t, (sp c t).length = t.count c + 1
  | [] => rfl
  | x :: r => by
    have ih := sp_len c r
    obtain ⟨q, ps, e⟩ := sp_cons c r
    unfold sp
    split
    · rename_i h; subst h; simp [ih]
    · rename_i h
      rw [e] at ih ⊢
      simp [h] at ih ⊢
      omega
theorem sp_none {c : Nat} : ∀ {t}, c ∉ t → sp c t = [t]
  | [], _ => rfl
  | x :: r, h => by
    have hx : ¬ x = c := fun z => h (by rw [z]; exact List.mem_cons_self)
    have ih : sp c r = [r] := sp_none fun z => h (List.mem_cons_of_mem _ z)
    rw [sp, if_neg hx, ih]
theorem sp_app {c : Nat} : ∀ {p : List Nat} (r : List Nat), c ∉ p → sp c (p ++ c :: r) = p :: sp c r
  | [], r, _ => by show sp c (c :: r) = _; rw [sp, if_pos rfl]
  | x :: p, r, h => by
    have hx : ¬ x = c := fun z => h (by rw [z]; exact List.mem_cons_self)
    have ih := sp_app (p := p) r fun z => h (List.mem_cons_of_mem _ z)
    show sp c (x :: (p ++ c :: r)) = _
    rw [sp, if_neg hx, ih]
theorem sp_join {c : Nat} : ∀ {ps : List (List Nat)}, ps ≠ [] → (∀ p ∈ ps, c ∉ p) → sp c (TL.joinL [c] ps) = ps
  | [], h, _ => absurd rfl h
  | [p], _, h => sp_none (h p List.mem_cons_self)
  | p :: q :: ps, _, h => by
    show sp c (p ++ ([c] ++ TL.joinL [c] (q :: ps))) = _
    show sp c (p ++ c :: TL.joinL [c] (q :: ps)) = _
    rw [sp_app _ (h p List.mem_cons_self), sp_join (by simp) fun x hx => h x (List.mem_cons_of_mem _ hx)]
theorem split1 (c : Nat) (t : List Nat) (cs : List Cell) (hc : c < 256) (h : t.length ≤ 100000) : splitD (SX.S t) (.str (SX.S [c])) cs = .ok (.lst ((sp c t).map fun p => .str (SX.S p))) cs := by
  have f : fits ((SX.S t).length + 2) := fits_of (by rw [SX.S_len]; omega)
  have e1 : ((SX.S [c]).length == 0) = false := by rw [SX.S_len]; rfl
  unfold splitD
  simp only [e1, f, and_self, if_true]
  rw [SX.split_S (by simp) (by simpa using hc), spl_sp]
  obtain ⟨p, ps, e⟩ := sp_cons c t
  rw [e]
  simp [glue, Function.comp_def]
theorem part1 (c : Nat) (t : List Nat) (cs : List Cell) (h : t.length ≤ 100000) : partD (SX.S t) (.str (SX.S [c])) cs = .ok (match sp c t with
    | p :: q :: ps => .tup [.str (SX.S p), .str (SX.S [c]), .str (SX.S (TL.joinL [c] (q :: ps)))]
    | _ => .tup [.str (SX.S t), .str (SX.S []), .str (SX.S [])]) cs := by
  have f : fits (SX.S t).length := fits_of (by rw [SX.S_len]; omega)
  have e1 : ((SX.S [c]).length == 0) = false := by rw [SX.S_len]; rfl
  have ep := par_sp c t []
  unfold partD
  simp only [e1, f, and_self, if_true]
  obtain ⟨p, ps, e⟩ := sp_cons c t
  rw [e] at ep ⊢
  cases ps with
  | nil => rw [SX.partition_none (by simp) ep]
  | cons q ps => rw [SX.partition_some (by simp) ep]; simp
/-! ### texts of numbers -/
def figs (t : List Nat) : List Nat := if t.take 1 = [45] then t.drop 1 else t
def isNum (t : List Nat) : Bool := decide (1 ≤ (figs t).length ∧ (figs t).length ≤ 31) && ((figs t).all fun c => decide (48 ≤ c ∧ c ≤ 57)) && (decide (t = [48]) || !decide ((figs t).take 1 = [48]))
def valZ (t : List Nat) : Int := if t.take 1 = [45] then -(NumText.digitsVal (t.drop 1) : Int) else (NumText.digitsVal t : Int)
theorem dv_snoc (l : List Nat) (c : Nat) : NumText.digitsVal (l ++ [c]) = NumText.digitsVal l * 10 + (c - 48) := by
  unfold NumText.digitsVal; rw [List.foldl_append]; rfl
theorem dv_pos : ∀ (n : Nat) (l : List Nat), l.length = n → (∀ c ∈ l, 48 ≤ c ∧ c ≤ 57) → l ≠ [] → l.take 1 ≠ [48] → 1 ≤ NumText.digitsVal l ∧ TL.numL (NumText.digitsVal l) = l := by
  intro n
  induction n with
  | zero => intro l h _ hn; exact absurd (List.length_eq_zero_iff.mp h) hn
  | succ n ih =>
    intro l hl hd hn h0
    obtain ⟨r, c, rfl⟩ : ∃ r c, l = r ++ [c] := ⟨l.dropLast, l.getLast hn, (List.dropLast_concat_getLast hn).symm⟩
    have hc := hd c (by simp)
    rw [dv_snoc]
    by_cases hr : r = []
    · subst hr
      have : c ≠ 48 := fun z => h0 (by simp [z])
      have e0 : NumText.digitsVal [] = 0 := rfl
      rw [e0, Nat.zero_mul, Nat.zero_add]
      refine ⟨by omega, ?_⟩
      rw [TL.numL_lt (by omega)]
      simp; omega
    · obtain ⟨p1, p2⟩ := ih r (by simpa using hl) (fun x hx => hd x (by simp [hx])) hr (fun z => h0 (by
        cases r with
        | nil => exact absurd rfl hr
        | cons y r => simpa using z))
      refine ⟨by omega, ?_⟩
      rw [TL.numL_step (by omega)]
      have a1 : (NumText.digitsVal r * 10 + (c - 48)) / 10 = NumText.digitsVal r := by omega
      have a2 : (NumText.digitsVal r * 10 + (c - 48)) % 10 = c - 48 := by omega
      rw [a1, a2, p2]
      congr 2
      omega
theorem dv_lt : ∀ (l : List Nat), (∀ c ∈ l, 48 ≤ c ∧ c ≤ 57) → NumText.digitsVal l < 10 ^ l.length := by
  intro l
  generalize hn : l.length = n
  induction n generalizing l with
  | zero => intro _; rw [List.length_eq_zero_iff.mp hn]; decide
  | succ n ih =>
    intro hd
    have hne : l ≠ [] := by intro z; subst z; simp at hn
    obtain ⟨r, c, rfl⟩ : ∃ r c, l = r ++ [c] := ⟨l.dropLast, l.getLast hne, (List.dropLast_concat_getLast hne).symm⟩
    have hc := hd c (by simp)
    have := ih r (by simpa using hn) fun x hx => hd x (by simp [hx])
    rw [dv_snoc, Nat.pow_succ]
    omega
theorem isNum_small {t : List Nat} (h : isNum t = true) : small (valZ t) ∧ t = numZ (valZ t) := by
  unfold isNum at h
  simp only [Bool.and_eq_true, Bool.or_eq_true, decide_eq_true_eq, Bool.not_eq_true', decide_eq_false_iff_not, List.all_eq_true] at h
  obtain ⟨⟨⟨l1, l2⟩, hd⟩, h0⟩ := h
  have hlt := dv_lt (figs t) hd
  have hb : NumText.digitsVal (figs t) < 10 ^ 31 := Nat.lt_of_lt_of_le hlt (Nat.pow_le_pow_right (by decide) l2)
  have e31 : (10 : Nat) ^ 31 = 10000000000000000000000000000000 := by decide
  rw [e31] at hb
  unfold figs at l1 l2 hd h0 hb
  unfold valZ
  by_cases ht : t.take 1 = [45]
  · rw [if_pos ht] at l1 l2 hd h0 hb ⊢
    have hne : t.drop 1 ≠ [] := by intro z; rw [z] at l1; simp at l1
    have hz : (t.drop 1).take 1 ≠ [48] := by
      rcases h0 with h0 | h0
      · rw [h0] at ht; simp at ht
      · exact h0
    obtain ⟨p1, p2⟩ := dv_pos _ _ rfl hd hne hz
    refine ⟨by unfold small; omega, ?_⟩
    unfold numZ
    rw [if_pos (by omega)]
    have : (-(NumText.digitsVal (t.drop 1) : Int)).natAbs = NumText.digitsVal (t.drop 1) := by omega
    rw [this, p2]
    cases t with
    | nil => simp at ht
    | cons x r => simp at ht; subst ht; rfl
  · rw [if_neg ht] at l1 l2 hd h0 hb ⊢
    refine ⟨by unfold small; omega, ?_⟩
    unfold numZ
    rw [if_neg (by omega)]
    have : ((NumText.digitsVal t : Int)).natAbs = NumText.digitsVal t := by omega
    rw [this]
    rcases h0 with h0 | h0
    · subst h0; decide +kernel
    · exact (dv_pos _ _ rfl hd (by intro z; rw [z] at l1; simp at l1) h0).2.symm
theorem numZ_isNum {z : Int} (h : small z) : isNum (numZ z) = true ∧ valZ (numZ z) = z := by
  obtain ⟨l1, l2⟩ := numL_len31 h
  have hd : ∀ c ∈ TL.numL z.natAbs, 48 ≤ c ∧ c ≤ 57 := TL.numL_digits _
  have hh : z.natAbs = 0 → TL.numL z.natAbs = [48] := fun e => by rw [e]; decide +kernel
  have hv : NumText.digitsVal (TL.numL z.natAbs) = z.natAbs := TL.numL_val _
  obtain ⟨x, r, e⟩ : ∃ x r, TL.numL z.natAbs = x :: r := by
    cases he : TL.numL z.natAbs with
    | nil => rw [he] at l1; simp at l1
    | cons x r => exact ⟨x, r, rfl⟩
  have hx := hd x (by rw [e]; simp)
  have h48 : z.natAbs ≠ 0 → x ≠ 48 := fun hn => numL_head hn e
  rw [e] at l1 l2 hd hv hh
  unfold numZ
  by_cases hz : z < 0
  · rw [if_pos hz, e]
    have hx0 := h48 (by omega)
    refine ⟨?_, ?_⟩
    · unfold isNum figs
      simp only [List.take_succ_cons, List.take_zero, if_true, List.drop_succ_cons, List.drop_zero, Bool.and_eq_true, Bool.or_eq_true, decide_eq_true_eq, Bool.not_eq_true', decide_eq_false_iff_not, List.all_eq_true]
      exact ⟨⟨⟨l1, l2⟩, hd⟩, .inr (by simpa using hx0)⟩
    · unfold valZ
      simp only [List.take_succ_cons, List.take_zero, if_true, List.drop_succ_cons, List.drop_zero, hv]
      omega
  · rw [if_neg hz, e]
    have hne : ¬ x = 45 := by omega
    refine ⟨?_, ?_⟩
    · unfold isNum figs
      simp only [List.take_succ_cons, List.take_zero, List.cons.injEq, hne, false_and, if_false, Bool.and_eq_true, Bool.or_eq_true, decide_eq_true_eq, Bool.not_eq_true', decide_eq_false_iff_not, List.all_eq_true, and_true]
      refine ⟨⟨⟨l1, l2⟩, hd⟩, ?_⟩
      by_cases h0 : z.natAbs = 0
      · exact .inl (by have := hh h0; simpa using this)
      · exact .inr (by have := h48 h0; omega)
    · unfold valZ
      simp only [List.take_succ_cons, List.take_zero, List.cons.injEq, hne, false_and, if_false, hv]
      omega
theorem isNum_chars {t : List Nat} (h : isNum t = true) : ∀ c ∈ t, c = 45 ∨ (48 ≤ c ∧ c ≤ 57) := by
  unfold isNum at h
  simp only [Bool.and_eq_true, List.all_eq_true, decide_eq_true_eq] at h
  have hd := h.1.2
  unfold figs at hd
  intro c hc
  by_cases ht : t.take 1 = [45]
  · rw [if_pos ht] at hd
    cases t with
    | nil => cases hc
    | cons x r =>
      simp at ht hd
      rcases List.mem_cons.mp hc with e | e
      · left; rw [e]; exact ht
      · right; exact hd c e
  · rw [if_neg ht] at hd
    right; exact hd c hc
/-! ### comprehensions that may raise -/
theorem lcR_map {α : Type} {chk : List Cell → Prop} {g : GDen} {h : Den D} {env : DL.Env} {cs : List Cell} {en ψ : α → D} : ∀ (xs : List α) (acc : List D), (∀ acc, chk (cs ++ [.lst acc])) → acc.length + xs.length ≤ 1000000 →
    (∀ x ∈ xs, ∀ acc, ∃ env', g (en x) env (cs ++ [.lst acc]) = .nx env' (cs ++ [.lst acc]) ∧ h env' (cs ++ [.lst acc]) = .ok (ψ x) (cs ++ [.lst acc])) →
    lcR chk g pYes h cs.length env (xs.map en) (cs ++ [.lst acc]) = .ok () (cs ++ [.lst (acc ++ xs.map ψ)])
  | [], acc, hc, _, _ => by
    show lcR chk g pYes h cs.length env [] _ = _
    unfold lcR; rw [if_pos (hc acc)]; simp
  | x :: xs, acc, hc, hn, he => by
    obtain ⟨env', h1, h2⟩ := he x List.mem_cons_self acc
    have ih := lcR_map (en := en) (ψ := ψ) xs (acc ++ [ψ x]) hc (by simp at hn ⊢; omega) fun y hy => he y (List.mem_cons_of_mem _ hy)
    have hf : fitsL acc.length := fitsL_of (by simp at hn; omega)
    show lcR chk g pYes h cs.length env (en x :: xs.map en) _ = _
    rw [lcR]
    simp only [if_pos (hc acc), h1, h2, pYes, trim_self, end_get, if_pos hf, end_set, if_true]
    rw [ih]
    simp
/-- all elements are made -/
theorem lcR_ok {α : Type} {vs : List Nat} {f : Den ItV} {g : GDen} {h : Den D} {env : DL.Env} {cs : List Cell} (xs : List α) (en ψ : α → D) {chk : List Cell → Prop} (hf : f env cs = .ok ⟨xs.map en, chk⟩ cs) (hc : ∀ acc, chk (cs ++ [.lst acc])) (hn : xs.length ≤ 1000000)
    (he : ∀ x ∈ xs, ∀ acc, ∃ env', g (en x) (wipeE env vs) (cs ++ [.lst acc]) = .nx env' (cs ++ [.lst acc]) ∧ h env' (cs ++ [.lst acc]) = .ok (ψ x) (cs ++ [.lst acc])) (hl : D.ltL cs.length (xs.map ψ) = true) :
    dTr (dFrz (dLcR vs f g pYes h)) env cs = .ok (.lst (xs.map ψ)) cs := by
  have e := lcR_map (env := wipeE env vs) (en := en) (ψ := ψ) xs [] hc (by simpa using hn) he
  unfold dTr dFrz dLcR
  simp only [hf, Out.bind, e, List.nil_append, cOut, end_get, end_set]
  rw [show D.lt cs.length (.lst (xs.map ψ)) = D.ltL cs.length (xs.map ψ) from rfl, hl, trim_app]
/-- the first bad element raises -/
theorem lcR_exn {α : Type} {vs : List Nat} {f : Den ItV} {g : GDen} {h : Den D} {env : DL.Env} {cs : List Cell} (xs : List α) (z : α) (zs : List α) (en ψ : α → D) {chk : List Cell → Prop} {c : Nat} {ks : List Nat} {fs : List D} (hf : f env cs = .ok ⟨(xs ++ z :: zs).map en, chk⟩ cs) (hc : ∀ acc, chk (cs ++ [.lst acc])) (hn : xs.length ≤ 1000000)
    (he : ∀ x ∈ xs, ∀ acc, ∃ env', g (en x) (wipeE env vs) (cs ++ [.lst acc]) = .nx env' (cs ++ [.lst acc]) ∧ h env' (cs ++ [.lst acc]) = .ok (ψ x) (cs ++ [.lst acc]))
    (hz : ∀ acc, ∃ env', g (en z) (wipeE env vs) (cs ++ [.lst acc]) = .nx env' (cs ++ [.lst acc]) ∧ h env' (cs ++ [.lst acc]) = .exn c ks fs (cs ++ [.lst acc])) (hl : D.ltL cs.length fs = true) :
    dTr (dFrz (dLcR vs f g pYes h)) env cs = .exn c ks fs cs := by
  have key : ∀ (xs : List α) (acc : List D), acc.length + xs.length ≤ 1000000 → (∀ x ∈ xs, ∀ acc, ∃ env', g (en x) (wipeE env vs) (cs ++ [.lst acc]) = .nx env' (cs ++ [.lst acc]) ∧ h env' (cs ++ [.lst acc]) = .ok (ψ x) (cs ++ [.lst acc])) →
      ∃ acc', lcR chk g pYes h cs.length (wipeE env vs) ((xs ++ z :: zs).map en) (cs ++ [.lst acc]) = .exn c ks fs (cs ++ [.lst acc']) := by
    intro xs
    induction xs with
    | nil =>
      intro acc _ _
      obtain ⟨env', h1, h2⟩ := hz acc
      refine ⟨acc, ?_⟩
      show lcR chk g pYes h cs.length _ (en z :: zs.map en) _ = _
      rw [lcR]
      simp only [if_pos (hc acc), h1, h2, pYes, if_true]
    | cons x xs ih =>
      intro acc hn he
      obtain ⟨env', h1, h2⟩ := he x List.mem_cons_self acc
      obtain ⟨acc', e⟩ := ih (acc ++ [ψ x]) (by simp at hn ⊢; omega) fun y hy => he y (List.mem_cons_of_mem _ hy)
      have hf : fitsL acc.length := fitsL_of (by simp at hn; omega)
      refine ⟨acc', ?_⟩
      show lcR chk g pYes h cs.length _ (en x :: (xs ++ z :: zs).map en) _ = _
      rw [lcR]
      simp only [if_pos (hc acc), h1, h2, pYes, trim_self, end_get, if_pos hf, end_set, if_true]
      exact e
  obtain ⟨acc', e⟩ := key xs [] (by simpa using hn) he
  unfold dTr dFrz dLcR
  simp only [hf, Out.bind, e, cOut, hl, trim_app]
end
end DL
end

section
set_option Elab.async false
set_option linter.all false
set_option maxRecDepth 100000
/-! G2: comprehensions with a test; figures. -/
namespace DL
open PySem L2
open Classical
noncomputable section
theorem lcL_filt {α : Type} {chk : List Cell → Prop} {g : GDen} {p : Den Bool} {h : Den D} {env : DL.Env} {cs : List Cell} {en ψ : α → D} {β : α → Bool} : ∀ (xs : List α) (acc : List D), (∀ acc, chk (cs ++ [.lst acc])) → acc.length + xs.length ≤ 1000000 →
    (∀ x ∈ xs, ∀ acc, ∃ env', g (en x) env (cs ++ [.lst acc]) = .nx env' (cs ++ [.lst acc]) ∧ p env' (cs ++ [.lst acc]) = .ok (β x) (cs ++ [.lst acc]) ∧ (β x = true → h env' (cs ++ [.lst acc]) = .ok (ψ x) (cs ++ [.lst acc]))) →
    lcL chk g p h cs.length env (xs.map en) (cs ++ [.lst acc]) = .ok () (cs ++ [.lst (acc ++ (xs.filter β).map ψ)])
  | [], acc, hc, _, _ => by
    show lcL chk g p h cs.length env [] _ = _
    unfold lcL; rw [if_pos (hc acc)]; simp
  | x :: xs, acc, hc, hn, he => by
    obtain ⟨env', h1, h2, h3⟩ := he x List.mem_cons_self acc
    have hf : fitsL acc.length := fitsL_of (by simp at hn; omega)
    show lcL chk g p h cs.length env (en x :: xs.map en) _ = _
    rw [lcL]
    cases hb : β x with
    | true =>
      have ih := lcL_filt (en := en) (ψ := ψ) (β := β) xs (acc ++ [ψ x]) hc (by simp at hn ⊢; omega) fun y hy => he y (List.mem_cons_of_mem _ hy)
      rw [hb] at h2
      simp only [if_pos (hc acc), h1, h2, h3 hb, trim_self, end_get, if_pos hf, end_set, if_true]
      rw [ih]
      simp [List.filter_cons, hb]
    | false =>
      have ih := lcL_filt (en := en) (ψ := ψ) (β := β) xs acc hc (by simp at hn ⊢; omega) fun y hy => he y (List.mem_cons_of_mem _ hy)
      rw [hb] at h2
      simp only [if_pos (hc acc), h1, h2, Bool.false_eq_true, if_false]
      rw [ih]
      simp [List.filter_cons, hb]
theorem lc_filt {α : Type} {vs : List Nat} {f : Den ItV} {g : GDen} {p : Den Bool} {h : Den D} {env : DL.Env} {cs : List Cell} (xs : List α) (en ψ : α → D) (β : α → Bool) {chk : List Cell → Prop} (hf : f env cs = .ok ⟨xs.map en, chk⟩ cs) (hc : ∀ acc, chk (cs ++ [.lst acc])) (hn : xs.length ≤ 1000000)
    (he : ∀ x ∈ xs, ∀ acc, ∃ env', g (en x) (wipeE env vs) (cs ++ [.lst acc]) = .nx env' (cs ++ [.lst acc]) ∧ p env' (cs ++ [.lst acc]) = .ok (β x) (cs ++ [.lst acc]) ∧ (β x = true → h env' (cs ++ [.lst acc]) = .ok (ψ x) (cs ++ [.lst acc]))) (hl : ∀ n, ∀ x ∈ xs, D.lt n (ψ x) = true) :
    dLc vs f g p h env cs = .ok (.lst ((xs.filter β).map ψ)) cs := by
  have e := lcL_filt (env := wipeE env vs) (en := en) (ψ := ψ) (β := β) xs [] hc (by simpa using hn) he
  unfold dLc dTr dFrz dLcC
  simp only [hf, Out.bind, e, List.nil_append, end_get, end_set]
  rw [show D.lt cs.length (.lst ((xs.filter β).map ψ)) = D.ltL cs.length ((xs.filter β).map ψ) from rfl, ltL_map (fun x hx => hl _ x (List.mem_filter.mp hx).1), trim_app]
def dig (c : Nat) : Bool := decide (48 ≤ c ∧ c ≤ 57)
theorem in_figsB (neg : Bool) (c : Nat) (cs : List Cell) : inC [] 20 neg (.str ⟨#[c]⟩) (.str (Str.ofString "0123456789")) cs = .ok (.bl (if neg then !dig c else dig c)) cs := by
  show Out.ok (D.bl (if neg = true then !decide (c ∈ (Str.ofString "0123456789").cps.toList) else decide (c ∈ (Str.ofString "0123456789").cps.toList))) cs = _
  rw [lit_figs]
  have : (decide (c ∈ [48, 49, 50, 51, 52, 53, 54, 55, 56, 57])) = dig c := by
    unfold dig
    apply decide_eq_decide.mpr
    simp only [List.mem_cons, List.not_mem_nil, or_false]
    omega
  rw [this]
theorem bls_map {α : Type} (f : α → Bool) : ∀ xs : List α, blsD (xs.map fun x => D.bl (f x)) = some (xs.map f)
  | [] => rfl
  | x :: xs => by
    show (blsD (xs.map fun x => D.bl (f x))).map (f x :: ·) = _
    rw [bls_map f xs]; rfl
/-- the figures of a text -/
theorem figs_den {t : List Nat} (ht : t.length ≤ 100000) {env : DL.Env} {cs : List Cell} (h : env[0]? = some (some (.str (SX.S t)))) :
    dIf (qB (d2 (dSl (dVar 0) oNone (oSome (dC (.int 1)))) (dC (.str "-")) (eqC [] 20))) (dSl (dVar 0) (oSome (dC (.int 1))) oNone) (dVar 0) env cs = .ok (.str (SX.S (figs t))) cs := by
  simp only [dIf, qB, d2, dSl, dVar, dC, oNone, oSome, asI, Out.bind, h, cut_to _ _ ht, cut_from _ _ ht, lit_minus, eqS]
  unfold figs
  by_cases hz : t.take 1 = [45]
  · simp [hz]
  · simp [hz]
theorem figs_len (t : List Nat) : (figs t).length ≤ t.length := by
  unfold figs
  split <;> simp
theorem ix0 (c : Nat) (r : List Nat) (cs : List Cell) (h : r.length ≤ 100000) : ixD (.str (SX.S (c :: r))) (.int 0) cs = .ok (.str (SX.S [c])) cs := by
  have f : fits (SX.S (c :: r)).length := fits_of (by rw [SX.S_len]; simp; omega)
  have e : L2.atI (SX.S (c :: r)).cps.toList 0 = some c := atI_nat (n := 0) rfl
  unfold ixD asI
  simp only [e, if_pos f]
theorem lit_eq : Str.ofString "=" = SX.S [61] := by decide +kernel
theorem lit_dot : Str.ofString "." = SX.S [46] := by decide +kernel
theorem lit_slash : Str.ofString "/" = SX.S [47] := by decide +kernel
theorem lit_empty : Str.ofString "" = SX.S [] := by decide +kernel
theorem lst_ne_nil {h : Nat} (xs : List D) (cs : List Cell) (hk : D.okL [] xs h = true) : neC [] (h + 1) (.lst xs) (.lst []) cs = .ok (.bl (!xs.isEmpty)) cs := by
  have e1 : D.okE [] (.lst xs) (h + 1) = true := by unfold D.okE; exact hk
  have e2 : D.okE [] (.lst []) (h + 1) = true := by unfold D.okE; exact okL_nil
  have e3 : eqD (.lst xs) (.lst []) = some xs.isEmpty := by
    unfold eqD
    cases xs <;> rfl
  unfold neC
  simp only [resL, e1, e2, Bool.and_self, if_true, e3]
theorem lst_eq_nil {h : Nat} (xs : List D) (cs : List Cell) (hk : D.okL [] xs h = true) : eqC [] (h + 1) (.lst xs) (.lst []) cs = .ok (.bl xs.isEmpty) cs := by
  have e1 : D.okE [] (.lst xs) (h + 1) = true := by unfold D.okE; exact hk
  have e2 : D.okE [] (.lst []) (h + 1) = true := by unfold D.okE; exact okL_nil
  have e3 : eqD (.lst xs) (.lst []) = some xs.isEmpty := by
    unfold eqD
    cases xs <;> rfl
  unfold eqC
  simp only [resL, e1, e2, Bool.and_self, if_true, e3]
theorem okL_strs {ob : List Nat} {n : Nat} {α : Type} (f : α → PySem.Str) : ∀ xs : List α, D.okL ob (xs.map fun x => D.str (f x)) n = true
  | [] => okL_nil
  | x :: xs => by
    show D.okL ob (.str (f x) :: xs.map fun x => D.str (f x)) n = true
    unfold D.okL
    rw [okL_strs f xs]
    simp [D.okE]
theorem filt_all {α : Type} (f : α → Bool) : ∀ xs : List α, (xs.filter fun x => !f x).isEmpty = xs.all f
  | [] => rfl
  | x :: xs => by
    rw [List.filter_cons, List.all_cons]
    cases h : f x with
    | true => simp; exact filt_all f xs
    | false => simp
theorem isEmpty_map {α β : Type} (f : α → β) (xs : List α) : (xs.map f).isEmpty = xs.isEmpty := by cases xs <;> rfl
end
end DL
namespace DL
open PySem L2
open Classical
noncomputable section
/-! ### texts joined and cut -/
theorem catS (a b : List Nat) (cs : List Cell) (h : a.length + b.length ≤ 1000000) : addD (.str (SX.S a)) (.str (SX.S b)) cs = .ok (.str (SX.S (a ++ b))) cs := by
  have f : fits ((SX.S a).length + (SX.S b).length) := fits_of (by rw [SX.S_len, SX.S_len]; exact h)
  unfold addD
  simp only [both, asI, asS, if_pos f, SX.S_cat]
theorem cutTo (a : List Nat) (i : Nat) (cs : List Cell) (h : a.length ≤ 100000) : sliceD (.str (SX.S a)) none (some (i : Int)) cs = .ok (.str (SX.S (a.take i))) cs := by
  have f : fits (SX.S a).length := fits_of (by rw [SX.S_len]; omega)
  have e := HT.sIx_nat (SX.S a).length (SX.S a).length i
  unfold sliceD
  simp only [if_pos f, cutS, HT.sIx_none, e, List.drop_zero, Nat.sub_zero]
  congr 3
  rw [SX.S_len]
  rcases Nat.le_total i a.length with q | q
  · rw [Nat.min_eq_left q]
  · rw [Nat.min_eq_right q, List.take_of_length_le (Nat.le_refl _), List.take_of_length_le q]
theorem cutFrom (a : List Nat) (i : Nat) (cs : List Cell) (h : a.length ≤ 100000) : sliceD (.str (SX.S a)) (some (i : Int)) none cs = .ok (.str (SX.S (a.drop i))) cs := by
  have f : fits (SX.S a).length := fits_of (by rw [SX.S_len]; omega)
  have e := HT.sIx_nat (SX.S a).length 0 i
  unfold sliceD
  simp only [if_pos f, cutS, HT.sIx_none, e]
  congr 3
  rw [SX.S_len]
  rcases Nat.le_total i a.length with q | q
  · rw [Nat.min_eq_left q, List.take_of_length_le (by simp)]
  · rw [Nat.min_eq_right q, List.drop_of_length_le (Nat.le_refl _), List.drop_of_length_le q, List.take_nil]
theorem strS (z : Int) (h : small z) (cs : List Cell) : strD [.int z] cs = .ok (.str (SX.S (numZ z))) cs := by
  have hl : lg1920 z := lg1920_of (by
    unfold small at h
    by_cases h0 : z.natAbs = 0
    · rw [h0]; decide
    · have : z.natAbs.log2 < 104 := (Nat.log2_lt h0).mpr (Nat.lt_of_lt_of_le h (by decide))
      omega)
  unfold strD
  simp only [if_pos hl, numS_eq]
theorem rep_fold (c : Nat) : ∀ (n : Nat) (acc : Array Nat), (List.replicate n (#[c] : Array Nat)).foldl (· ++ ·) acc = acc ++ (List.replicate n c).toArray
  | 0, acc => by simp
  | n + 1, acc => by
    rw [List.replicate_succ, List.foldl_cons, rep_fold c n, List.replicate_succ]
    apply Array.toList_inj.mp
    simp
theorem mulS (c n : Nat) (cs : List Cell) (h0 : 1 < n) (h : n ≤ 100000) : mulSD (.str (SX.S [c])) (.int (n : Int)) cs = .ok (.str (SX.S (List.replicate n c))) cs := by
  have f : hi63F (n : Int) ((SX.S [c]).length * (n : Int).toNat) := hi63F_of (by omega) (by rw [SX.S_len]; simp; omega)
  unfold mulSD
  simp only
  rw [if_neg (by omega), if_neg (by rw [SX.S_len]; simp; omega), if_pos f]
  congr 3
  have e : (n : Int).toNat = n := by omega
  rw [e]
  show (List.replicate n (#[c] : Array Nat)).foldl (· ++ ·) #[] = _
  rw [rep_fold]; simp
theorem isNum_long {t : List Nat} (h : 33 ≤ t.length) : isNum t = false := by
  cases e : isNum t with
  | false => rfl
  | true =>
    obtain ⟨h1, h2⟩ := isNum_small e
    have := numZ_len h1
    rw [← h2] at this
    omega
end
end DL
end

section
set_option Elab.async false
set_option linter.all false
set_option maxRecDepth 100000
/-! G3: commands with any numbers, the errors that they raise. -/
namespace DL
open PySem L2
open Classical
noncomputable section
inductive Cz where
  | S (l w n : Int) | F (l : Int) | X
deriving DecidableEq
def Cz.ob : Cz → D
  | .S l w n => .obj 9 [.int l, .int w, .int n]
  | .F l => .obj 10 [.int l]
  | .X => .obj 11 []
def obz (r : List Cz) : List D := r.map Cz.ob
def memD (xs : List Int) : D := .obj 7 [.tup (ilist xs)]
def progZ (xs : List Int) (r : List Cz) : D := .obj 12 [memD xs, .tup (obz r)]
inductive Er where
  | ln (i : Int) | wd (i : Int) | ct (n : Int)
deriving DecidableEq
def Er.c : Er → Nat
  | .ln _ => 2 | .wd _ => 3 | .ct _ => 1
def Er.ks : Er → List Nat
  | .ln _ => [2] | .wd _ => [3] | .ct _ => [1, 0]
def Er.fs : Er → List D
  | .ln i => [.int i] | .wd i => [.int i] | .ct n => [.int n, .str "commands"]
def Er.exn {α : Type} (k : Er) (cs : List Cell) : Out α := .exn k.c k.ks k.fs cs
def lineE (xs : List Int) (l : Int) : Option Er := if 0 ≤ l ∧ l < (xs.length : Int) then none else some (.ln l)
def wordE (xs : List Int) (l w : Int) : Option Er := match lineE xs l with
  | some e => some e
  | none => if 0 ≤ w ∧ w < xs.getD l.toNat 0 then none else some (.wd w)
def Cz.err (xs : List Int) : Cz → Option Er
  | .S l w _ => wordE xs l w
  | .F l => lineE xs l
  | .X => none
def errs (xs : List Int) : List Cz → Option Er
  | [] => none
  | c :: r => match c.err xs with
    | some e => some e
    | none => errs xs r
def progErr (xs : List Int) (r : List Cz) : Option Er := if 200 < r.length then some (.ct r.length) else errs xs r
/-- an outcome: a value or an error -/
def orE {α : Type} (o : Option Er) (d : α) (cs : List Cell) : Out α := match o with
  | none => .ok d cs
  | some e => e.exn cs
theorem ltL_erfs (e : Er) (n : Nat) : D.ltL n e.fs = true := by cases e <;> rfl
theorem lt_obz (k : Cz) (n : Nat) : D.lt n k.ob = true := by cases k <;> rfl
theorem ltL_obz (r : List Cz) (n : Nat) : D.ltL n (obz r) = true := ltL_map fun x _ => lt_obz x n
theorem lt_mem (xs : List Int) (n : Nat) : D.lt n (memD xs) = true := by
  show (D.ltL n (ilist xs) && true) = true
  rw [ltL_il]; rfl
theorem lt_prog (xs : List Int) (r : List Cz) (n : Nat) : D.lt n (progZ xs r) = true := by
  show (D.lt n (memD xs) && (D.ltL n (obz r) && true)) = true
  rw [lt_mem, ltL_obz]; rfl
theorem obz_len (r : List Cz) : (obz r).length = r.length := by unfold obz; simp
theorem forL_ex {chk : List Cell → Prop} {g : GDen} {b : SDen} {x : D} {r : List D} {env env1 env2 : DL.Env} {cs cs1 cs2 : List Cell} {c : Nat} {ks : List Nat} {fs : List D} (hc : chk cs) (h1 : g x env cs = .nx env1 cs1) (h2 : b env1 cs1 = .ex c ks fs env2 cs2) :
    forL chk g b (x :: r) env cs = .ex c ks fs env2 cs2 := by
  rw [forL]; simp only [if_pos hc, h1, h2]
theorem okL_ilA {ob : List Nat} {n : Nat} : ∀ xs : List Int, D.okL ob (ilist xs) n = true
  | [] => okL_nil
  | x :: xs => by
    show D.okL ob (.int x :: ilist xs) n = true
    unfold D.okL; rw [okL_ilA xs]; simp [D.okE]
theorem eqL_refl : ∀ (n : Nat) (ob : List Nat) (xs : List D), (∀ x ∈ xs, eqD x x = some true) → eqL xs xs = some true
  | n, ob, [], _ => rfl
  | n, ob, x :: xs, h => by
    unfold eqL
    rw [h x List.mem_cons_self, eqL_refl n ob xs fun y hy => h y (List.mem_cons_of_mem _ hy)]
    rfl
mutual
/-- data without cells is equal to itself -/
theorem eq_self : ∀ (d : D) (ob : List Nat) (n : Nat), d.okE ob n = true → eqD d d = some true
  | .non, _, _, _ => rfl
  | .bl b, _, _, _ => by unfold eqD; simp
  | .int i, _, _, _ => by unfold eqD; simp
  | .str s, _, _, _ => by unfold eqD; simp
  | .tup xs, ob, n + 1, h => by unfold eqD; unfold D.okE at h; exact eqL_self xs ob n h
  | .lst xs, ob, n + 1, h => by unfold eqD; unfold D.okE at h; exact eqL_self xs ob n h
  | .obj c xs, ob, n + 2, h => by
    unfold eqD; unfold D.okE at h
    simp only [if_true]
    exact eqL_self xs ob n (Bool.and_eq_true_iff.mp h).2
  | .tup xs, _, 0, h => by unfold D.okE at h; cases h
  | .lst xs, _, 0, h => by unfold D.okE at h; cases h
  | .obj _ xs, _, 0, h => by unfold D.okE at h; cases h
  | .obj _ xs, _, 1, h => by unfold D.okE at h; cases h
  | .dic _ _, _, n, h => by unfold D.okE at h; cases h
  | .cell _, _, n, h => by unfold D.okE at h; cases h
  | .exc _ _ _, _, n, h => by unfold D.okE at h; cases h
theorem eqL_self : ∀ (ds : List D) (ob : List Nat) (n : Nat), D.okL ob ds n = true → eqL ds ds = some true
  | [], _, _, _ => rfl
  | d :: ds, ob, n, h => by
    unfold D.okL at h
    obtain ⟨h1, h2⟩ := Bool.and_eq_true_iff.mp h
    unfold eqL
    rw [eq_self d ob n h1, eqL_self ds ob n h2]
    rfl
end
theorem resL_ok0 {ob : List Nat} {n : Nat} {d : D} (h : d.okE ob n = true) (cs : List Cell) : resL cs d = d := by
  cases d <;> first | rfl | (unfold D.okE at h; cases h)
/-- == and != of a thing with itself -/
theorem eqC_self {ob : List Nat} {n : Nat} {d : D} (h : d.okE ob n = true) (cs : List Cell) : eqC ob n d d cs = .ok (.bl true) cs := by
  unfold eqC
  rw [resL_ok0 h, h, eq_self d ob n h]; rfl
theorem neC_self {ob : List Nat} {n : Nat} {d : D} (h : d.okE ob n = true) (cs : List Cell) : neC ob n d d cs = .ok (.bl false) cs := by
  unfold neC
  rw [resL_ok0 h, h, eq_self d ob n h]; rfl
theorem okE_up {ob : List Nat} : ∀ {n m : Nat}, n ≤ m → (∀ d : D, d.okE ob n = true → d.okE ob m = true) ∧ (∀ ds : List D, D.okL ob ds n = true → D.okL ob ds m = true) := by
  intro n
  induction n using Nat.strongRecOn with
  | _ n ih =>
    intro m hm
    have key : ∀ d : D, d.okE ob n = true → d.okE ob m = true := by
      intro d h
      cases d with
      | tup xs =>
        cases n with
        | zero => unfold D.okE at h; cases h
        | succ n =>
          obtain ⟨m, rfl⟩ : ∃ k, m = k + 1 := ⟨m - 1, by omega⟩
          unfold D.okE at h ⊢
          exact (ih n (by omega) (by omega)).2 xs h
      | lst xs =>
        cases n with
        | zero => unfold D.okE at h; cases h
        | succ n =>
          obtain ⟨m, rfl⟩ : ∃ k, m = k + 1 := ⟨m - 1, by omega⟩
          unfold D.okE at h ⊢
          exact (ih n (by omega) (by omega)).2 xs h
      | obj c xs =>
        rcases n with _ | _ | n
        · unfold D.okE at h; cases h
        · unfold D.okE at h; cases h
        · obtain ⟨m, rfl⟩ : ∃ k, m = k + 2 := ⟨m - 2, by omega⟩
          unfold D.okE at h ⊢
          obtain ⟨h1, h2⟩ := Bool.and_eq_true_iff.mp h
          rw [h1, (ih n (by omega) (by omega)).2 xs h2]; rfl
      | non => unfold D.okE; rfl
      | bl => unfold D.okE; rfl
      | int => unfold D.okE; rfl
      | str => unfold D.okE; rfl
      | _ => unfold D.okE at h; cases h
    refine ⟨key, fun ds => ?_⟩
    induction ds with
    | nil => intro _; exact okL_nil
    | cons d ds ihd =>
      intro h
      unfold D.okL at h ⊢
      obtain ⟨h1, h2⟩ := Bool.and_eq_true_iff.mp h
      rw [key d h1, ihd h2]; rfl
theorem okL_map {α : Type} {ob : List Nat} {n : Nat} {f : α → D} : ∀ {xs : List α}, (∀ x ∈ xs, (f x).okE ob n = true) → D.okL ob (xs.map f) n = true
  | [], _ => okL_nil
  | x :: xs, h => by
    show D.okL ob (f x :: xs.map f) n = true
    unfold D.okL
    rw [h x List.mem_cons_self, okL_map fun y hy => h y (List.mem_cons_of_mem _ hy)]; rfl
theorem okE_ob {ob : List Nat} (h9 : 9 ∈ ob) (h10 : 10 ∈ ob) (h11 : 11 ∈ ob) (c : Cz) : c.ob.okE ob 2 = true := by
  cases c <;> simp [Cz.ob, D.okE, D.okL, h9, h10, h11]
theorem okE_mem {ob : List Nat} (h7 : 7 ∈ ob) (xs : List Int) : (memD xs).okE ob 3 = true := by
  simp [memD, D.okE, D.okL, h7, okL_ilA]
theorem okE_prog {ob : List Nat} (h7 : 7 ∈ ob) (h9 : 9 ∈ ob) (h10 : 10 ∈ ob) (h11 : 11 ∈ ob) (h12 : 12 ∈ ob) (xs : List Int) (r : List Cz) : (progZ xs r).okE ob 5 = true := by
  have e1 := okE_mem (ob := ob) h7 xs
  have e2 : D.okL ob (obz r) 2 = true := okL_map fun x _ => okE_ob h9 h10 h11 x
  unfold progZ
  simp [D.okE, D.okL, h12, e1, e2]
end
end DL
end

section
set_option Elab.async false
set_option linter.all false
set_option maxRecDepth 100000
/-! G4: texts cut at a comma and a blank; commands read. -/
namespace DL
open PySem L2
open Classical
noncomputable section
theorem joinL_sp (c : Nat) : ∀ t, TL.joinL [c] (sp c t) = t := by
  intro t
  induction t with
  | nil => rfl
  | cons y t ih =>
    obtain ⟨p, ps, e⟩ := sp_cons c t
    by_cases hy : y = c
    · rw [sp, if_pos hy]
      rw [e] at ih ⊢
      show [] ++ ([c] ++ TL.joinL [c] (p :: ps)) = _
      rw [ih, hy]; rfl
    · rw [sp, if_neg hy]
      rw [e] at ih ⊢
      cases ps with
      | nil => show y :: p = y :: t; rw [show p = t from ih]
      | cons q ps =>
        show y :: p ++ ([c] ++ TL.joinL [c] (q :: ps)) = _
        have ih : p ++ ([c] ++ TL.joinL [c] (q :: ps)) = t := ih
        rw [← ih]; rfl
theorem first_bad {α : Type} (f : α → Bool) : ∀ L : List α, L.all f = false → ∃ xs z zs, L = xs ++ z :: zs ∧ (∀ x ∈ xs, f x = true) ∧ f z = false
  | [], h => by simp at h
  | x :: L, h => by
    cases hx : f x with
    | false => exact ⟨[], x, L, rfl, fun _ z => (nomatch z), hx⟩
    | true =>
      rw [List.all_cons, hx, Bool.true_and] at h
      obtain ⟨xs, z, zs, e, h1, h2⟩ := first_bad f L h
      exact ⟨x :: xs, z, zs, by rw [e]; rfl, fun y hy => by
        rcases List.mem_cons.mp hy with q | q
        · rw [q]; exact hx
        · exact h1 y q, h2⟩
theorem il_map {α : Type} (f : α → Int) (ps : List α) : (ps.map fun p => D.int (f p)) = ilist (ps.map f) := by unfold ilist; rw [List.map_map]; rfl
/-- parts of a text cut at ", " -/
def sp2 (t : List Nat) : List (List Nat) := TL.spl [44, 32] 0 [] t
theorem spl_bound (S : List Nat) (n : Nat) : ∀ (t : List Nat) (k : Nat) (acc : List Nat), acc.length + t.length ≤ n → (∀ p ∈ TL.spl S k acc t, p.length ≤ n) ∧ (TL.spl S k acc t).length ≤ t.length + 1 ∧ TL.spl S k acc t ≠ []
  | [], k, acc, h => by
    rw [TL.spl_nil]
    refine ⟨fun p hp => ?_, by simp, by simp⟩
    simp at hp; subst hp; simpa using h
  | c :: r, 0, acc, h => by
    by_cases hp : TL.pre S (c :: r) = true
    · rw [TL.spl_hit hp]
      obtain ⟨a, b, d⟩ := spl_bound S n r (S.length - 1) [] (by simp at h ⊢; omega)
      refine ⟨fun p hp => ?_, by simp; omega, by simp⟩
      rcases List.mem_cons.mp hp with q | q
      · subst q; omega
      · exact a p q
    · rw [TL.spl_miss (by simpa using hp)]
      obtain ⟨a, b, d⟩ := spl_bound S n r 0 (acc ++ [c]) (by simp at h ⊢; omega)
      exact ⟨a, by simp; omega, d⟩
  | c :: r, k + 1, acc, h => by
    show (∀ p ∈ TL.spl S k acc r, _) ∧ (TL.spl S k acc r).length ≤ _ ∧ TL.spl S k acc r ≠ []
    obtain ⟨a, b, d⟩ := spl_bound S n r k acc (by simp at h; omega)
    exact ⟨a, by simp; omega, d⟩
theorem sp2_len (t : List Nat) : (sp2 t).length ≤ t.length + 1 := (spl_bound [44, 32] t.length t 0 [] (by simp)).2.1
theorem sp2_sub (t : List Nat) : ∀ p ∈ sp2 t, p.length ≤ t.length := (spl_bound [44, 32] t.length t 0 [] (by simp)).1
theorem split2 (t : List Nat) (cs : List Cell) (h : t.length ≤ 100000) : splitD (SX.S t) (.str (SX.S [44, 32])) cs = .ok (.lst ((sp2 t).map fun p => .str (SX.S p))) cs := by
  have f : fits ((SX.S t).length + 2) := fits_of (by rw [SX.S_len]; omega)
  have e1 : ((SX.S [44, 32]).length == 0) = false := by rw [SX.S_len]; rfl
  unfold splitD
  simp only [e1, f, and_self, if_true]
  rw [SX.split_S (by simp) (by decide)]
  simp [sp2, Function.comp_def]
/-- a command read -/
def parseC (t : List Nat) : Option Cz := match sp 32 t with
  | w :: ps => if ps.all isNum = true then
      (if w = [115, 116, 111, 114, 101] ∧ ps.length = 3 then some (.S (valZ (ps.getD 0 [])) (valZ (ps.getD 1 [])) (valZ (ps.getD 2 []))) else if w = [102, 108, 117, 115, 104] ∧ ps.length = 1 then some (.F (valZ (ps.getD 0 []))) else if t = [102, 101, 110, 99, 101] then some .X else none)
    else none
  | [] => none
theorem sp_fence (t : List Nat) : sp 32 t = [[102, 101, 110, 99, 101]] ↔ t = [102, 101, 110, 99, 101] := by
  constructor
  · intro h
    have := joinL_sp 32 t
    rw [h] at this
    exact this.symm
  · rintro rfl; decide
end
end DL
end

section
set_option Elab.async false
set_option linter.all false
set_option maxRecDepth 100000
/-! G5: the texts of commands; specs; texts of bounded length. -/
namespace DL
open PySem L2
open Classical
noncomputable section
def nums : Cz → List Int
  | .S l w n => [l, w, n]
  | .F l => [l]
  | .X => []
def kd : Cz → List Nat
  | .S _ _ _ => [115, 116, 111, 114, 101]
  | .F _ => [102, 108, 117, 115, 104]
  | .X => [102, 101, 110, 99, 101]
def wordsL (k : Cz) : List (List Nat) := kd k :: (nums k).map numZ
def cmdL (k : Cz) : List Nat := TL.joinL [32] (wordsL k)
def smallC (k : Cz) : Prop := ∀ z ∈ nums k, small z
theorem cutL_one {α : Type} (xs : List α) : DL.cutL xs (some 1) none = xs.drop 1 := by
  have e : HT.sIx xs.length 0 (some (1 : Int)) = min 1 xs.length := HT.sIx_nat _ _ 1
  unfold DL.cutL
  rw [e, HT.sIx_none]
  cases xs with
  | nil => rfl
  | cons x r =>
    have e2 : min 1 (x :: r).length = 1 := by simp
    rw [e2]
    exact List.take_of_length_le (by simp)
theorem numZ_free (z : Int) (c : Nat) (h : c ≠ 45 ∧ (c < 48 ∨ 57 < c)) : c ∉ numZ z := by
  have := PyProof.Rows.int_text_free' c h z
  rw [numS_eq] at this
  exact this
theorem words_free (k : Cz) (c : Nat) (h : c ≠ 45 ∧ (c < 48 ∨ 57 < c)) (h2 : c < 97) : ∀ p ∈ wordsL k, c ∉ p := fun p hp => by
  unfold wordsL at hp
  rcases List.mem_cons.mp hp with e | e
  · subst e
    cases k <;> (unfold kd; simp; omega)
  · obtain ⟨z, _, rfl⟩ := List.mem_map.mp e
    exact numZ_free z c h
theorem numsL_len {k : Cz} (h : smallC k) : ∀ z ∈ nums k, (numZ z).length ≤ 32 := fun z hz => numZ_len (h z hz)
theorem cmd_len {k : Cz} (h : smallC k) : 5 ≤ (cmdL k).length ∧ (cmdL k).length ≤ 200 := by
  have hl := numsL_len h
  cases k with
  | S l w n =>
    have a := hl l (by simp [nums])
    have b := hl w (by simp [nums])
    have c := hl n (by simp [nums])
    simp [cmdL, wordsL, kd, nums, TL.joinL]
    omega
  | F l =>
    have a := hl l (by simp [nums])
    simp [cmdL, wordsL, kd, nums, TL.joinL]
    omega
  | X => simp [cmdL, wordsL, kd, nums, TL.joinL]
def progL (r : List Cz) : List Nat := if r = [] then [110, 111, 110, 101] else TL.joinL [44, 32] (r.map cmdL)
theorem joinL_head (s : List Nat) (c : Nat) (p : List Nat) : ∀ ps, ∃ t, TL.joinL s ((c :: p) :: ps) = c :: t
  | [] => ⟨p, rfl⟩
  | q :: ps => ⟨_, rfl⟩
theorem joinL_mem (s : List Nat) (c : Nat) : ∀ ps, c ∈ TL.joinL s ps → c ∈ s ∨ ∃ p ∈ ps, c ∈ p
  | [], h => nomatch h
  | [p], h => .inr ⟨p, List.mem_cons_self, h⟩
  | p :: q :: r, h => by
    have h : c ∈ p ++ (s ++ TL.joinL s (q :: r)) := h
    rcases List.mem_append.mp h with h | h
    · exact .inr ⟨p, List.mem_cons_self, h⟩
    · rcases List.mem_append.mp h with h | h
      · exact .inl h
      · rcases joinL_mem s c (q :: r) h with h | ⟨x, hx, h⟩
        · exact .inl h
        · exact .inr ⟨x, List.mem_cons_of_mem _ hx, h⟩
theorem joinL_len (s : List Nat) (m : Nat) : ∀ ps, (∀ p ∈ ps, p.length ≤ m) → (TL.joinL s ps).length ≤ ps.length * (m + s.length)
  | [], _ => Nat.zero_le _
  | [p], h => by
    have := h p List.mem_cons_self
    show p.length ≤ 1 * (m + s.length)
    omega
  | p :: q :: r, h => by
    have h1 := h p List.mem_cons_self
    have ih := joinL_len s m (q :: r) fun x hx => h x (List.mem_cons_of_mem _ hx)
    show (p ++ (s ++ TL.joinL s (q :: r))).length ≤ ((q :: r).length + 1) * (m + s.length)
    rw [List.length_append, List.length_append, Nat.add_mul, Nat.one_mul]
    omega
theorem cmd_head (k : Cz) : ∃ c t, cmdL k = c :: t ∧ (c = 115 ∨ c = 102) := by
  unfold cmdL wordsL
  cases k with
  | S l w n =>
    obtain ⟨t, e⟩ := joinL_head [32] 115 [116, 111, 114, 101] ((nums (.S l w n)).map numZ)
    exact ⟨115, t, e, .inl rfl⟩
  | F l =>
    obtain ⟨t, e⟩ := joinL_head [32] 102 [108, 117, 115, 104] ((nums (.F l)).map numZ)
    exact ⟨102, t, e, .inr rfl⟩
  | X => exact ⟨102, _, rfl, .inr rfl⟩
theorem cmd_free (k : Cz) : 44 ∉ cmdL k := fun h => by
  rcases joinL_mem [32] 44 _ h with h | ⟨p, hp, h⟩
  · simp at h
  · exact words_free k 44 (by omega) (by omega) p hp h
theorem prog_ne {r : List Cz} (h : r ≠ []) : progL r ≠ [110, 111, 110, 101] := by
  unfold progL
  rw [if_neg h]
  cases r with
  | nil => exact absurd rfl h
  | cons k r =>
    obtain ⟨c, t, e, hc⟩ := cmd_head k
    rw [List.map_cons, e]
    obtain ⟨u, e2⟩ := joinL_head [44, 32] c t (r.map cmdL)
    rw [e2]
    intro z
    cases z
    omega
theorem prog_len {r : List Cz} (h : ∀ k ∈ r, smallC k) (hr : r.length ≤ 200) : (progL r).length ≤ 50000 := by
  unfold progL
  split
  · simp
  · have := joinL_len [44, 32] 200 (r.map cmdL) fun p hp => by
      obtain ⟨k, hk, rfl⟩ := List.mem_map.mp hp
      exact (cmd_len (h k hk)).2
    rw [List.length_map] at this
    simp at this
    omega
theorem strs_map {α : Type} (f : α → Str) : ∀ xs : List α, strsD (xs.map fun x => D.str (f x)) = some (xs.map f)
  | [] => rfl
  | x :: xs => by
    show (strsD (xs.map fun x => D.str (f x))).map (f x :: ·) = _
    rw [strs_map f xs]; rfl
theorem sum_le {α : Type} (f : α → Nat) (m : Nat) : ∀ xs : List α, (∀ x ∈ xs, f x ≤ m) → (xs.map f).sum ≤ xs.length * m
  | [], _ => Nat.zero_le _
  | x :: xs, h => by
    have h1 := h x List.mem_cons_self
    have ih := sum_le f m xs fun y hy => h y (List.mem_cons_of_mem _ hy)
    rw [List.map_cons, List.sum_cons, List.length_cons, Nat.add_mul, Nat.one_mul]
    omega
/-- the commands joined -/
theorem join_cmds (r : List Cz) (hs : ∀ c ∈ r, smallC c) (hr : r.length ≤ 200) (hn : r ≠ []) (y : D) (cs : List Cell) (hy : itemsS cs y = some (r.map fun k => .str (SX.S (cmdL k)))) : joinD (Str.ofString ", ") y cs = .ok (.str (SX.S (progL r))) cs := by
  have ep : progL r = TL.joinL [44, 32] (r.map cmdL) := if_neg hn
  have j : joinOk (((r.map fun k => SX.S (cmdL k)).map (·.length)).sum + (r.map fun k => SX.S (cmdL k)).length * (Str.ofString ", ").length) := joinOk_of (by
    rw [List.map_map]
    have := sum_le ((·.length) ∘ fun k => SX.S (cmdL k)) 200 r fun k hk => by
      show (SX.S (cmdL k)).length ≤ 200
      rw [SX.S_len]
      exact (cmd_len (hs k hk)).2
    rw [lit_comma, SX.S_len, List.length_map]
    simp
    omega)
  unfold joinD
  simp only [hy, Option.bind, strs_map (fun k => SX.S (cmdL k)), if_pos j]
  rw [ep, ← SX.join_S, lit_comma, List.map_map]
  rfl
/-! ### specs -/
inductive Kd where
  | st | fl | fe
def Kd.s : Kd → Str
  | .st => Str.ofString "store"
  | .fl => Str.ofString "flush"
  | .fe => Str.ofString "fence"
structure Sq where
  k : Kd
  a : Int
  b : Int
  c : Int
def Sq.d (s : Sq) : D := .tup [.str s.k.s, .int s.a, .int s.b, .int s.c]
def Sq.cz (s : Sq) : Cz := match s.k with
  | .st => .S s.a s.b s.c
  | .fl => .F s.a
  | .fe => .X
def Sq.ok (xs : List Int) (s : Sq) : Prop := 0 ≤ s.a ∧ s.a < (xs.length : Int) ∧ 0 ≤ s.b ∧ s.b < xs.getD s.a.toNat 0 ∧ small s.c
def sqs (r : List Sq) : List D := r.map Sq.d
def czs (r : List Sq) : List Cz := r.map Sq.cz
theorem sqs_len (r : List Sq) : (sqs r).length = r.length := by unfold sqs; simp
theorem czs_len (r : List Sq) : (czs r).length = r.length := by unfold czs; simp
theorem lt_sq (s : Sq) (n : Nat) : D.lt n s.d = true := rfl
theorem ltL_sqs (r : List Sq) (n : Nat) : D.ltL n (sqs r) = true := ltL_map fun x _ => lt_sq x n
theorem sq_err {xs : List Int} {s : Sq} (h : s.ok xs) : s.cz.err xs = none := by
  obtain ⟨h1, h2, h3, h4, _⟩ := h
  obtain ⟨k, a, b, c⟩ := s
  have e : lineE xs a = none := if_pos ⟨h1, h2⟩
  cases k with
  | st => show wordE xs a b = none; unfold wordE; rw [e]; exact if_pos ⟨h3, h4⟩
  | fl => exact e
  | fe => rfl
theorem errs_app (xs : List Int) : ∀ a b : List Cz, errs xs a = none → errs xs (a ++ b) = errs xs b
  | [], b, _ => rfl
  | c :: a, b, h => by
    change (match c.err xs with | some e => some e | none => errs xs a) = none at h
    show (match c.err xs with | some e => some e | none => errs xs (a ++ b)) = _
    cases hc : c.err xs with
    | some k => rw [hc] at h; cases h
    | none => rw [hc] at h; exact errs_app xs a b h
theorem errs_none {xs : List Int} : ∀ {r : List Cz}, (∀ c ∈ r, c.err xs = none) → errs xs r = none
  | [], _ => rfl
  | c :: r, h => by
    unfold errs
    rw [h c List.mem_cons_self]
    exact errs_none fun y hy => h y (List.mem_cons_of_mem _ hy)
theorem czs_err {xs : List Int} {r : List Sq} (h : ∀ s ∈ r, s.ok xs) : errs xs (czs r) = none := errs_none fun c hc => by
  obtain ⟨s, hs, rfl⟩ := List.mem_map.mp hc
  exact sq_err (h s hs)
theorem getD_mem {xs : List Int} {i : Nat} (h : i < xs.length) : xs.getD i 0 ∈ xs := by
  rw [show xs.getD i 0 = xs[i] by simp [h]]
  exact List.getElem_mem h
theorem sq_small {xs : List Int} {s : Sq} (h6 : xs.length ≤ 6) (hy : ∀ y ∈ xs, 1 ≤ y ∧ y ≤ 4) (h : s.ok xs) : smallC s.cz := by
  obtain ⟨h1, h2, h3, h4, h5⟩ := h
  have hx := hy _ (getD_mem (xs := xs) (i := s.a.toNat) (by omega))
  intro z hz
  unfold Sq.cz at hz
  have ha : small s.a := by unfold small; omega
  have hb : small s.b := by unfold small; omega
  cases hk : s.k with
  | st =>
    simp only [hk, nums, List.mem_cons, List.not_mem_nil, or_false] at hz
    rcases hz with r | r | r <;> subst r <;> assumption
  | fl =>
    simp only [hk, nums, List.mem_cons, List.not_mem_nil, or_false] at hz
    subst hz; assumption
  | fe =>
    simp only [hk, nums, List.not_mem_nil] at hz
theorem czs_small {xs : List Int} (h6 : xs.length ≤ 6) (hy : ∀ y ∈ xs, 1 ≤ y ∧ y ≤ 4) {r : List Sq} (h : ∀ s ∈ r, s.ok xs) : ∀ c ∈ czs r, smallC c := fun c hc => by
  obtain ⟨s, hs, rfl⟩ := List.mem_map.mp hc
  exact sq_small h6 hy (h s hs)
theorem nd3 : ([Sum.inr (Str.ofString "store"), Sum.inr (Str.ofString "flush"), Sum.inr (Str.ofString "fence")] : List Key).Nodup := by decide +kernel
theorem ne_sf : (Str.ofString "store" = Str.ofString "flush") = False := eq_false (by decide +kernel)
theorem ne_se : (Str.ofString "store" = Str.ofString "fence") = False := eq_false (by decide +kernel)
theorem ne_fe : (Str.ofString "flush" = Str.ofString "fence") = False := eq_false (by decide +kernel)
theorem join_words (s : Sq) (hs : smallC s.cz) (cs : List Cell) : joinD (Str.ofString " ") (.lst (.str s.k.s :: (nums s.cz).map fun z => .str (SX.S (numZ z)))) cs = .ok (.str (SX.S (cmdL s.cz))) cs := by
  have e : (D.str s.k.s :: (nums s.cz).map fun z => D.str (SX.S (numZ z))) = (wordsL s.cz).map fun w => D.str (SX.S w) := by
    unfold wordsL
    rw [List.map_cons, List.map_map]
    have : s.k.s = SX.S (kd s.cz) := by
      obtain ⟨k, a, b, c⟩ := s
      cases k
      · exact lit_store
      · exact lit_flush
      · exact lit_fence
    rw [this]
    rfl
  have hl := numsL_len hs
  have j : joinOk ((((wordsL s.cz).map fun w => SX.S w).map (·.length)).sum + ((wordsL s.cz).map fun w => SX.S w).length * (Str.ofString " ").length) := joinOk_of (by
    rw [List.map_map]
    have := sum_le ((·.length) ∘ fun w => SX.S w) 32 (wordsL s.cz) fun w hw => by
      show (SX.S w).length ≤ 32
      rw [SX.S_len]
      unfold wordsL at hw
      rcases List.mem_cons.mp hw with q | q
      · subst q
        cases s.cz <;> simp [kd]
      · obtain ⟨z, hz, rfl⟩ := List.mem_map.mp q
        exact hl z hz
    have l4 : (wordsL s.cz).length ≤ 4 := by cases s.cz <;> simp [wordsL, nums]
    rw [lit_blank, SX.S_len, List.length_map]
    simp
    omega)
  rw [e]
  unfold joinD
  simp only [itemsS, itemsL, Option.bind, strs_map (fun w => SX.S w), if_pos j]
  rw [lit_blank]
  show Out.ok (D.str (Txt.join (SX.S [32]) ((wordsL s.cz).map SX.S))) cs = _
  rw [SX.join_S]
  rfl
/-- v is a list of specs: frozen, or a cell -/
def IsQ (v : D) (r : List Sq) (cs : List Cell) : Prop := v = .lst (sqs r) ∨ ∃ q, v = .cell q ∧ cs[q]? = some (.lst (sqs r))
theorem IsQ.items {v : D} {r : List Sq} {cs : List Cell} (h : IsQ v r cs) : itemsL cs v = some (sqs r) := by
  rcases h with h | ⟨q, h, e⟩
  · subst h; rfl
  · subst h
    simp [itemsL, e]
theorem IsQ.app {v : D} {r : List Sq} {cs : List Cell} (h : IsQ v r cs) (e : List Cell) : IsQ v r (cs ++ e) := by
  rcases h with h | ⟨q, h, k⟩
  · exact .inl h
  · exact .inr ⟨q, h, app_get k⟩
theorem IsQ.it {v : D} {r : List Sq} {cs : List Cell} (h : IsQ v r cs) (i : Nat) (env : DL.Env) (he : env[i]? = some (some v)) : ∃ chk : List Cell → Prop, DL.itL (dVar i) env cs = .ok ⟨sqs r, chk⟩ cs ∧ ∀ cs', IsQ v r cs' → chk cs' := by
  rcases h with h | ⟨q, h, e⟩
  · subst h
    refine ⟨noChk, ?_, fun _ _ => trivial⟩
    simp [DL.itL, dVar, he, Out.bind]
  · subst h
    refine ⟨fun cs => cs[q]? = some (.lst (sqs r)), ?_, fun cs' h' => ?_⟩
    · simp [DL.itL, dVar, he, Out.bind, e]
    · rcases h' with h' | ⟨q', h', k⟩
      · cases h'
      · cases h'; exact k
/-! ### texts of bounded length -/
def isT (m : Nat) (d : D) : Prop := ∃ t : List Nat, d = .str (SX.S t) ∧ t.length ≤ m
theorem isT.up {m n : Nat} {d : D} (h : isT m d) (l : m ≤ n) : isT n d := by
  obtain ⟨t, e, q⟩ := h
  exact ⟨t, e, by omega⟩
theorem isT.lt {m : Nat} {d : D} (h : isT m d) (n : Nat) : D.lt n d = true := by
  obtain ⟨t, rfl, q⟩ := h
  rfl
/-- an expression that is a text wherever it stands -/
def cT (m : Nat) (f : Den D) : Prop := ∃ d, isT m d ∧ ∀ env cs, f env cs = .ok d cs
def cTs (m k : Nat) (g : Den (List D)) : Prop := ∃ ds, (∀ d ∈ ds, isT m d) ∧ ds.length = k ∧ ∀ env cs, g env cs = .ok ds cs
theorem cT_lit {m : Nat} (s : PySem.Str) (h : s.cps.toList.length ≤ m) : cT m (dC (.str s)) := ⟨.str s, ⟨s.cps.toList, by rw [SX.S_tl], h⟩, fun _ _ => rfl⟩
theorem cT_add {m a b : Nat} {f g : Den D} (hf : cT a f) (hg : cT b g) (h : a + b ≤ m) (hm : m ≤ 100000) : cT m (d2 f g addD) := by
  obtain ⟨_, ⟨t, rfl, l1⟩, e1⟩ := hf
  obtain ⟨_, ⟨u, rfl, l2⟩, e2⟩ := hg
  refine ⟨.str (SX.S (t ++ u)), ⟨t ++ u, rfl, by rw [List.length_append]; omega⟩, fun env cs => ?_⟩
  unfold d2
  simp only [e1, e2, Out.bind, catS t u cs (by omega)]
theorem cT_mul {m : Nat} (s : PySem.Str) (n : Nat) (hs : s.cps.toList.length = 1) (h0 : 1 < n) (h : n ≤ m) (hm : m ≤ 100000) : cT m (d2 (dC (.str s)) (dC (.int (n : Int))) mulSD) := by
  obtain ⟨c, hc⟩ : ∃ c, s.cps.toList = [c] := by
    match hh : s.cps.toList, hs with
    | [c], _ => exact ⟨c, rfl⟩
  have e : s = SX.S [c] := by rw [← hc, SX.S_tl]
  refine ⟨.str (SX.S (List.replicate n c)), ⟨_, rfl, by rw [List.length_replicate]; omega⟩, fun env cs => ?_⟩
  subst e
  unfold d2 dC
  simp only [Out.bind, mulS c n cs h0 (by omega)]
theorem cTs_nil {m : Nat} : cTs m 0 dNil := ⟨[], fun _ h => (nomatch h), rfl, fun _ _ => rfl⟩
theorem cTs_cons {m k : Nat} {f : Den D} {g : Den (List D)} (hf : cT m f) (hg : cTs m k g) : cTs m (k + 1) (dCons f g) := by
  obtain ⟨d, l1, e1⟩ := hf
  obtain ⟨ds, l2, e2, e3⟩ := hg
  refine ⟨d :: ds, fun x hx => ?_, by simp [e2], fun env cs => ?_⟩
  · rcases List.mem_cons.mp hx with q | q
    · rw [q]; exact l1
    · exact l2 x q
  · unfold dCons
    simp only [e1, e3, Out.bind]
theorem cTs_lst {m k : Nat} {g : Den (List D)} (hg : cTs m k g) (hk : k ≤ 100000) : ∃ ds : List D, (∀ d ∈ ds, isT m d) ∧ ds.length = k ∧ ∀ env cs, dLst g env cs = .ok (.lst ds) cs := by
  obtain ⟨ds, l2, e2, e3⟩ := hg
  have f : fits ds.length := fits_of (by omega)
  refine ⟨ds, l2, e2, fun env cs => ?_⟩
  unfold dLst
  simp only [e3, Out.bind, if_pos f]
theorem to_S {m : Nat} : ∀ {ds : List D}, (∀ d ∈ ds, isT m d) → ∃ ts : List (List Nat), ds = ts.map (fun t => D.str (SX.S t)) ∧ ∀ t ∈ ts, t.length ≤ m
  | [], _ => ⟨[], rfl, fun _ h => (nomatch h)⟩
  | d :: ds, h => by
    obtain ⟨t, rfl, l⟩ := h d List.mem_cons_self
    obtain ⟨ts, rfl, q⟩ := to_S fun x hx => h x (List.mem_cons_of_mem _ hx)
    exact ⟨t :: ts, rfl, fun x hx => by
      rcases List.mem_cons.mp hx with z | z
      · rw [z]; exact l
      · exact q x z⟩
/-- texts joined at ", " -/
theorem join_T {m : Nat} {ds : List D} (h : ∀ d ∈ ds, isT m d) (hl : ds.length * (m + 2) ≤ 90000) (y : D) (cs : List Cell) (hy : itemsS cs y = some ds) : ∃ t : List Nat, t.length ≤ ds.length * (m + 2) ∧ joinD (Str.ofString ", ") y cs = .ok (.str (SX.S t)) cs := by
  obtain ⟨ts, rfl, q⟩ := to_S h
  rw [List.length_map] at hl ⊢
  have jl := joinL_len [44, 32] m ts q
  refine ⟨TL.joinL [44, 32] ts, jl, ?_⟩
  have j : joinOk (((ts.map fun k => SX.S k).map (·.length)).sum + (ts.map fun k => SX.S k).length * (Str.ofString ", ").length) := joinOk_of (by
    rw [List.map_map]
    have := sum_le ((·.length) ∘ fun k => SX.S k) m ts fun k hk => by
      show (SX.S k).length ≤ m
      rw [SX.S_len]; exact q k hk
    rw [lit_comma, SX.S_len, List.length_map]
    have e : ts.length * (m + 2) = ts.length * m + ts.length * 2 := Nat.mul_add _ _ _
    simp
    omega)
  unfold joinD
  simp only [hy, Option.bind, strs_map (fun k => SX.S k), if_pos j]
  rw [lit_comma]
  show Out.ok (D.str (Txt.join (SX.S [44, 32]) (ts.map SX.S))) cs = _
  rw [SX.join_S]
theorem cat_L (a b : List D) (h : a.length + b.length ≤ 100000) (y z : D) (cs : List Cell) (hy : itemsL cs y = some a) (hz : itemsL cs z = some b) (ny : asI y = none ∧ asS y = none ∧ itemsT y = none) : addD y z cs = .ok (.lst (a ++ b)) cs := by
  have f : fits (a.length + b.length) := fits_of (by omega)
  obtain ⟨n1, n2, n3⟩ := ny
  unfold addD
  simp only [both, n1, n2, n3, hy, hz, if_pos f]
theorem cat_LL (a b : List D) (h : a.length + b.length ≤ 100000) (cs : List Cell) : addD (.lst a) (.lst b) cs = .ok (.lst (a ++ b)) cs := cat_L a b h _ _ cs rfl rfl ⟨rfl, rfl, rfl⟩
theorem mul_L (a : D) (n : Int) (h0 : 0 ≤ n) (h : n ≤ 1000) (cs : List Cell) : mulD (.lst [a]) (.int n) cs = .ok (.lst (List.replicate n.toNat a)) cs := by
  have f : in63F n ([a].length * n.toNat) := in63F_of (by omega) (by omega) (by simp; omega)
  have e : (List.replicate n.toNat [a]).flatten = List.replicate n.toNat a := by
    generalize n.toNat = k
    induction k with
    | zero => rfl
    | succ k ih => rw [List.replicate_succ, List.flatten_cons, ih, List.replicate_succ]; rfl
  unfold mulD
  simp only [both, asI, itemsT, itemsL, if_pos f, e]
end
end DL
end

section
set_option Elab.async false
set_option linter.all false
set_option maxRecDepth 100000
namespace K72
open PySem L2 DL
noncomputable section
def ats0 : List PySem.Str := ["what", "count", "line", "word", "store", "sizes", "number", "memory", "commands", "result", "apart", "order", "made", "flushed", "sure", "time", "low", "high"]
def ats1 : List PySem.Str := ["numbers", "place", "from_line", "from_word", "conditions", "moves", "steps", "image", "second", "words", "recovery", "good", "known", "name", "rules", "history", "book", "is_first"]
def ats : List PySem.Str := ats0 ++ ats1
def nm : Nat → PySem.Str := nmOf ats
def od : Nat → List Nat
  | 7 => [5]
  | 9 => [2, 3, 6]
  | 10 => [2]
  | 12 => [7, 8]
  | _ => []
def cn : Nat → PySem.Str
  | 1 => "BadCount"
  | 2 => "NoLine"
  | 3 => "NoWord"
  | 7 => "Memory"
  | 9 => "Store"
  | 10 => "Flush"
  | 11 => "Fence"
  | 12 => "Program"
  | 32 => "BadText"
  | _ => "law"
def isi_Fence : List (Nat × Bool) := [(7, false), (9, false), (10, false), (11, true), (12, false)]
def isi_Flush : List (Nat × Bool) := [(7, false), (9, false), (10, true), (11, false), (12, false)]
def isi_Store : List (Nat × Bool) := [(7, false), (9, true), (10, false), (11, false), (12, false)]
def isi_Thing : List (Nat × Bool) := [(7, true), (9, true), (10, true), (11, true), (12, true)]
def ownCS : List Nat := [7, 9, 10, 11, 12]
def b_law_source : SDen := (sRet (dLstC (dCons (dCall (dCons (dVar 0) dNil) absD) (dCons (d2 (dCall (dCons (dVar 0) dNil) intX) (dC (.int 2147483629)) modD) (dCons (dC (.int 0)) dNil)))))
def F_law_source : FDen := mkF 1 1 b_law_source
def b_law_draw : SDen := (sSeq (sIf (qB (d2 (d2 (dVar 0) (dC (.int 0)) ixD) (d2 (dC (.int 10)) (dC (.int 18)) powD) geD))
  (sSeq (sSet 3 (d2 (dCall (dCons (d2 (dVar 0) (dC (.int 0)) ixD) dNil) intX) (dVar 1) modD))
  (sSeq (sAsg (d2 (d2 (dVar 0) (dC (.int 0)) ixD) (dVar 1) fdivD) (gIx (dVar 0) (dC (.int 0))))
  (sRet (dVar 3))))
  sNil)
  (sSeq (sAsg (d2 (d2 (dVar 0) (dC (.int 2)) ixD) (dC (.int 1)) addD) (gIx (dVar 0) (dC (.int 2))))
  (sSeq (sSet 2 (d2 (dCall (dCons (d2 (d2 (d2 (d2 (dVar 0) (dC (.int 1)) ixD) (d2 (dC (.int 7919)) (d2 (dVar 0) (dC (.int 2)) ixD) mulD) addD) (dC (.int 1)) addD) (dC (.int 48271)) mulD) dNil) intX) (dC (.int 2147483647)) modD))
  (sSeq (sSet 2 (d2 (dCall (dCons (d2 (dVar 2) (d2 (d2 (dVar 2) (dC (.int 1013)) fdivD) (dC (.int 69621)) addD) mulD) dNil) intX) (dC (.int 2147483587)) modD))
  (sRet (d2 (dCall (dCons (d2 (dCall (dCons (d2 (d2 (dVar 2) (dC (.int 7)) fdivD) (d2 (d2 (dCall (dCons (dVar 2) dNil) intX) (dC (.int 7919)) modD) (dC (.int 40692)) mulD) addD) dNil) intX) (dC (.int 2147483399)) modD) dNil) intX) (dVar 1) modD))))))
def F_law_draw : FDen := mkF 4 2 b_law_draw
def ce_law_sizes_0 : Den D := (d2 (dC (.int 1)) (dFn F_law_draw (dCons (dVar 0) (dCons (dC (.int 4)) dNil))) addD)
def b_law_sizes : SDen := (sRet (dLc [2] (itR1 (dCons (d2 (dC (.int 1)) (dFn F_law_draw (dCons (dVar 0) (dCons (dVar 1) dNil))) addD) dNil)) (gNm 2) pYes ce_law_sizes_0))
def F_law_sizes : FDen := mkF 3 2 b_law_sizes
def b_law_pick : SDen := (sRet (d2 (dVar 1) (dFn F_law_draw (dCons (dVar 0) (dCons (dCall (dCons (dVar 1) dNil) lenD) dNil))) ixD))
def F_law_pick : FDen := mkF 2 2 b_law_pick
def b_law_number : SDen := (sSeq (sSet 1 (d2 (d2 (dC (.int 10)) (dC (.int 30)) powD) (dFn F_law_draw (dCons (dVar 0) (dCons (d2 (dC (.int 10)) (dC (.int 9)) powD) dNil))) addD))
  (sRet (dFn F_law_pick (dCons (dVar 0) (dCons (dLst (dCons (dC (.int 0)) (dCons (dC (.int 1)) (dCons (dC (.int 2)) (dCons (d1 (dC (.int 1)) negD) (dCons (dC (.int 7)) (dCons (dVar 1) (dCons (d2 (dC (.int 0)) (dVar 1) subD) (dCons (dFn F_law_draw (dCons (dVar 0) (dCons (dC (.int 1000)) dNil))) dNil))))))))) dNil)))))
def F_law_number : FDen := mkF 2 1 b_law_number
def lb_law_specs_0 : SDen := (sSeq (sSet 6 (dFn F_law_pick (dCons (dVar 0) (dCons (dLst (dCons (dC (.str "store")) (dCons (dC (.str "store")) (dCons (dC (.str "store")) (dCons (dC (.str "flush")) (dCons (dC (.str "flush")) (dCons (dC (.str "fence")) dNil))))))) dNil))))
  (sSeq (sSet 7 (dFn F_law_draw (dCons (dVar 0) (dCons (dCall (dCons (dVar 1) dNil) lenD) dNil))))
  (sExpr (dML (dVar 4) (dCons (dTup (dCons (dVar 6) (dCons (dVar 7) (dCons (dFn F_law_draw (dCons (dVar 0) (dCons (d2 (dVar 1) (dVar 7) ixD) dNil))) (dCons (dFn F_law_number (dCons (dVar 0) dNil)) dNil))))) dNil) appendD))))
def b_law_specs : SDen := (sSeq (sSet 4 (dLstC dNil))
  (sSeq (sFor (itR1 (dCons (d2 (dVar 2) (dFn F_law_draw (dCons (dVar 0) (dCons (d2 (d2 (dVar 3) (dVar 2) subD) (dC (.int 1)) addD) dNil))) addD) dNil)) (gNm 5)
  lb_law_specs_0)
  (sRet (dFrz (dVar 4)))))
def F_law_specs : FDen := mkF 8 4 b_law_specs
def lb_Memory_init_0 : SDen := (sIf (qNot (qB (chainD (dC (.int 1)) (dVar 2) (dC (.int 4)) (fun i j => decide (i ≤ j)) (fun i j => decide (i ≤ j)))))
  (sRaise 1 [0, 1] (dCons (dC (.str "words")) (dCons (dVar 2) dNil)))
  sNil)
def b_Memory_init : SDen := (sSeq (sFldD od 5 (dVar 0) (dCall (dCons (dVar 1) dNil) tupleD))
  (sSeq (sIf (qNot (qB (chainD (dC (.int 1)) (dCall (dCons (d1 (dVar 0) (getD od 5)) dNil) lenD) (dC (.int 6)) (fun i j => decide (i ≤ j)) (fun i j => decide (i ≤ j)))))
  (sRaise 1 [0, 1] (dCons (dC (.str "lines")) (dCons (dCall (dCons (d1 (dVar 0) (getD od 5)) dNil) lenD) dNil)))
  sNil)
  (sFor (itT (d1 (dVar 0) (getD od 5))) (gNm 2)
  lb_Memory_init_0)))
def F_Memory_init : FDen := mkF 3 2 b_Memory_init
def ce_law_text_0 : Den D := (dCall (dCons (dVar 7) dNil) strD)
def lb_law_text_1 : SDen := (sSeq (sSet 6 (dTr (d2 (dDisp (((dC (.str "store")), (dLst (dCons (dVar 3) (dCons (dVar 4) (dCons (dVar 5) dNil))))) :: (((dC (.str "flush")), (dLst (dCons (dVar 3) dNil))) :: (((dC (.str "fence")), (dLst dNil)) :: [])))) (dVar 2) dgetD)))
  (sExpr (dML (dVar 1) (dCons (dM1 (dC (.str " ")) (d2 (dLst (dCons (dVar 2) dNil)) (dLc [7] (itL (dVar 6)) (gNm 7) pYes ce_law_text_0) addD) joinD) dNil) appendD)))
def b_law_text : SDen := (sSeq (sSet 1 (dLstC dNil))
  (sSeq (sFor (itL (dVar 0)) (gTupD 4 (gsCons (gNm 2) (gsCons (gNm 3) (gsCons (gNm 4) (gsCons (gNm 5) gsNil)))))
  lb_law_text_1)
  (sRet (dIf (qB (d2 (dVar 1) (dLst dNil) (eqC [] 20))) (dC (.str "none")) (dM1 (dC (.str ", ")) (dVar 1) joinD)))))
def F_law_text : FDen := mkF 8 1 b_law_text
def H_law_outcome : List Hd := (⟨[(1, false), (2, false), (3, false), (32, true)], (some 1), (xTup (xCons (fun _ _ _ => (dC (.str "text"))) (xCons (xAt 32 19) xNil)))⟩ :: (⟨[(1, true), (2, false), (3, false), (32, false)], (some 1), (xTup (xCons (fun _ _ _ => (dC (.str "count"))) (xCons (xAt 1 0) (xCons (xAt 1 1) xNil))))⟩ :: (⟨[(1, false), (2, true), (3, false), (32, false)], (some 1), (xTup (xCons (fun _ _ _ => (dC (.str "line"))) (xCons (xAt 2 2) xNil)))⟩ :: (⟨[(1, false), (2, false), (3, true), (32, false)], (some 1), (xTup (xCons (fun _ _ _ => (dC (.str "word"))) (xCons (xAt 3 3) xNil)))⟩ :: (⟨[(1, true), (2, true), (3, true), (32, true)], (some 1), (fun _ _ _ _ _ => .no)⟩ :: [])))))
def g_law_outcome : SDen := sNil
def b_Memory_check_line : SDen := (sIf (qNot (qB (chainD (dC (.int 0)) (dVar 1) (dCall (dCons (d1 (dVar 0) (getD od 5)) dNil) lenD) (fun i j => decide (i ≤ j)) (fun i j => decide (i < j)))))
  (sRaise 2 [2] (dCons (dVar 1) dNil))
  sNil)
def F_Memory_check_line : FDen := mkF 2 2 b_Memory_check_line
def disp_check_line : List (Nat × FDen) := [(7, F_Memory_check_line)]
theorem lk_check_line_7 : disp_check_line.lookup 7 = some F_Memory_check_line := rfl
def b_Memory_check_word : SDen := (sSeq (sExpr (dMth od (fun c => disp_check_line.lookup c) (dVar 0) (dCons (dVar 1) dNil)))
  (sIf (qNot (qB (chainD (dC (.int 0)) (dVar 2) (d2 (d1 (dVar 0) (getD od 5)) (dVar 1) ixD) (fun i j => decide (i ≤ j)) (fun i j => decide (i < j)))))
  (sRaise 3 [3] (dCons (dVar 2) dNil))
  sNil))
def F_Memory_check_word : FDen := mkF 3 3 b_Memory_check_word
def disp_check_word : List (Nat × FDen) := [(7, F_Memory_check_word)]
theorem lk_check_word_7 : disp_check_word.lookup 7 = some F_Memory_check_word := rfl
def b_Store_check : SDen := (sExpr (dMth od (fun c => disp_check_word.lookup c) (dVar 1) (dCons (d1 (dVar 0) (getD od 2)) (dCons (d1 (dVar 0) (getD od 3)) dNil))))
def F_Store_check : FDen := mkF 2 2 b_Store_check
def b_Flush_check : SDen := (sExpr (dMth od (fun c => disp_check_line.lookup c) (dVar 1) (dCons (d1 (dVar 0) (getD od 2)) dNil)))
def F_Flush_check : FDen := mkF 2 2 b_Flush_check
def b_Command_check : SDen := sPass
def F_Command_check : FDen := mkF 2 2 b_Command_check
def disp_check : List (Nat × FDen) := [(9, F_Store_check), (10, F_Flush_check), (11, F_Command_check)]
theorem lk_check_9 : disp_check.lookup 9 = some F_Store_check := rfl
theorem lk_check_10 : disp_check.lookup 10 = some F_Flush_check := rfl
theorem lk_check_11 : disp_check.lookup 11 = some F_Command_check := rfl
def lb_check_commands_0 : SDen := (sExpr (dMth od (fun c => disp_check.lookup c) (dVar 2) (dCons (dVar 0) dNil)))
def b_check_commands : SDen := (sFor (itT (dVar 1)) (gNm 2)
  lb_check_commands_0)
def F_check_commands : FDen := mkF 3 2 b_check_commands
def b_Program_init : SDen := (sSeq (sFldD od 7 (dVar 0) (dVar 1))
  (sSeq (sFldD od 8 (dVar 0) (dCall (dCons (dVar 2) dNil) tupleD))
  (sSeq (sIf (qB (d2 (dCall (dCons (d1 (dVar 0) (getD od 8)) dNil) lenD) (dC (.int 200)) gtD))
  (sRaise 1 [0, 1] (dCons (dC (.str "commands")) (dCons (dCall (dCons (d1 (dVar 0) (getD od 8)) dNil) lenD) dNil)))
  sNil)
  (sExpr (dFn F_check_commands (dCons (dVar 1) (dCons (d1 (dVar 0) (getD od 8)) dNil)))))))
def F_Program_init : FDen := mkF 3 3 b_Program_init
def ce_read_number_0 : Den D := (d2 (dVar 3) (dC (.str "0123456789")) (inC [] 20 false))
def b_read_number : SDen := (sSeq (sSet 2 (dIf (qB (d2 (dSl (dVar 0) oNone (oSome (dC (.int 1)))) (dC (.str "-")) (eqC [] 20))) (dSl (dVar 0) (oSome (dC (.int 1))) oNone) (dVar 0)))
  (sSeq (sIf (qOr (qNot (qB (chainD (dC (.int 1)) (dCall (dCons (dVar 2) dNil) lenD) (dC (.int 31)) (fun i j => decide (i ≤ j)) (fun i j => decide (i ≤ j))))) (qNot (qB (dCall (dCons (dLc [3] (itS (dVar 2)) (gNm 3) pYes ce_read_number_0) dNil) allD))))
  (sRaise 32 [19] (dCons (dVar 1) dNil))
  sNil)
  (sSeq (sIf (qAnd (qB (d2 (d2 (dVar 2) (dC (.int 0)) ixD) (dC (.str "0")) (eqC [] 20))) (qB (d2 (dVar 0) (dC (.str "0")) (neC [] 20))))
  (sRaise 32 [19] (dCons (dVar 1) dNil))
  sNil)
  (sRet (dCall (dCons (dVar 0) dNil) intX)))))
def F_read_number : FDen := mkF 4 2 b_read_number
def b_Store_init : SDen := (sSeq (sFldD od 2 (dVar 0) (dVar 1))
  (sSeq (sFldD od 3 (dVar 0) (dVar 2))
  (sFldD od 6 (dVar 0) (dVar 3))))
def F_Store_init : FDen := mkF 4 4 b_Store_init
def b_Flush_init : SDen := (sFldD od 2 (dVar 0) (dVar 1))
def F_Flush_init : FDen := mkF 2 2 b_Flush_init
def ce_read_command_0 : Den D := (dFn F_read_number (dCons (dVar 5) (dCons (dVar 1) dNil)))
def b_read_command : SDen := (sSeq (sSet 2 (dM1 (dVar 0) (dC (.str " ")) splitD))
  (sSeq (sSet 3 (dTr (dFrz (dLcR [5] (itL (dSl (dVar 2) (oSome (dC (.int 1))) oNone)) (gNm 5) pYes ce_read_command_0))))
  (sSeq (sIf (qAnd (qB (d2 (d2 (dVar 2) (dC (.int 0)) ixD) (dC (.str "store")) (eqC [] 20))) (qB (d2 (dCall (dCons (dVar 3) dNil) lenD) (dC (.int 3)) (eqC [] 20))))
  (sSeq (sAsg (dVar 3) (gLstD 3 (gsCons (gNm 4) (gsCons (gNm 5) (gsCons (gNm 6) gsNil)))))
  (sRet (dFn (mkO od 9 F_Store_init) (dCons (dVar 4) (dCons (dVar 5) (dCons (dVar 6) dNil))))))
  sNil)
  (sSeq (sIf (qAnd (qB (d2 (d2 (dVar 2) (dC (.int 0)) ixD) (dC (.str "flush")) (eqC [] 20))) (qB (d2 (dCall (dCons (dVar 3) dNil) lenD) (dC (.int 1)) (eqC [] 20))))
  (sRet (dFn (mkO od 10 F_Flush_init) (dCons (d2 (dVar 3) (dC (.int 0)) ixD) dNil)))
  sNil)
  (sSeq (sIf (qB (d2 (dVar 0) (dC (.str "fence")) (eqC [] 20)))
  (sRet (fun _ cs => .ok (.obj 11 []) cs))
  sNil)
  (sRaise 32 [19] (dCons (dVar 1) dNil)))))))
def F_read_command : FDen := mkF 7 2 b_read_command
def ce_read_program_0 : Den D := (dFn F_read_command (dCons (dVar 3) (dCons (dVar 2) dNil)))
def b_read_program : SDen := (sSeq (sIf (qB (d2 (dVar 1) (dC (.str "none")) (eqC [] 20)))
  (sRet (dFn (mkO od 12 F_Program_init) (dCons (dVar 0) (dCons (dLst dNil) dNil))))
  sNil)
  (sRet (dFn (mkO od 12 F_Program_init) (dCons (dVar 0) (dCons (dTr (dFrz (dLcR [2, 3] (itEnA (dCons (dM1 (dVar 1) (dC (.str ", ")) splitD) dNil)) (gTupD 2 (gsCons (gNm 2) (gsCons (gNm 3) gsNil))) pYes ce_read_program_0))) dNil)))))
def F_read_program : FDen := mkF 4 2 b_read_program
def ce_law_is_number_0 : Den D := (dVar 2)
def ct_law_is_number_1 : Den Bool := (qB (d2 (dVar 2) (dC (.str "0123456789")) (inC [] 20 true)))
def b_law_is_number : SDen := (sSeq (sSet 1 (dIf (qB (d2 (dSl (dVar 0) oNone (oSome (dC (.int 1)))) (dC (.str "-")) (eqC [] 20))) (dSl (dVar 0) (oSome (dC (.int 1))) oNone) (dVar 0)))
  (sSeq (sIf (qOr (qNot (qB (chainD (dC (.int 1)) (dCall (dCons (dVar 1) dNil) lenD) (dC (.int 31)) (fun i j => decide (i ≤ j)) (fun i j => decide (i ≤ j))))) (qB (d2 (dLc [2] (itS (dVar 1)) (gNm 2) ct_law_is_number_1 ce_law_is_number_0) (dLst dNil) (neC [] 20))))
  (sRet (dC (.bl false)))
  sNil)
  (sRet (eOr (d2 (dVar 0) (dC (.str "0")) (eqC [] 20)) (d2 (d2 (dVar 1) (dC (.int 0)) ixD) (dC (.str "0")) (neC [] 20))))))
def F_law_is_number : FDen := mkF 3 1 b_law_is_number
def ce_law_read_0 : Den D := (dVar 3)
def ct_law_read_1 : Den Bool := (qNot (qB (dFn F_law_is_number (dCons (dVar 3) dNil))))
def ce_law_read_2 : Den D := (dCall (dCons (dVar 3) dNil) intX)
def b_law_read : SDen := (sSeq (sSet 1 (dM1 (dVar 0) (dC (.str " ")) splitD))
  (sSeq (sIf (qB (d2 (dVar 1) (dLst (dCons (dC (.str "fence")) dNil)) (eqC [] 20)))
  (sRet (fun _ cs => .ok (.obj 11 []) cs))
  sNil)
  (sSeq (sIf (qB (d2 (dLc [3] (itL (dSl (dVar 1) (oSome (dC (.int 1))) oNone)) (gNm 3) ct_law_read_1 ce_law_read_0) (dLst dNil) (neC [] 20)))
  (sRet (dC .non))
  sNil)
  (sSeq (sSet 2 (dLc [3] (itL (dSl (dVar 1) (oSome (dC (.int 1))) oNone)) (gNm 3) pYes ce_law_read_2))
  (sSeq (sIf (qAnd (qB (d2 (d2 (dVar 1) (dC (.int 0)) ixD) (dC (.str "flush")) (eqC [] 20))) (qB (d2 (dCall (dCons (dVar 2) dNil) lenD) (dC (.int 1)) (eqC [] 20))))
  (sRet (dFn (mkO od 10 F_Flush_init) (dCons (d2 (dVar 2) (dC (.int 0)) ixD) dNil)))
  sNil)
  (sSeq (sIf (qAnd (qB (d2 (d2 (dVar 1) (dC (.int 0)) ixD) (dC (.str "store")) (eqC [] 20))) (qB (d2 (dCall (dCons (dVar 2) dNil) lenD) (dC (.int 3)) (eqC [] 20))))
  (sRet (dFn (mkO od 9 F_Store_init) (dCons (d2 (dVar 2) (dC (.int 0)) ixD) (dCons (d2 (dVar 2) (dC (.int 1)) ixD) (dCons (d2 (dVar 2) (dC (.int 2)) ixD) dNil)))))
  sNil)
  (sRet (dC .non))))))))
def F_law_read : FDen := mkF 4 1 b_law_read
def b_Memory_kind : SDen := (sRet (dC (.str "memory")))
def F_Memory_kind : FDen := mkF 1 1 b_Memory_kind
def b_Store_kind : SDen := (sRet (dC (.str "store")))
def F_Store_kind : FDen := mkF 1 1 b_Store_kind
def b_Flush_kind : SDen := (sRet (dC (.str "flush")))
def F_Flush_kind : FDen := mkF 1 1 b_Flush_kind
def b_Fence_kind : SDen := (sRet (dC (.str "fence")))
def F_Fence_kind : FDen := mkF 1 1 b_Fence_kind
def b_Program_kind : SDen := (sRet (dC (.str "program")))
def F_Program_kind : FDen := mkF 1 1 b_Program_kind
def disp_kind : List (Nat × FDen) := [(7, F_Memory_kind), (9, F_Store_kind), (10, F_Flush_kind), (11, F_Fence_kind), (12, F_Program_kind)]
theorem lk_kind_7 : disp_kind.lookup 7 = some F_Memory_kind := rfl
theorem lk_kind_9 : disp_kind.lookup 9 = some F_Store_kind := rfl
theorem lk_kind_10 : disp_kind.lookup 10 = some F_Flush_kind := rfl
theorem lk_kind_11 : disp_kind.lookup 11 = some F_Fence_kind := rfl
theorem lk_kind_12 : disp_kind.lookup 12 = some F_Program_kind := rfl
def b_Memory_facts : SDen := (sRet (dTup (dCons (d1 (dVar 0) (getD od 5)) dNil)))
def F_Memory_facts : FDen := mkF 1 1 b_Memory_facts
def b_Store_facts : SDen := (sRet (dTup (dCons (d1 (dVar 0) (getD od 2)) (dCons (d1 (dVar 0) (getD od 3)) (dCons (d1 (dVar 0) (getD od 6)) dNil)))))
def F_Store_facts : FDen := mkF 1 1 b_Store_facts
def b_Flush_facts : SDen := (sRet (dTup (dCons (d1 (dVar 0) (getD od 2)) dNil)))
def F_Flush_facts : FDen := mkF 1 1 b_Flush_facts
def b_Thing_facts : SDen := (sRet (dTup dNil))
def F_Thing_facts : FDen := mkF 1 1 b_Thing_facts
def b_Program_facts : SDen := (sRet (dTup (dCons (d1 (dVar 0) (getD od 7)) (dCons (d1 (dVar 0) (getD od 8)) dNil))))
def F_Program_facts : FDen := mkF 1 1 b_Program_facts
def disp_facts : List (Nat × FDen) := [(7, F_Memory_facts), (9, F_Store_facts), (10, F_Flush_facts), (11, F_Thing_facts), (12, F_Program_facts)]
theorem lk_facts_7 : disp_facts.lookup 7 = some F_Memory_facts := rfl
theorem lk_facts_9 : disp_facts.lookup 9 = some F_Store_facts := rfl
theorem lk_facts_10 : disp_facts.lookup 10 = some F_Flush_facts := rfl
theorem lk_facts_11 : disp_facts.lookup 11 = some F_Thing_facts := rfl
theorem lk_facts_12 : disp_facts.lookup 12 = some F_Program_facts := rfl
def b_Thing_eq (h : Nat) : SDen := (sSeq (sIf (qOr (qNot (qB (d1 (dVar 1) (isiD isi_Thing)))) (qB (d2 (dMth od (fun c => disp_kind.lookup c) (dVar 0) dNil) (dMth od (fun c => disp_kind.lookup c) (dVar 1) dNil) (neC [] 20))))
  (sRet (dC (.bl false)))
  sNil)
  (sRet (d2 (dMth od (fun c => disp_facts.lookup c) (dVar 0) dNil) (dMth od (fun c => disp_facts.lookup c) (dVar 1) dNil) (eqC ownCS h))))
def F_Thing_eq (h : Nat) : FDen := mkF 2 2 (b_Thing_eq h)
def kindS : Nat → PySem.Str
  | 7 => "memory"
  | 9 => "store"
  | 10 => "flush"
  | 11 => "fence"
  | 12 => "program"
  | _ => ""
theorem fk_7 (xs : List D) (cs : List Cell) : F_Memory_kind [.obj 7 xs] cs = .ok (.str "memory") cs := by
  simp [F_Memory_kind, b_Memory_kind, mkF, finS, env0, sRet, dC, Out.bind, Out.bindS, trim_self]
theorem ff_7 (a0 : D) (cs : List Cell) : F_Memory_facts [.obj 7 [a0]] cs = .ok (.tup [a0]) cs := by
  simp [F_Memory_facts, b_Memory_facts, mkF, finS, env0, sRet, dC, dTup, dCons, dNil, d1, dVar, getD, od, atK, fits_of, Out.bind, Out.bindS, trim_self]
theorem fk_9 (xs : List D) (cs : List Cell) : F_Store_kind [.obj 9 xs] cs = .ok (.str "store") cs := by
  simp [F_Store_kind, b_Store_kind, mkF, finS, env0, sRet, dC, Out.bind, Out.bindS, trim_self]
theorem ff_9 (a0 a1 a2 : D) (cs : List Cell) : F_Store_facts [.obj 9 [a0, a1, a2]] cs = .ok (.tup [a0, a1, a2]) cs := by
  simp [F_Store_facts, b_Store_facts, mkF, finS, env0, sRet, dC, dTup, dCons, dNil, d1, dVar, getD, od, atK, fits_of, Out.bind, Out.bindS, trim_self]
theorem fk_10 (xs : List D) (cs : List Cell) : F_Flush_kind [.obj 10 xs] cs = .ok (.str "flush") cs := by
  simp [F_Flush_kind, b_Flush_kind, mkF, finS, env0, sRet, dC, Out.bind, Out.bindS, trim_self]
theorem ff_10 (a0 : D) (cs : List Cell) : F_Flush_facts [.obj 10 [a0]] cs = .ok (.tup [a0]) cs := by
  simp [F_Flush_facts, b_Flush_facts, mkF, finS, env0, sRet, dC, dTup, dCons, dNil, d1, dVar, getD, od, atK, fits_of, Out.bind, Out.bindS, trim_self]
theorem fk_11 (xs : List D) (cs : List Cell) : F_Fence_kind [.obj 11 xs] cs = .ok (.str "fence") cs := by
  simp [F_Fence_kind, b_Fence_kind, mkF, finS, env0, sRet, dC, Out.bind, Out.bindS, trim_self]
theorem ff_11 (cs : List Cell) : F_Thing_facts [.obj 11 []] cs = .ok (.tup []) cs := by
  simp [F_Thing_facts, b_Thing_facts, mkF, finS, env0, sRet, dC, dTup, dCons, dNil, d1, dVar, getD, od, atK, fits_of, Out.bind, Out.bindS, trim_self]
theorem fk_12 (xs : List D) (cs : List Cell) : F_Program_kind [.obj 12 xs] cs = .ok (.str "program") cs := by
  simp [F_Program_kind, b_Program_kind, mkF, finS, env0, sRet, dC, Out.bind, Out.bindS, trim_self]
theorem ff_12 (a0 a1 : D) (cs : List Cell) : F_Program_facts [.obj 12 [a0, a1]] cs = .ok (.tup [a0, a1]) cs := by
  simp [F_Program_facts, b_Program_facts, mkF, finS, env0, sRet, dC, dTup, dCons, dNil, d1, dVar, getD, od, atK, fits_of, Out.bind, Out.bindS, trim_self]
theorem eq_all : ∀ c ∈ ownCS, isi_Thing.lookup c = some true ∧ ∃ dk df, disp_kind.lookup c = some dk ∧ disp_facts.lookup c = some df ∧ ∀ xs : List D, xs.length = (od c).length → ∀ cs, dk [.obj c xs] cs = .ok (.str (kindS c)) cs ∧ df [.obj c xs] cs = .ok (.tup xs) cs := List.forall_mem_cons.mpr ⟨⟨rfl, _, _, rfl, rfl, fun xs l cs => ⟨fk_7 xs cs, match xs, l with | [_], _ => ff_7 _ cs⟩⟩, List.forall_mem_cons.mpr ⟨⟨rfl, _, _, rfl, rfl, fun xs l cs => ⟨fk_9 xs cs, match xs, l with | [_, _, _], _ => ff_9 _ _ _ cs⟩⟩, List.forall_mem_cons.mpr ⟨⟨rfl, _, _, rfl, rfl, fun xs l cs => ⟨fk_10 xs cs, match xs, l with | [_], _ => ff_10 _ cs⟩⟩, List.forall_mem_cons.mpr ⟨⟨rfl, _, _, rfl, rfl, fun xs l cs => ⟨fk_11 xs cs, match xs, l with | [], _ => ff_11 cs⟩⟩, List.forall_mem_cons.mpr ⟨⟨rfl, _, _, rfl, rfl, fun xs l cs => ⟨fk_12 xs cs, match xs, l with | [_, _], _ => ff_12 _ _ cs⟩⟩, fun _ h => nomatch h⟩⟩⟩⟩⟩
theorem kind_inj : ∀ c ∈ ownCS, ∀ c' ∈ ownCS, kindS c = kindS c' → c = c' := by decide +kernel
theorem hden {T : Tab} (hT : T.od = od) (h : Nat) : HDen T ownCS (F_Thing_eq h) h := by
  intro h' c xs c' ys r hh c1 c2 l1 l2 o1 o2 e
  rw [hT] at l1 l2
  obtain ⟨i1, k1, f1, a1, b1, g1⟩ := eq_all c c1
  obtain ⟨i2, k2, f2, a2, b2, g2⟩ := eq_all c' c2
  refine ⟨[], ?_⟩
  subst hh
  by_cases hc : c = c'
  · subst hc
    rw [a1] at a2; cases a2
    rw [b1] at b2; cases b2
    unfold eqD at e
    simp only [if_true] at e
    have e1 : D.okE ownCS (.tup xs) (h' + 1) = true := by unfold D.okE; exact o1
    have e2 : D.okE ownCS (.tup ys) (h' + 1) = true := by unfold D.okE; exact o2
    have e3 : eqD (.tup xs) (.tup ys) = some r := by unfold eqD; exact e
    simp [F_Thing_eq, b_Thing_eq, mkF, finS, env0, sSeq, sIf, sRet, sNil, qOr, qNot, qB, d1, d2, dVar, dC, isiD, i1, dMth, dNil, clsOf, a1, b1, (g1 xs l1 []).1, (g1 xs l1 []).2, (g1 ys l2 []).1, (g1 ys l2 []).2, neC, eqC, resL, D.okE, eqD, Out.bind, Out.bindS, e1, e2, e3, trim_self, o1, o2, e]
  · have hk : kindS c ≠ kindS c' := fun z => hc (kind_inj c c1 c' c2 z)
    unfold eqD at e
    simp only [if_neg hc] at e
    cases e
    simp [F_Thing_eq, b_Thing_eq, mkF, finS, env0, sSeq, sIf, sRet, sNil, qOr, qNot, qB, d1, d2, dVar, dC, isiD, i1, i2, dMth, dNil, clsOf, a1, a2, (g1 xs l1 []).1, (g2 ys l2 []).1, neC, resL, D.okE, eqD, Out.bind, Out.bindS, hk, trim_self]
theorem hnon {T : Tab} (hT : T.od = od) (h : Nat) : HNon T ownCS (F_Thing_eq h) h := by
  intro h' c xs hh c1 l1 o1
  refine ⟨[], ?_⟩
  simp [F_Thing_eq, b_Thing_eq, mkF, finS, env0, sSeq, sIf, sRet, sNil, qOr, qNot, qB, d1, d2, dVar, dC, isiD, Out.bind, Out.bindS, trim_self]
def lb_law_shown_0 : SDen := (sIf (qB (d1 (dVar 2) (isiD isi_Store)))
  (sExpr (dML (dVar 1) (dCons (dTup (dCons (dC (.str "store")) (dCons (d1 (dVar 2) (getD od 2)) (dCons (d1 (dVar 2) (getD od 3)) (dCons (d1 (dVar 2) (getD od 6)) dNil))))) dNil) appendD))
  (sExpr (dML (dVar 1) (dCons (dIf (qB (d1 (dVar 2) (isiD isi_Flush))) (dTup (dCons (dC (.str "flush")) (dCons (d1 (dVar 2) (getD od 2)) dNil))) (dTup (dCons (dC (.str "fence")) (dCons (d1 (dVar 2) (isiD isi_Fence)) dNil)))) dNil) appendD)))
def b_law_shown : SDen := (sSeq (sIf (qB (d2 (d2 (dVar 0) (dC (.int 0)) ixD) (dC (.str "ok")) (neC [] 20)))
  (sRet (dVar 0))
  sNil)
  (sSeq (sSet 1 (dLstC dNil))
  (sSeq (sFor (itT (d1 (d2 (dVar 0) (dC (.int 1)) ixD) (getD od 8))) (gNm 2)
  lb_law_shown_0)
  (sRet (dFrz (dVar 1))))))
def F_law_shown : FDen := mkF 3 1 b_law_shown
def lm_law_text_right_0 : Den D := (dFn F_read_program (dCons (dVar 0) (dCons (dVar 1) dNil)))
def ce_law_text_right_1 : Den D := (dFn F_law_read (dCons (dVar 5) dNil))
def ce_law_text_right_2 : Den D := (dIf (qB (d1 (dVar 6) (isC false))) (dVar 6) (dC (.int 0)))
def ce_law_text_right_3 : Den D := (d1 (dVar 6) (isC false))
def lm_law_text_right_4 : Den D := (dFn (mkO od 12 F_Program_init) (dCons (dFn (mkO od 7 F_Memory_init) (dCons (d1 (dVar 0) (getD od 5)) dNil)) (dCons (dVar 3) dNil)))
def b_law_text_right : SDen := (sSeq (sSet 2 (dLamK (.T "ok") 2 H_law_outcome g_law_outcome lm_law_text_right_0))
  (sSeq (sSet 3 (dIf (qB (d2 (dVar 1) (dC (.str "none")) (eqC [] 20))) (dLst dNil) (dLc [5] (itL (dM1 (dVar 1) (dC (.str ", ")) splitD)) (gNm 5) pYes ce_law_text_right_1)))
  (sSeq (sIf (qB (d2 (dC .non) (dLc [6] (itL (dVar 3)) (gNm 6) pYes ce_law_text_right_2) (inC [] 20 false)))
  (sRet (d2 (dVar 2) (dTup (dCons (dC (.str "text")) (dCons (dML (dLc [6] (itL (dVar 3)) (gNm 6) pYes ce_law_text_right_3) (dCons (dC (.bl true)) dNil) indexB) dNil))) (eqC [] 20)))
  sNil)
  (sSeq (sSet 4 (dLamK (.T "ok") 2 H_law_outcome g_law_outcome lm_law_text_right_4))
  (sRet (eAnd (d2 (dVar 2) (dVar 4) (eqC ownCS 6)) (d2 (dFn F_law_shown (dCons (dVar 2) dNil)) (dFn F_law_shown (dCons (dVar 4) dNil)) (eqC [] 20))))))))
def F_law_text_right : FDen := mkF 7 2 b_law_text_right
def b_law_signs : SDen := (sSeq (sSet 0 (dC (.str " !\"#$&'()*+,-./0123456789:;<=>?@ABCDEFGHIJKLMNOPQRSTUVWXYZ")))
  (sRet (d2 (dVar 0) (dC (.str "[\\]^_`abcdefghijklmnopqrstuvwxyz{|}~")) addD)))
def F_law_signs : FDen := mkF 1 0 b_law_signs
def b_law_bent : SDen := (sSeq (sSet 2 (dFn F_law_draw (dCons (dVar 0) (dCons (d2 (dCall (dCons (dVar 1) dNil) lenD) (dC (.int 1)) addD) dNil))))
  (sSeq (sSet 3 (dFn F_law_pick (dCons (dVar 0) (dCons (dFn F_law_pick (dCons (dVar 0) (dCons (dLst (dCons (fun _ cs => F_law_signs [] cs) (dCons (dC (.str "0123456789")) (dCons (dC (.str "-+_. ,=/0")) (dCons (dC (.str "sflbe")) dNil))))) dNil))) dNil))))
  (sSeq (sSet 4 (dFn F_law_draw (dCons (dVar 0) (dCons (dC (.int 3)) dNil))))
  (sSeq (sIf (qB (d2 (dVar 4) (dC (.int 0)) (eqC [] 20)))
  (sRet (d2 (dSl (dVar 1) oNone (oSome (dVar 2))) (dSl (dVar 1) (oSome (d2 (dVar 2) (dC (.int 1)) addD)) oNone) addD))
  sNil)
  (sRet (d2 (d2 (dSl (dVar 1) oNone (oSome (dVar 2))) (dVar 3) addD) (dSl (dVar 1) (oSome (d2 (d2 (dVar 2) (dVar 4) addD) (dC (.int 1)) subD)) oNone) addD))))))
def F_law_bent : FDen := mkF 5 2 b_law_bent
def lb_law_right_0 : SDen := (sIf (qNot (qB (dFn F_law_text_right (dCons (dVar 3) (dCons (dFn F_law_bent (dCons (dVar 0) (dCons (dFn F_law_text (dCons (dVar 2) dNil)) dNil))) dNil)))))
  (sRet (dC (.bl false)))
  sNil)
def lb_law_right_1 : SDen := (sIf (qNot (qB (dFn F_law_text_right (dCons (dVar 3) (dCons (dVar 12) dNil)))))
  (sRet (dC (.bl false)))
  sNil)
def lb_law_right_2 : SDen := (sFor (itL (dLst (dCons (dM1 (dC (.str ", ")) (d2 (d2 (dSl (dVar 4) oNone (oSome (dVar 8))) (dLst (dCons (dVar 9) dNil)) addD) (dSl (dVar 4) (oSome (dVar 8)) oNone) addD) joinD) (dCons (dVar 9) (dCons (dM1 (dC (.str ", ")) (dLst (dCons (dVar 9) (dCons (dVar 9) dNil))) joinD) dNil))))) (gNm 12)
  lb_law_right_1)
def lb_law_right_3 : SDen := (sIf (qNot (qB (dFn F_law_text_right (dCons (dVar 3) (dCons (dVar 12) dNil)))))
  (sRet (dC (.bl false)))
  sNil)
def lb_law_right_4 : SDen := (sSeq (sSet 13 (dFn F_law_pick (dCons (dVar 0) (dCons (dSl (dVar 7) (oSome (dC (.int 2))) oNone) dNil))))
  (sFor (itL (dLst (dCons (d2 (d2 (dVar 13) (dC (.str ", ")) addD) (dVar 9) addD) (dCons (d2 (d2 (dVar 9) (dC (.str ", ")) addD) (dVar 13) addD) (dCons (dM1 (dC (.str ", ")) (dLst (dCons (dVar 13) (dCons (dC (.str "fence")) (dCons (dVar 9) (dCons (dVar 13) (dCons (dVar 9) dNil)))))) joinD) dNil))))) (gNm 12)
  lb_law_right_3))
def lb_law_right_5 : SDen := (sIf (qNot (qB (dFn F_law_text_right (dCons (dVar 3) (dCons (dM1 (dC (.str ", ")) (dVar 11) joinD) dNil)))))
  (sRet (dC (.bl false)))
  sNil)
def b_law_right : SDen := (sSeq (sSet 1 (dFn F_law_sizes (dCons (dVar 0) (dCons (dC (.int 6)) dNil))))
  (sSeq (sPar 2 3 (dCons (dFn F_law_specs (dCons (dVar 0) (dCons (dVar 1) (dCons (dC (.int 1)) (dCons (dC (.int 5)) dNil))))) (dCons (dFn (mkO od 7 F_Memory_init) (dCons (dVar 1) dNil)) dNil)))
  (sSeq (sSet 4 (dM1 (dFn F_law_text (dCons (dVar 2) dNil)) (dC (.str ", ")) splitD))
  (sSeq (sFor (itR1 (dCons (dC (.int 30)) dNil)) (gNm 5)
  lb_law_right_0)
  (sSeq (sSet 6 (dLst (dCons (dC (.str "")) (dCons (dC (.str "none")) (dCons (dC (.str "fence 0")) (dCons (dC (.str "flush")) (dCons (dC (.str "flush 0 0")) (dCons (dC (.str "store 0 0")) (dCons (dC (.str "store 0 0 0 0")) (dCons (dC (.str "Fence")) (dCons (dC (.str "flush  0")) (dCons (dC (.str " fence")) dNil))))))))))))
  (sSeq (sSet 6 (d2 (dVar 6) (dLst (dCons (dC (.str "store 0 0 00")) (dCons (dC (.str "store 0 0 -0")) (dCons (dC (.str "store 0 0 +1")) (dCons (d2 (dC (.str "store 0 0 1")) (d2 (dC (.str "0")) (dC (.int 31)) mulSD) addD) (dCons (d2 (dC (.str "store 0 0 -1")) (d2 (dC (.str "0")) (dC (.int 31)) mulSD) addD) dNil)))))) addD))
  (sSeq (sSet 6 (d2 (dVar 6) (dLst (dCons (d2 (dC (.str "store 0 0 ")) (d2 (dC (.str "9")) (dC (.int 5000)) mulSD) addD) (dCons (d2 (dC (.str "flush -")) (d2 (dC (.str "1")) (dC (.int 5000)) mulSD) addD) (dCons (d2 (d2 (dC (.str "store ")) (d2 (dC (.str "0")) (dC (.int 5000)) mulSD) addD) (dC (.str " 0 0")) addD) dNil)))) addD))
  (sSeq (sSet 6 (d2 (dVar 6) (dLst (dCons (dC (.str "flush 01")) (dCons (dC (.str "fence,flush 0")) (dCons (dC (.str "copy 0 0 0 0")) (dCons (dC (.str "store 0 0 1_0")) (dCons (dC (.str "store 0 0 1.0")) (dCons (dC (.str "flush x")) (dCons (dC (.str "fence;")) dNil)))))))) addD))
  (sSeq (sSet 7 (dLstC (dCons (d2 (dC (.str "store 0 0 -")) (d2 (dC (.str "9")) (dC (.int 31)) mulSD) addD) (dCons (d2 (dC (.str "store 0 0 ")) (d2 (dC (.str "9")) (dC (.int 31)) mulSD) addD) (dCons (dC (.str "flush -1")) (dCons (dC (.str "flush 6")) (dCons (dC (.str "store 0 4 1")) (dCons (dC (.str "store 9 9 9")) dNil))))))))
  (sSeq (sExpr (dML (dVar 7) (dCons (dC (.str "store 0 -1 0")) dNil) appendD))
  (sSeq (sSet 8 (dFn F_law_draw (dCons (dVar 0) (dCons (d2 (dCall (dCons (dVar 4) dNil) lenD) (dC (.int 1)) addD) dNil))))
  (sSeq (sFor (itL (d2 (dVar 6) (dVar 7) addD)) (gNm 9)
  lb_law_right_2)
  (sSeq (sFor (itL (dVar 6)) (gNm 9)
  lb_law_right_4)
  (sSeq (sSet 8 (dFn F_law_draw (dCons (dVar 0) (dCons (dC (.int 201)) dNil))))
  (sSeq (sSet 10 (d2 (d2 (d2 (dLst (dCons (dC (.str "fence")) dNil)) (dVar 8) mulD) (dLst (dCons (dC (.str "flush")) dNil)) addD) (d2 (dLst (dCons (dC (.str "flush 7")) dNil)) (d2 (dC (.int 201)) (dVar 8) subD) mulD) addD))
  (sSeq (sFor (itL (dLst (dCons (d2 (dLst (dCons (dC (.str "fence")) dNil)) (dC (.int 200)) mulD) (dCons (d2 (dLst (dCons (dC (.str "flush 7")) dNil)) (dC (.int 201)) mulD) (dCons (dVar 10) (dCons (d2 (dLst (dCons (dC (.str "x")) dNil)) (dC (.int 201)) mulD) dNil)))))) (gNm 11)
  lb_law_right_5)
  (sRet (dC (.bl true)))))))))))))))))))
def F_law_right : FDen := mkF 14 1 b_law_right
def lb_law_0 : SDen := (sSeq (sSet 2 (dFn F_law_source (dCons (dVar 1) dNil)))
  (sIf (qNot (qB (dFn F_law_right (dCons (dVar 2) dNil))))
  (sRet (dC (.bl false)))
  sNil))
def b_law : SDen := (sSeq (sFor (itL (dSl (d2 (dVar 0) (dLst (dCons (dC (.int 0)) dNil)) addD) oNone (oSome (dC (.int 4))))) (gNm 1)
  lb_law_0)
  (sRet (dC (.bl true))))
def F_law : FDen := mkF 3 1 b_law
end
end K72
end

section
set_option Elab.async false
set_option linter.all false
set_option maxRecDepth 100000
namespace K72
open PySem L2 DL
/-! ### draws -/
def drawV (a b c m : Int) : Int := if a ≥ 1000000000000000000 then a % m else
  let v1 := (b + 7919 * (c + 1) + 1) * 48271 % 2147483647
  let v2 := v1 * (v1 / 1013 + 69621) % 2147483587
  (v2 / 7 + v2 % 7919 * 40692) % 2147483399 % m
def drawS (a b c m : Int) : List D := if a ≥ 1000000000000000000 then [.int (a / m), .int b, .int c] else [.int a, .int b, .int (c + 1)]
theorem F_draw {n : Nat} {cs : List Cell} {a b c m : Int} (h : cs[n]? = some (.lst [.int a, .int b, .int c])) (hm : 0 < m) (hm2 : m.natAbs.log2 < 9000) :
    F_law_draw [.cell n, .int m] cs = .ok (.int (drawV a b c m)) (cs.set n (.lst (drawS a b c m))) := by
  have hn : n < cs.length := live_len h
  have hs : ∀ x, (cs.set n x)[n]? = some x := fun x => List.getElem?_set_self hn
  have hd : ∀ i, CDivX i m := fun i => divX_w (i := i) hm hm2
  have p1 : CPow 10 18 := by unfold CPow; decide
  unfold F_law_draw b_law_draw
  by_cases ha : a ≥ 1000000000000000000
  · simp [mkF, finS, env0, sSeq, sNil, sIf, sSet, sAsg, sExpr, sRet, sRetN, sPass, sNo, sPar, sPar3, sFor, Out.bind, Out.bindS, dVar, dC, d1, d2, dNil, dCons, dTup, dLst, dLstC, dCall, dFn, dIf, dML, dSl, oNone, oSome, dFrz, qB, qNot, qAnd, qOr, qTru, eNot, eAnd, eOr, gNm, gTupD, gsCons, gsNil, gIx, addD, subD, mulD, fdivD, modD, powD, negD, ltD, leD, gtD, geD, cmpD, chainD, both, asI, asS, asB, intX, lenD, tupleD, listD, listC, absD, max2D, min2D, itemsL, itemsT, itemsS, ixD, getD, atK, isC, isNonD, List.length_cons, List.length_nil, List.map_cons, List.map_nil, List.getElem?_cons_zero, List.getElem?_cons_succ, List.set_cons_zero, List.set_cons_succ, List.cons_append, List.nil_append, List.replicate_succ, List.replicate_zero, if_true, if_false, reduceIte, decide_eq_true_eq, L2.atI, L2.ixN, lenD1, DL.itL, itT, itA, itS, itR1, itR2, itEn, itEnA, itZ, sFldD, DL.putK, end_get, end_set, List.mem_cons, List.not_mem_nil, or_false, false_or, or_true, true_or, D.lt, D.ltL, Bool.and_true, Bool.true_and, trim_app, gA, g0, sA, s0, List.append_assoc, List.length_append, trim_len, fits_of, fitsL_of, in63_of, in63F_of, in62_of, lo63_of, hi63_of, hi63F_of, few_of, le640_of, h, ha, hm, hd, drawV, drawS, trim_len, p1]
  · have m1 : CMulX 7919 (c + 1) := mulX_l (by decide) (by decide)
    have m2 : CMulX (b + 7919 * (c + 1) + 1) 48271 := mulX_r (by decide) (by decide)
    have l1 := Int.emod_nonneg ((b + 7919 * (c + 1) + 1) * 48271) (show (2147483647 : Int) ≠ 0 by decide)
    have l2 := Int.emod_lt_of_pos ((b + 7919 * (c + 1) + 1) * 48271) (show (0 : Int) < 2147483647 by decide)
    have dd1 : ∀ i, CDivX i 2147483647 := fun i => divX_w (by decide) (by decide)
    have dd2 : ∀ i, CDivX i 2147483587 := fun i => divX_w (by decide) (by decide)
    have dd3 : ∀ i, CDivX i 2147483399 := fun i => divX_w (by decide) (by decide)
    have dd4 : ∀ i, CDivX i 1013 := fun i => divX_w (by decide) (by decide)
    have dd5 : ∀ i, CDivX i 7 := fun i => divX_w (by decide) (by decide)
    have dd6 : ∀ i, CDivX i 7919 := fun i => divX_w (by decide) (by decide)
    generalize hv1 : (b + 7919 * (c + 1) + 1) * 48271 % 2147483647 = v1 at l1 l2
    have m3 : CMulX v1 (v1 / 1013 + 69621) := mulX_l (by omega) (by omega)
    generalize hv2 : v1 * (v1 / 1013 + 69621) % 2147483587 = v2
    have m4 : CMulX (v2 % 7919) 40692 := mulX_r (by decide) (by decide)
    simp [mkF, finS, env0, sSeq, sNil, sIf, sSet, sAsg, sExpr, sRet, sRetN, sPass, sNo, sPar, sPar3, sFor, Out.bind, Out.bindS, dVar, dC, d1, d2, dNil, dCons, dTup, dLst, dLstC, dCall, dFn, dIf, dML, dSl, oNone, oSome, dFrz, qB, qNot, qAnd, qOr, qTru, eNot, eAnd, eOr, gNm, gTupD, gsCons, gsNil, gIx, addD, subD, mulD, fdivD, modD, powD, negD, ltD, leD, gtD, geD, cmpD, chainD, both, asI, asS, asB, intX, lenD, tupleD, listD, listC, absD, max2D, min2D, itemsL, itemsT, itemsS, ixD, getD, atK, isC, isNonD, List.length_cons, List.length_nil, List.map_cons, List.map_nil, List.getElem?_cons_zero, List.getElem?_cons_succ, List.set_cons_zero, List.set_cons_succ, List.cons_append, List.nil_append, List.replicate_succ, List.replicate_zero, if_true, if_false, reduceIte, decide_eq_true_eq, L2.atI, L2.ixN, lenD1, DL.itL, itT, itA, itS, itR1, itR2, itEn, itEnA, itZ, sFldD, DL.putK, end_get, end_set, List.mem_cons, List.not_mem_nil, or_false, false_or, or_true, true_or, D.lt, D.ltL, Bool.and_true, Bool.true_and, trim_app, gA, g0, sA, s0, List.append_assoc, List.length_append, trim_len, fits_of, fitsL_of, in63_of, in63F_of, in62_of, lo63_of, hi63_of, hi63F_of, few_of, le640_of, h, ha, hm, hd, drawV, drawS, trim_len, hs, m1, m2, m3, m4, dd1, dd2, dd3, dd4, dd5, dd6, hv1, hv2, p1]
theorem draw_ok {n : Nat} {cs : List Cell} {c : Cell} (h : cs[n]? = some c) (hs : isS c) (m : Int) (hm : 0 < m) (hm2 : m.natAbs.log2 < 9000) :
    ∃ r c', isS c' ∧ 0 ≤ r ∧ r < m ∧ F_law_draw [.cell n, .int m] cs = .ok (.int r) (cs.set n c') := by
  obtain ⟨a, b, d, rfl⟩ := hs
  refine ⟨drawV a b d m, .lst (drawS a b d m), ?_, ?_, ?_, F_draw h hm hm2⟩
  · unfold drawS
    split
    · exact ⟨_, _, _, rfl⟩
    · exact ⟨_, _, _, rfl⟩
  · unfold drawV
    split
    · exact Int.emod_nonneg _ (by omega)
    · exact Int.emod_nonneg _ (by omega)
  · unfold drawV
    split
    · exact Int.emod_lt_of_pos _ hm
    · exact Int.emod_lt_of_pos _ hm
theorem F_source (z : Int) (cs : List Cell) : ∃ c, isS c ∧ F_law_source [.int z] cs = .ok (.cell cs.length) (cs ++ [c]) := by
  refine ⟨.lst [.int (if z < 0 then -z else z), .int (z % 2147483629), .int 0], ⟨_, _, _, rfl⟩, ?_⟩
  have dd1 : CDivX z 2147483629 := divX_w (by decide) (by decide)
  unfold F_law_source b_law_source
  simp [mkF, finS, env0, sSeq, sNil, sIf, sSet, sAsg, sExpr, sRet, sRetN, sPass, sNo, sPar, sPar3, sFor, Out.bind, Out.bindS, dVar, dC, d1, d2, dNil, dCons, dTup, dLst, dLstC, dCall, dFn, dIf, dML, dSl, oNone, oSome, dFrz, qB, qNot, qAnd, qOr, qTru, eNot, eAnd, eOr, gNm, gTupD, gsCons, gsNil, gIx, addD, subD, mulD, fdivD, modD, powD, negD, ltD, leD, gtD, geD, cmpD, chainD, both, asI, asS, asB, intX, lenD, tupleD, listD, listC, absD, max2D, min2D, itemsL, itemsT, itemsS, ixD, getD, atK, isC, isNonD, List.length_cons, List.length_nil, List.map_cons, List.map_nil, List.getElem?_cons_zero, List.getElem?_cons_succ, List.set_cons_zero, List.set_cons_succ, List.cons_append, List.nil_append, List.replicate_succ, List.replicate_zero, if_true, if_false, reduceIte, decide_eq_true_eq, L2.atI, L2.ixN, lenD1, DL.itL, itT, itA, itS, itR1, itR2, itEn, itEnA, itZ, sFldD, DL.putK, end_get, end_set, List.mem_cons, List.not_mem_nil, or_false, false_or, or_true, true_or, D.lt, D.ltL, Bool.and_true, Bool.true_and, trim_app, gA, g0, sA, s0, List.append_assoc, List.length_append, trim_len, fits_of, fitsL_of, in63_of, in63F_of, in62_of, lo63_of, hi63_of, hi63F_of, few_of, le640_of, dd1, trim_no]
theorem pick_ok {n : Nat} {cs : List Cell} {c : Cell} (h : cs[n]? = some c) (hs : isS c) (xs : List D) (h1 : 1 ≤ xs.length) (h2 : xs.length ≤ 100) :
    ∃ x c', x ∈ xs ∧ isS c' ∧ F_law_pick [.cell n, .lst xs] cs = .ok x (cs.set n c') := by
  obtain ⟨r, c', s', r0, r1, e⟩ := draw_ok h hs (xs.length : Int) (by omega) (by
    have e1 : (xs.length : Int).natAbs = xs.length := by omega
    rw [e1]
    exact Nat.lt_of_le_of_lt (Nat.log2_le_self _) (by omega))
  have hr : r.toNat < xs.length := by omega
  have ha : L2.atI xs r = some xs[r.toNat] := atI_int r0 (List.getElem?_eq_getElem hr)
  have fl : fits xs.length := fits_of (by omega)
  refine ⟨xs[r.toNat], c', List.getElem_mem hr, s', ?_⟩
  have ha2 : ∀ cs, ixD (.lst xs) (.int r) cs = .ok xs[r.toNat] cs := fun cs => by
    unfold ixD asI
    simp only [itemsS, itemsL, ha]
  unfold F_law_pick b_law_pick
  simp only [mkF, finS, env0, sRet, Out.bind, Out.bindS, dCall, dCons, dNil, dVar, dFn, d2, lenD, lenD1, itemsS, itemsL, List.length_cons, List.length_nil, List.map_cons, List.map_nil, List.cons_append, List.nil_append, List.replicate_succ, List.replicate_zero, Nat.reduceAdd, Nat.reduceSub, if_true, List.getElem?_cons_zero, List.getElem?_cons_succ, e, ha2]
  rw [trim_len (by simp)]
theorem number_ok {n : Nat} {cs : List Cell} {c : Cell} (h : cs[n]? = some c) (hs : isS c) :
    ∃ z c', isS c' ∧ small z ∧ F_law_number [.cell n] cs = .ok (.int z) (cs.set n c') := by
  have hn := live_len h
  have p1 : CPow 10 30 := by unfold CPow; decide
  have p2 : CPow 10 9 := by unfold CPow; decide
  obtain ⟨r, c1, s1, r0, r1, e1⟩ := draw_ok h hs 1000000000 (by decide) (by decide)
  obtain ⟨q, c2, s2, q0, q1, e2⟩ := draw_ok (set_get (c := c1) hn) s1 1000 (by decide) (by decide)
  rw [List.set_set] at e2
  obtain ⟨x, c3, x3, s3, e3⟩ := pick_ok (set_get (c := c2) hn) s2 [.int 0, .int 1, .int 2, .int (-1), .int 7, .int (1000000000000000000000000000000 + r), .int (0 - (1000000000000000000000000000000 + r)), .int q] (by simp) (by simp)
  rw [List.set_set] at e3
  have hx : ∃ z, x = .int z ∧ small z := by
    simp only [List.mem_cons, List.not_mem_nil, or_false] at x3
    rcases x3 with r | r | r | r | r | r | r | r <;> exact ⟨_, r, by unfold small; omega⟩
  obtain ⟨z, rfl, hz⟩ := hx
  refine ⟨z, c3, s3, hz, ?_⟩
  have pw1 : ∀ cs, powD (.int 10) (.int 30) cs = .ok (.int 1000000000000000000000000000000) cs := fun cs => by unfold powD; simp [both, asI, p1]
  have pw2 : ∀ cs, powD (.int 10) (.int 9) cs = .ok (.int 1000000000) cs := fun cs => by unfold powD; simp [both, asI, p2]
  have ad : ∀ i j cs, addD (.int i) (.int j) cs = .ok (.int (i + j)) cs := fun _ _ _ => rfl
  have sb : ∀ i j cs, subD (.int i) (.int j) cs = .ok (.int (i - j)) cs := fun _ _ _ => rfl
  have ng : ∀ cs, negD (.int 1) cs = .ok (.int (-1)) cs := fun _ => rfl
  have f8 : fits 8 := fits_of (by omega)
  unfold F_law_number b_law_number
  simp only [mkF, finS, env0, sSeq, sSet, sRet, Out.bind, Out.bindS, dCall, dCons, dNil, dVar, dC, dFn, d2, d1, dLst, List.length_cons, List.length_nil, List.map_cons, List.map_nil, List.cons_append, List.nil_append, List.replicate_succ, List.replicate_zero, Nat.reduceAdd, Nat.reduceSub, if_true, List.getElem?_cons_zero, List.getElem?_cons_succ, List.set_cons_zero, List.set_cons_succ, pw1, pw2, ad, sb, ng, e1, e2, e3, if_pos f8]
  rw [trim_len (by simp)]
theorem sizes_ok {n : Nat} {cs : List Cell} {c : Cell} (h : cs[n]? = some c) (hs : isS c) :
    ∃ ys c', isS c' ∧ 1 ≤ ys.length ∧ ys.length ≤ 6 ∧ (∀ y ∈ ys, 1 ≤ y ∧ y ≤ 4) ∧ F_law_sizes [.cell n, .int 6] cs = .ok (.lst (ilist ys)) (cs.set n c') := by
  have hn := live_len h
  obtain ⟨r, c1, s1, r0, r1, e1⟩ := draw_ok h hs 6 (by decide) (by decide)
  have hi : in62 (1 + r) := in62_of (by omega) (by omega)
  obtain ⟨ds, c', s', p', l', e⟩ := lc_st (vs := [2]) (f := itR1 (dCons (d2 (dC (.int 1)) (dFn F_law_draw (dCons (dVar 0) (dCons (dVar 1) dNil))) addD) dNil)) (g := gNm 2) (h := ce_law_sizes_0) (env := [some (.cell n), some (.int 6), none])
    (P := fun d => ∃ y, d = .int y ∧ (1 ≤ y ∧ y ≤ 4)) (rngL 0 (1 + r).toNat) hn s1
    (by simp [itR1, dCons, dNil, d2, dC, dFn, dVar, Out.bind, e1, addD, both, asI, hi]) (by rw [rngL_length]; omega) (fun x hx c acc hc => by
      obtain ⟨q, c2, s2, q0, q1, e2⟩ := draw_ok (cs := cs.set n c ++ [.lst acc]) (app_get (set_get hn)) hc 4 (by decide) (by decide)
      rw [app_set (by simpa using hn), List.set_set] at e2
      refine ⟨_, .int (1 + q), c2, s2, ⟨1 + q, rfl, by omega, by omega⟩, rfl, ?_⟩
      show ce_law_sizes_0 [some (.cell n), some (.int 6), some x] _ = _
      simp [ce_law_sizes_0, d2, dC, dFn, dCons, dNil, dVar, Out.bind, e2, addD, both, asI])
    (fun d ⟨y, hy, _⟩ n => by subst hy; rfl)
  obtain ⟨ys, rfl, q⟩ := to_il ds p'
  rw [il_len, rngL_length] at l'
  refine ⟨ys, c', s', by omega, by omega, q, ?_⟩
  unfold F_law_sizes b_law_sizes
  simp only [mkF, finS, env0, sRet, Out.bindS, List.length_cons, List.length_nil, List.map_cons, List.map_nil, List.cons_append, List.nil_append, List.replicate_succ, List.replicate_zero, Nat.reduceAdd, Nat.reduceSub, if_true, e]
  rw [trim_len (by simp)]
/-! ### Memory, commands, programs -/
theorem mem_loop : ∀ (xs : List Int) (a b : Option D) (o : Option D) (cs : List Cell), (∀ x ∈ xs, 1 ≤ x ∧ x ≤ 4) → ∃ o', forL noChk (gNm 2) lb_Memory_init_0 (ilist xs) [a, b, o] cs = .nx [a, b, o'] cs
  | [], a, b, o, cs, _ => ⟨o, forL_nil trivial⟩
  | x :: xs, a, b, o, cs, h => by
    obtain ⟨h1, h2⟩ := h x List.mem_cons_self
    obtain ⟨o', e⟩ := mem_loop xs a b (some (.int x)) cs fun y hy => h y (List.mem_cons_of_mem _ hy)
    refine ⟨o', (forL_step (r := ilist xs) trivial rfl ?_).trans e⟩
    simp [lb_Memory_init_0, mkF, finS, env0, sSeq, sNil, sIf, sSet, sAsg, sExpr, sRet, sRetN, sPass, sNo, sPar, sPar3, sFor, Out.bind, Out.bindS, dVar, dC, d1, d2, dNil, dCons, dTup, dLst, dLstC, dCall, dFn, dIf, dML, dSl, oNone, oSome, dFrz, qB, qNot, qAnd, qOr, qTru, eNot, eAnd, eOr, gNm, gTupD, gsCons, gsNil, gIx, addD, subD, mulD, fdivD, modD, powD, negD, ltD, leD, gtD, geD, cmpD, chainD, both, asI, asS, asB, intX, lenD, tupleD, listD, listC, absD, max2D, min2D, itemsL, itemsT, itemsS, ixD, getD, atK, isC, isNonD, List.length_cons, List.length_nil, List.map_cons, List.map_nil, List.getElem?_cons_zero, List.getElem?_cons_succ, List.set_cons_zero, List.set_cons_succ, List.cons_append, List.nil_append, List.replicate_succ, List.replicate_zero, if_true, if_false, reduceIte, decide_eq_true_eq, L2.atI, L2.ixN, lenD1, DL.itL, itT, itA, itS, itR1, itR2, itEn, itEnA, itZ, sFldD, DL.putK, end_get, end_set, List.mem_cons, List.not_mem_nil, or_false, false_or, or_true, true_or, D.lt, D.ltL, Bool.and_true, Bool.true_and, trim_app, gA, g0, sA, s0, List.append_assoc, List.length_append, trim_len, fits_of, fitsL_of, in63_of, in63F_of, in62_of, lo63_of, hi63_of, hi63F_of, few_of, le640_of, sRaise, h1, h2]
theorem F_memory (xs : List Int) (x : D) (cs : List Cell) (hx : ∀ cs', itemsS (cs ++ cs') x = some (ilist xs)) (h1 : 1 ≤ xs.length) (h2 : xs.length ≤ 6) (h : ∀ x ∈ xs, 1 ≤ x ∧ x ≤ 4) :
    mkO od 7 F_Memory_init [x] cs = .ok (memD xs) cs := by
  unfold mkO F_Memory_init b_Memory_init memD
  have hb : xs.length ≤ 1000000 := by omega
  obtain ⟨o', e⟩ := mem_loop xs (some (.cell cs.length)) (some x) none (cs ++ [.ins 7 [5] [.tup (ilist xs)]]) h
  have hb2 : (1 : Int) ≤ (xs.length : Int) := by omega
  have hb3 : (xs.length : Int) ≤ 6 := by omega
  have hx0 := hx [.ins 7 [] []]
  simp [mkF, finS, env0, sSeq, sNil, sIf, sSet, sAsg, sExpr, sRet, sRetN, sPass, sNo, sPar, sPar3, sFor, Out.bind, Out.bindS, dVar, dC, d1, d2, dNil, dCons, dTup, dLst, dLstC, dCall, dFn, dIf, dML, dSl, oNone, oSome, dFrz, qB, qNot, qAnd, qOr, qTru, eNot, eAnd, eOr, gNm, gTupD, gsCons, gsNil, gIx, addD, subD, mulD, fdivD, modD, powD, negD, ltD, leD, gtD, geD, cmpD, chainD, both, asI, asS, asB, intX, lenD, listD, listC, absD, max2D, min2D, ixD, getD, atK, isC, isNonD, List.length_cons, List.length_nil, List.map_cons, List.map_nil, List.getElem?_cons_zero, List.getElem?_cons_succ, List.set_cons_zero, List.set_cons_succ, List.cons_append, List.nil_append, List.replicate_succ, List.replicate_zero, if_true, if_false, reduceIte, decide_eq_true_eq, L2.atI, L2.ixN, lenD1, DL.itL, itT, itA, itS, itR1, itR2, itEn, itEnA, itZ, sFldD, DL.putK, end_get, end_set, List.mem_cons, List.not_mem_nil, or_false, false_or, or_true, true_or, D.lt, D.ltL, Bool.and_true, Bool.true_and, trim_app, gA, g0, sA, s0, List.append_assoc, List.length_append, trim_len, fits_of, fitsL_of, in63_of, in63F_of, in62_of, lo63_of, hi63_of, hi63F_of, few_of, le640_of, sRaise, tupleD, hx0, od, il_len, hb2, hb3, hb, e, ltL_il]
  simp [itemsS, itemsT, il_len, hb2, hb3, hb, e, ltL_il, mkF, finS, env0, sSeq, sNil, sIf, sSet, sAsg, sExpr, sRet, sRetN, sPass, sNo, sPar, sPar3, sFor, Out.bind, Out.bindS, dVar, dC, d1, d2, dNil, dCons, dTup, dLst, dLstC, dCall, dFn, dIf, dML, dSl, oNone, oSome, dFrz, qB, qNot, qAnd, qOr, qTru, eNot, eAnd, eOr, gNm, gTupD, gsCons, gsNil, gIx, addD, subD, mulD, fdivD, modD, powD, negD, ltD, leD, gtD, geD, cmpD, chainD, both, asI, asS, asB, intX, lenD, listD, listC, absD, max2D, min2D, ixD, getD, atK, isC, isNonD, List.length_cons, List.length_nil, List.map_cons, List.map_nil, List.getElem?_cons_zero, List.getElem?_cons_succ, List.set_cons_zero, List.set_cons_succ, List.cons_append, List.nil_append, List.replicate_succ, List.replicate_zero, if_true, if_false, reduceIte, decide_eq_true_eq, L2.atI, L2.ixN, lenD1, DL.itL, itT, itA, itS, itR1, itR2, itEn, itEnA, itZ, sFldD, DL.putK, end_get, end_set, List.mem_cons, List.not_mem_nil, or_false, false_or, or_true, true_or, D.lt, D.ltL, Bool.and_true, Bool.true_and, trim_app, gA, g0, sA, s0, List.append_assoc, List.length_append, trim_len, fits_of, fitsL_of, in63_of, in63F_of, in62_of, lo63_of, hi63_of, hi63F_of, few_of, le640_of, sRaise]
/-! ### what check says -/
theorem F_check_line_eq (xs : List Int) (l : Int) (cs : List Cell) (hb : xs.length ≤ 6) : F_Memory_check_line [memD xs, .int l] cs = orE (lineE xs l) .non cs := by
  have hb2 : xs.length ≤ 1000000 := by omega
  unfold F_Memory_check_line b_Memory_check_line memD lineE
  by_cases h0 : 0 ≤ l
  · by_cases h1 : l < (xs.length : Int)
    · simp [mkF, finS, env0, sSeq, sNil, sIf, sSet, sAsg, sExpr, sRet, sRetN, sPass, sNo, sPar, sPar3, sFor, Out.bind, Out.bindS, dVar, dC, d1, d2, dNil, dCons, dTup, dLst, dLstC, dCall, dFn, dIf, dML, dSl, oNone, oSome, dFrz, qB, qNot, qAnd, qOr, qTru, eNot, eAnd, eOr, gNm, gTupD, gsCons, gsNil, gIx, addD, subD, mulD, fdivD, modD, powD, negD, ltD, leD, gtD, geD, cmpD, chainD, both, asI, asS, asB, intX, lenD, tupleD, listD, listC, absD, max2D, min2D, itemsL, itemsT, itemsS, ixD, getD, atK, isC, isNonD, List.length_cons, List.length_nil, List.map_cons, List.map_nil, List.getElem?_cons_zero, List.getElem?_cons_succ, List.set_cons_zero, List.set_cons_succ, List.cons_append, List.nil_append, List.replicate_succ, List.replicate_zero, if_true, if_false, reduceIte, decide_eq_true_eq, L2.atI, L2.ixN, lenD1, DL.itL, itT, itA, itS, itR1, itR2, itEn, itEnA, itZ, sFldD, DL.putK, end_get, end_set, List.mem_cons, List.not_mem_nil, or_false, false_or, or_true, true_or, D.lt, D.ltL, Bool.and_true, Bool.true_and, trim_app, gA, g0, sA, s0, List.append_assoc, List.length_append, trim_len, fits_of, fitsL_of, in63_of, in63F_of, in62_of, lo63_of, hi63_of, hi63F_of, few_of, le640_of, sRaise, od, il_len, hb2, h0, h1, trim_len, orE]
    · simp [mkF, finS, env0, sSeq, sNil, sIf, sSet, sAsg, sExpr, sRet, sRetN, sPass, sNo, sPar, sPar3, sFor, Out.bind, Out.bindS, dVar, dC, d1, d2, dNil, dCons, dTup, dLst, dLstC, dCall, dFn, dIf, dML, dSl, oNone, oSome, dFrz, qB, qNot, qAnd, qOr, qTru, eNot, eAnd, eOr, gNm, gTupD, gsCons, gsNil, gIx, addD, subD, mulD, fdivD, modD, powD, negD, ltD, leD, gtD, geD, cmpD, chainD, both, asI, asS, asB, intX, lenD, tupleD, listD, listC, absD, max2D, min2D, itemsL, itemsT, itemsS, ixD, getD, atK, isC, isNonD, List.length_cons, List.length_nil, List.map_cons, List.map_nil, List.getElem?_cons_zero, List.getElem?_cons_succ, List.set_cons_zero, List.set_cons_succ, List.cons_append, List.nil_append, List.replicate_succ, List.replicate_zero, if_true, if_false, reduceIte, decide_eq_true_eq, L2.atI, L2.ixN, lenD1, DL.itL, itT, itA, itS, itR1, itR2, itEn, itEnA, itZ, sFldD, DL.putK, end_get, end_set, List.mem_cons, List.not_mem_nil, or_false, false_or, or_true, true_or, D.lt, D.ltL, Bool.and_true, Bool.true_and, trim_app, gA, g0, sA, s0, List.append_assoc, List.length_append, trim_len, fits_of, fitsL_of, in63_of, in63F_of, in62_of, lo63_of, hi63_of, hi63F_of, few_of, le640_of, sRaise, od, il_len, hb2, h0, h1, trim_self, orE, Er.exn, Er.c, Er.ks, Er.fs, Int.not_lt.mp h1]
  · simp [mkF, finS, env0, sSeq, sNil, sIf, sSet, sAsg, sExpr, sRet, sRetN, sPass, sNo, sPar, sPar3, sFor, Out.bind, Out.bindS, dVar, dC, d1, d2, dNil, dCons, dTup, dLst, dLstC, dCall, dFn, dIf, dML, dSl, oNone, oSome, dFrz, qB, qNot, qAnd, qOr, qTru, eNot, eAnd, eOr, gNm, gTupD, gsCons, gsNil, gIx, addD, subD, mulD, fdivD, modD, powD, negD, ltD, leD, gtD, geD, cmpD, chainD, both, asI, asS, asB, intX, lenD, tupleD, listD, listC, absD, max2D, min2D, itemsL, itemsT, itemsS, ixD, getD, atK, isC, isNonD, List.length_cons, List.length_nil, List.map_cons, List.map_nil, List.getElem?_cons_zero, List.getElem?_cons_succ, List.set_cons_zero, List.set_cons_succ, List.cons_append, List.nil_append, List.replicate_succ, List.replicate_zero, if_true, if_false, reduceIte, decide_eq_true_eq, L2.atI, L2.ixN, lenD1, DL.itL, itT, itA, itS, itR1, itR2, itEn, itEnA, itZ, sFldD, DL.putK, end_get, end_set, List.mem_cons, List.not_mem_nil, or_false, false_or, or_true, true_or, D.lt, D.ltL, Bool.and_true, Bool.true_and, trim_app, gA, g0, sA, s0, List.append_assoc, List.length_append, trim_len, fits_of, fitsL_of, in63_of, in63F_of, in62_of, lo63_of, hi63_of, hi63F_of, few_of, le640_of, sRaise, od, il_len, hb2, h0, trim_self, orE, Er.exn, Er.c, Er.ks, Er.fs, Int.not_le.mp h0]
theorem F_check_word_eq (xs : List Int) (l w : Int) (cs : List Cell) (hb : xs.length ≤ 6) : F_Memory_check_word [memD xs, .int l, .int w] cs = orE (wordE xs l w) .non cs := by
  have e := F_check_line_eq xs l cs hb
  have hb2 : xs.length ≤ 1000000 := by omega
  unfold F_Memory_check_word b_Memory_check_word wordE
  unfold memD at e ⊢
  cases hl : lineE xs l with
  | some k =>
    rw [hl] at e
    have := ltL_erfs k
    simp [mkF, finS, env0, sSeq, sNil, sIf, sSet, sAsg, sExpr, sRet, sRetN, sPass, sNo, sPar, sPar3, sFor, Out.bind, Out.bindS, dVar, dC, d1, d2, dNil, dCons, dTup, dLst, dLstC, dCall, dFn, dIf, dML, dSl, oNone, oSome, dFrz, qB, qNot, qAnd, qOr, qTru, eNot, eAnd, eOr, gNm, gTupD, gsCons, gsNil, gIx, addD, subD, mulD, fdivD, modD, powD, negD, ltD, leD, gtD, geD, cmpD, chainD, both, asI, asS, asB, intX, lenD, tupleD, listD, listC, absD, max2D, min2D, itemsL, itemsT, itemsS, ixD, getD, atK, isC, isNonD, List.length_cons, List.length_nil, List.map_cons, List.map_nil, List.getElem?_cons_zero, List.getElem?_cons_succ, List.set_cons_zero, List.set_cons_succ, List.cons_append, List.nil_append, List.replicate_succ, List.replicate_zero, if_true, if_false, reduceIte, decide_eq_true_eq, L2.atI, L2.ixN, lenD1, DL.itL, itT, itA, itS, itR1, itR2, itEn, itEnA, itZ, sFldD, DL.putK, end_get, end_set, List.mem_cons, List.not_mem_nil, or_false, false_or, or_true, true_or, D.lt, D.ltL, Bool.and_true, Bool.true_and, trim_app, gA, g0, sA, s0, List.append_assoc, List.length_append, trim_len, fits_of, fitsL_of, in63_of, in63F_of, in62_of, lo63_of, hi63_of, hi63F_of, few_of, le640_of, dMth, clsOf, lk_check_line_7, e, orE, Er.exn, trim_self, this]
  | none =>
    rw [hl] at e
    have hh : 0 ≤ l ∧ l < (xs.length : Int) := by
      unfold lineE at hl
      by_cases q : 0 ≤ l ∧ l < (xs.length : Int)
      · exact q
      · rw [if_neg q] at hl; cases hl
    obtain ⟨h0, h1⟩ := hh
    obtain ⟨n, rfl⟩ := Int.eq_ofNat_of_zero_le h0
    have hn : n < xs.length := by omega
    have hg : xs.getD n 0 = xs[n] := by simp [hn]
    have tn : (n : Int).toNat = n := by omega
    simp only [tn, hg]
    by_cases w0 : 0 ≤ w
    · by_cases w1 : w < xs[n]
      · simp [mkF, finS, env0, sSeq, sNil, sIf, sSet, sAsg, sExpr, sRet, sRetN, sPass, sNo, sPar, sPar3, sFor, Out.bind, Out.bindS, dVar, dC, d1, d2, dNil, dCons, dTup, dLst, dLstC, dCall, dFn, dIf, dML, dSl, oNone, oSome, dFrz, qB, qNot, qAnd, qOr, qTru, eNot, eAnd, eOr, gNm, gTupD, gsCons, gsNil, gIx, addD, subD, mulD, fdivD, modD, powD, negD, ltD, leD, gtD, geD, cmpD, chainD, both, asI, asS, asB, intX, lenD, tupleD, listD, listC, absD, max2D, min2D, itemsL, itemsT, itemsS, ixD, getD, atK, isC, isNonD, List.length_cons, List.length_nil, List.map_cons, List.map_nil, List.getElem?_cons_zero, List.getElem?_cons_succ, List.set_cons_zero, List.set_cons_succ, List.cons_append, List.nil_append, List.replicate_succ, List.replicate_zero, if_true, if_false, reduceIte, decide_eq_true_eq, L2.atI, L2.ixN, lenD1, DL.itL, itT, itA, itS, itR1, itR2, itEn, itEnA, itZ, sFldD, DL.putK, end_get, end_set, List.mem_cons, List.not_mem_nil, or_false, false_or, or_true, true_or, D.lt, D.ltL, Bool.and_true, Bool.true_and, trim_app, gA, g0, sA, s0, List.append_assoc, List.length_append, trim_len, fits_of, fitsL_of, in63_of, in63F_of, in62_of, lo63_of, hi63_of, hi63F_of, few_of, le640_of, dMth, clsOf, lk_check_line_7, e, orE, od, w0, w1, trim_self, il_get, il_len, hn]
      · simp [mkF, finS, env0, sSeq, sNil, sIf, sSet, sAsg, sExpr, sRet, sRetN, sPass, sNo, sPar, sPar3, sFor, Out.bind, Out.bindS, dVar, dC, d1, d2, dNil, dCons, dTup, dLst, dLstC, dCall, dFn, dIf, dML, dSl, oNone, oSome, dFrz, qB, qNot, qAnd, qOr, qTru, eNot, eAnd, eOr, gNm, gTupD, gsCons, gsNil, gIx, addD, subD, mulD, fdivD, modD, powD, negD, ltD, leD, gtD, geD, cmpD, chainD, both, asI, asS, asB, intX, lenD, tupleD, listD, listC, absD, max2D, min2D, itemsL, itemsT, itemsS, ixD, getD, atK, isC, isNonD, List.length_cons, List.length_nil, List.map_cons, List.map_nil, List.getElem?_cons_zero, List.getElem?_cons_succ, List.set_cons_zero, List.set_cons_succ, List.cons_append, List.nil_append, List.replicate_succ, List.replicate_zero, if_true, if_false, reduceIte, decide_eq_true_eq, L2.atI, L2.ixN, lenD1, DL.itL, itT, itA, itS, itR1, itR2, itEn, itEnA, itZ, sFldD, DL.putK, end_get, end_set, List.mem_cons, List.not_mem_nil, or_false, false_or, or_true, true_or, D.lt, D.ltL, Bool.and_true, Bool.true_and, trim_app, gA, g0, sA, s0, List.append_assoc, List.length_append, trim_len, fits_of, fitsL_of, in63_of, in63F_of, in62_of, lo63_of, hi63_of, hi63F_of, few_of, le640_of, dMth, clsOf, lk_check_line_7, e, orE, od, w0, w1, trim_self, sRaise, Er.exn, Er.c, Er.ks, Er.fs, il_get, il_len, hn, Int.not_lt.mp w1]
    · simp [mkF, finS, env0, sSeq, sNil, sIf, sSet, sAsg, sExpr, sRet, sRetN, sPass, sNo, sPar, sPar3, sFor, Out.bind, Out.bindS, dVar, dC, d1, d2, dNil, dCons, dTup, dLst, dLstC, dCall, dFn, dIf, dML, dSl, oNone, oSome, dFrz, qB, qNot, qAnd, qOr, qTru, eNot, eAnd, eOr, gNm, gTupD, gsCons, gsNil, gIx, addD, subD, mulD, fdivD, modD, powD, negD, ltD, leD, gtD, geD, cmpD, chainD, both, asI, asS, asB, intX, lenD, tupleD, listD, listC, absD, max2D, min2D, itemsL, itemsT, itemsS, ixD, getD, atK, isC, isNonD, List.length_cons, List.length_nil, List.map_cons, List.map_nil, List.getElem?_cons_zero, List.getElem?_cons_succ, List.set_cons_zero, List.set_cons_succ, List.cons_append, List.nil_append, List.replicate_succ, List.replicate_zero, if_true, if_false, reduceIte, decide_eq_true_eq, L2.atI, L2.ixN, lenD1, DL.itL, itT, itA, itS, itR1, itR2, itEn, itEnA, itZ, sFldD, DL.putK, end_get, end_set, List.mem_cons, List.not_mem_nil, or_false, false_or, or_true, true_or, D.lt, D.ltL, Bool.and_true, Bool.true_and, trim_app, gA, g0, sA, s0, List.append_assoc, List.length_append, trim_len, fits_of, fitsL_of, in63_of, in63F_of, in62_of, lo63_of, hi63_of, hi63F_of, few_of, le640_of, dMth, clsOf, lk_check_line_7, e, orE, od, w0, trim_self, sRaise, Er.exn, Er.c, Er.ks, Er.fs, Int.not_le.mp w0, il_get, il_len, hn]
theorem F_cz_check (xs : List Int) (hb : xs.length ≤ 6) (c : Cz) (b : Option D) (cs : List Cell) : dMth od (fun c => disp_check.lookup c) (dVar 2) (dCons (dVar 0) dNil) [some (memD xs), b, some c.ob] cs = orE (c.err xs) .non cs := by
  cases c with
  | S l w n =>
    have e := F_check_word_eq xs l w cs hb
    have e2 : F_Store_check [(Cz.S l w n).ob, memD xs] cs = orE (wordE xs l w) .non cs := by
      unfold F_Store_check b_Store_check Cz.ob
      unfold memD at e ⊢
      cases hk : wordE xs l w with
      | none => rw [hk] at e; simp [mkF, finS, env0, sSeq, sNil, sIf, sSet, sAsg, sExpr, sRet, sRetN, sPass, sNo, sPar, sPar3, sFor, Out.bind, Out.bindS, dVar, dC, d1, d2, dNil, dCons, dTup, dLst, dLstC, dCall, dFn, dIf, dML, dSl, oNone, oSome, dFrz, qB, qNot, qAnd, qOr, qTru, eNot, eAnd, eOr, gNm, gTupD, gsCons, gsNil, gIx, addD, subD, mulD, fdivD, modD, powD, negD, ltD, leD, gtD, geD, cmpD, chainD, both, asI, asS, asB, intX, lenD, tupleD, listD, listC, absD, max2D, min2D, itemsL, itemsT, itemsS, ixD, getD, atK, isC, isNonD, List.length_cons, List.length_nil, List.map_cons, List.map_nil, List.getElem?_cons_zero, List.getElem?_cons_succ, List.set_cons_zero, List.set_cons_succ, List.cons_append, List.nil_append, List.replicate_succ, List.replicate_zero, if_true, if_false, reduceIte, decide_eq_true_eq, L2.atI, L2.ixN, lenD1, DL.itL, itT, itA, itS, itR1, itR2, itEn, itEnA, itZ, sFldD, DL.putK, end_get, end_set, List.mem_cons, List.not_mem_nil, or_false, false_or, or_true, true_or, D.lt, D.ltL, Bool.and_true, Bool.true_and, trim_app, gA, g0, sA, s0, List.append_assoc, List.length_append, trim_len, fits_of, fitsL_of, in63_of, in63F_of, in62_of, lo63_of, hi63_of, hi63F_of, few_of, le640_of, dMth, clsOf, lk_check_word_7, e, od, orE, trim_self]
      | some k =>
        rw [hk] at e
        have := ltL_erfs k
        simp [mkF, finS, env0, sSeq, sNil, sIf, sSet, sAsg, sExpr, sRet, sRetN, sPass, sNo, sPar, sPar3, sFor, Out.bind, Out.bindS, dVar, dC, d1, d2, dNil, dCons, dTup, dLst, dLstC, dCall, dFn, dIf, dML, dSl, oNone, oSome, dFrz, qB, qNot, qAnd, qOr, qTru, eNot, eAnd, eOr, gNm, gTupD, gsCons, gsNil, gIx, addD, subD, mulD, fdivD, modD, powD, negD, ltD, leD, gtD, geD, cmpD, chainD, both, asI, asS, asB, intX, lenD, tupleD, listD, listC, absD, max2D, min2D, itemsL, itemsT, itemsS, ixD, getD, atK, isC, isNonD, List.length_cons, List.length_nil, List.map_cons, List.map_nil, List.getElem?_cons_zero, List.getElem?_cons_succ, List.set_cons_zero, List.set_cons_succ, List.cons_append, List.nil_append, List.replicate_succ, List.replicate_zero, if_true, if_false, reduceIte, decide_eq_true_eq, L2.atI, L2.ixN, lenD1, DL.itL, itT, itA, itS, itR1, itR2, itEn, itEnA, itZ, sFldD, DL.putK, end_get, end_set, List.mem_cons, List.not_mem_nil, or_false, false_or, or_true, true_or, D.lt, D.ltL, Bool.and_true, Bool.true_and, trim_app, gA, g0, sA, s0, List.append_assoc, List.length_append, trim_len, fits_of, fitsL_of, in63_of, in63F_of, in62_of, lo63_of, hi63_of, hi63F_of, few_of, le640_of, dMth, clsOf, lk_check_word_7, e, od, orE, trim_self, Er.exn, this]
    simp [dMth, dVar, dCons, dNil, Cz.ob, Out.bind, clsOf, lk_check_9] at e2 ⊢
    exact e2
  | F l =>
    have e := F_check_line_eq xs l cs hb
    have e2 : F_Flush_check [(Cz.F l).ob, memD xs] cs = orE (lineE xs l) .non cs := by
      unfold F_Flush_check b_Flush_check Cz.ob
      unfold memD at e ⊢
      cases hk : lineE xs l with
      | none => rw [hk] at e; simp [mkF, finS, env0, sSeq, sNil, sIf, sSet, sAsg, sExpr, sRet, sRetN, sPass, sNo, sPar, sPar3, sFor, Out.bind, Out.bindS, dVar, dC, d1, d2, dNil, dCons, dTup, dLst, dLstC, dCall, dFn, dIf, dML, dSl, oNone, oSome, dFrz, qB, qNot, qAnd, qOr, qTru, eNot, eAnd, eOr, gNm, gTupD, gsCons, gsNil, gIx, addD, subD, mulD, fdivD, modD, powD, negD, ltD, leD, gtD, geD, cmpD, chainD, both, asI, asS, asB, intX, lenD, tupleD, listD, listC, absD, max2D, min2D, itemsL, itemsT, itemsS, ixD, getD, atK, isC, isNonD, List.length_cons, List.length_nil, List.map_cons, List.map_nil, List.getElem?_cons_zero, List.getElem?_cons_succ, List.set_cons_zero, List.set_cons_succ, List.cons_append, List.nil_append, List.replicate_succ, List.replicate_zero, if_true, if_false, reduceIte, decide_eq_true_eq, L2.atI, L2.ixN, lenD1, DL.itL, itT, itA, itS, itR1, itR2, itEn, itEnA, itZ, sFldD, DL.putK, end_get, end_set, List.mem_cons, List.not_mem_nil, or_false, false_or, or_true, true_or, D.lt, D.ltL, Bool.and_true, Bool.true_and, trim_app, gA, g0, sA, s0, List.append_assoc, List.length_append, trim_len, fits_of, fitsL_of, in63_of, in63F_of, in62_of, lo63_of, hi63_of, hi63F_of, few_of, le640_of, dMth, clsOf, lk_check_line_7, e, od, orE, trim_self]
      | some k =>
        rw [hk] at e
        have := ltL_erfs k
        simp [mkF, finS, env0, sSeq, sNil, sIf, sSet, sAsg, sExpr, sRet, sRetN, sPass, sNo, sPar, sPar3, sFor, Out.bind, Out.bindS, dVar, dC, d1, d2, dNil, dCons, dTup, dLst, dLstC, dCall, dFn, dIf, dML, dSl, oNone, oSome, dFrz, qB, qNot, qAnd, qOr, qTru, eNot, eAnd, eOr, gNm, gTupD, gsCons, gsNil, gIx, addD, subD, mulD, fdivD, modD, powD, negD, ltD, leD, gtD, geD, cmpD, chainD, both, asI, asS, asB, intX, lenD, tupleD, listD, listC, absD, max2D, min2D, itemsL, itemsT, itemsS, ixD, getD, atK, isC, isNonD, List.length_cons, List.length_nil, List.map_cons, List.map_nil, List.getElem?_cons_zero, List.getElem?_cons_succ, List.set_cons_zero, List.set_cons_succ, List.cons_append, List.nil_append, List.replicate_succ, List.replicate_zero, if_true, if_false, reduceIte, decide_eq_true_eq, L2.atI, L2.ixN, lenD1, DL.itL, itT, itA, itS, itR1, itR2, itEn, itEnA, itZ, sFldD, DL.putK, end_get, end_set, List.mem_cons, List.not_mem_nil, or_false, false_or, or_true, true_or, D.lt, D.ltL, Bool.and_true, Bool.true_and, trim_app, gA, g0, sA, s0, List.append_assoc, List.length_append, trim_len, fits_of, fitsL_of, in63_of, in63F_of, in62_of, lo63_of, hi63_of, hi63F_of, few_of, le640_of, dMth, clsOf, lk_check_line_7, e, od, orE, trim_self, Er.exn, this]
    simp [dMth, dVar, dCons, dNil, Cz.ob, Out.bind, clsOf, lk_check_10] at e2 ⊢
    exact e2
  | X =>
    have e2 : F_Command_check [Cz.X.ob, memD xs] cs = .ok .non cs := by
      unfold F_Command_check b_Command_check
      simp [mkF, finS, env0, sSeq, sNil, sIf, sSet, sAsg, sExpr, sRet, sRetN, sPass, sNo, sPar, sPar3, sFor, Out.bind, Out.bindS, dVar, dC, d1, d2, dNil, dCons, dTup, dLst, dLstC, dCall, dFn, dIf, dML, dSl, oNone, oSome, dFrz, qB, qNot, qAnd, qOr, qTru, eNot, eAnd, eOr, gNm, gTupD, gsCons, gsNil, gIx, addD, subD, mulD, fdivD, modD, powD, negD, ltD, leD, gtD, geD, cmpD, chainD, both, asI, asS, asB, intX, lenD, tupleD, listD, listC, absD, max2D, min2D, itemsL, itemsT, itemsS, ixD, getD, atK, isC, isNonD, List.length_cons, List.length_nil, List.map_cons, List.map_nil, List.getElem?_cons_zero, List.getElem?_cons_succ, List.set_cons_zero, List.set_cons_succ, List.cons_append, List.nil_append, List.replicate_succ, List.replicate_zero, if_true, if_false, reduceIte, decide_eq_true_eq, L2.atI, L2.ixN, lenD1, DL.itL, itT, itA, itS, itR1, itR2, itEn, itEnA, itZ, sFldD, DL.putK, end_get, end_set, List.mem_cons, List.not_mem_nil, or_false, false_or, or_true, true_or, D.lt, D.ltL, Bool.and_true, Bool.true_and, trim_app, gA, g0, sA, s0, List.append_assoc, List.length_append, trim_len, fits_of, fitsL_of, in63_of, in63F_of, in62_of, lo63_of, hi63_of, hi63F_of, few_of, le640_of, trim_self]
    simp [dMth, dVar, dCons, dNil, Cz.ob, Out.bind, clsOf, lk_check_11] at e2 ⊢
    exact e2
theorem chk_loop (xs : List Int) (hb : xs.length ≤ 6) (b : Option D) : ∀ (r : List Cz) (o : Option D) (cs : List Cell),
    (errs xs r = none → ∃ o', forL noChk (gNm 2) lb_check_commands_0 (obz r) [some (memD xs), b, o] cs = .nx [some (memD xs), b, o'] cs) ∧
    (∀ k, errs xs r = some k → ∃ env', forL noChk (gNm 2) lb_check_commands_0 (obz r) [some (memD xs), b, o] cs = .ex k.c k.ks k.fs env' cs)
  | [], o, cs => ⟨fun _ => ⟨o, forL_nil trivial⟩, fun k h => by cases h⟩
  | c :: r, o, cs => by
    obtain ⟨i1, i2⟩ := chk_loop xs hb b r (some c.ob) cs
    have e := F_cz_check xs hb c b cs
    unfold errs
    cases hk : c.err xs with
    | none =>
      rw [hk] at e
      have st : lb_check_commands_0 [some (memD xs), b, some c.ob] cs = .nx [some (memD xs), b, some c.ob] cs := by
        unfold lb_check_commands_0 sExpr
        rw [e]; rfl
      refine ⟨fun h => ?_, fun k h => ?_⟩
      · obtain ⟨o', q⟩ := i1 h
        exact ⟨o', (forL_step (r := obz r) trivial rfl st).trans q⟩
      · obtain ⟨o', q⟩ := i2 k h
        exact ⟨o', (forL_step (r := obz r) trivial rfl st).trans q⟩
    | some k =>
      rw [hk] at e
      refine ⟨fun h => (nomatch h), fun k' h => ?_⟩
      cases h
      refine ⟨_, forL_ex (r := obz r) (env1 := [some (memD xs), b, some c.ob]) (env2 := [some (memD xs), b, some c.ob]) (cs1 := cs) trivial rfl ?_⟩
      unfold lb_check_commands_0 sExpr
      rw [e]; rfl
theorem F_check_commands_eq (xs : List Int) (hb : xs.length ≤ 6) (r : List Cz) (cs : List Cell) : F_check_commands [memD xs, .tup (obz r)] cs = orE (errs xs r) .non cs := by
  obtain ⟨i1, i2⟩ := chk_loop xs hb (some (.tup (obz r))) r none cs
  unfold F_check_commands b_check_commands
  cases hk : errs xs r with
  | none =>
    obtain ⟨o', e⟩ := i1 hk
    simp [mkF, finS, env0, sSeq, sNil, sIf, sSet, sAsg, sExpr, sRet, sRetN, sPass, sNo, sPar, sPar3, sFor, Out.bind, Out.bindS, dVar, dC, d1, d2, dNil, dCons, dTup, dLst, dLstC, dCall, dFn, dIf, dML, dSl, oNone, oSome, dFrz, qB, qNot, qAnd, qOr, qTru, eNot, eAnd, eOr, gNm, gTupD, gsCons, gsNil, gIx, addD, subD, mulD, fdivD, modD, powD, negD, ltD, leD, gtD, geD, cmpD, chainD, both, asI, asS, asB, intX, lenD, tupleD, listD, listC, absD, max2D, min2D, itemsL, itemsT, itemsS, ixD, getD, atK, isC, isNonD, List.length_cons, List.length_nil, List.map_cons, List.map_nil, List.getElem?_cons_zero, List.getElem?_cons_succ, List.set_cons_zero, List.set_cons_succ, List.cons_append, List.nil_append, List.replicate_succ, List.replicate_zero, if_true, if_false, reduceIte, decide_eq_true_eq, L2.atI, L2.ixN, lenD1, DL.itL, itT, itA, itS, itR1, itR2, itEn, itEnA, itZ, sFldD, DL.putK, end_get, end_set, List.mem_cons, List.not_mem_nil, or_false, false_or, or_true, true_or, D.lt, D.ltL, Bool.and_true, Bool.true_and, trim_app, gA, g0, sA, s0, List.append_assoc, List.length_append, trim_len, fits_of, fitsL_of, in63_of, in63F_of, in62_of, lo63_of, hi63_of, hi63F_of, few_of, le640_of, e, orE, trim_self]
  | some k =>
    obtain ⟨env', e⟩ := i2 k hk
    have := ltL_erfs k
    simp [mkF, finS, env0, sSeq, sNil, sIf, sSet, sAsg, sExpr, sRet, sRetN, sPass, sNo, sPar, sPar3, sFor, Out.bind, Out.bindS, dVar, dC, d1, d2, dNil, dCons, dTup, dLst, dLstC, dCall, dFn, dIf, dML, dSl, oNone, oSome, dFrz, qB, qNot, qAnd, qOr, qTru, eNot, eAnd, eOr, gNm, gTupD, gsCons, gsNil, gIx, addD, subD, mulD, fdivD, modD, powD, negD, ltD, leD, gtD, geD, cmpD, chainD, both, asI, asS, asB, intX, lenD, tupleD, listD, listC, absD, max2D, min2D, itemsL, itemsT, itemsS, ixD, getD, atK, isC, isNonD, List.length_cons, List.length_nil, List.map_cons, List.map_nil, List.getElem?_cons_zero, List.getElem?_cons_succ, List.set_cons_zero, List.set_cons_succ, List.cons_append, List.nil_append, List.replicate_succ, List.replicate_zero, if_true, if_false, reduceIte, decide_eq_true_eq, L2.atI, L2.ixN, lenD1, DL.itL, itT, itA, itS, itR1, itR2, itEn, itEnA, itZ, sFldD, DL.putK, end_get, end_set, List.mem_cons, List.not_mem_nil, or_false, false_or, or_true, true_or, D.lt, D.ltL, Bool.and_true, Bool.true_and, trim_app, gA, g0, sA, s0, List.append_assoc, List.length_append, trim_len, fits_of, fitsL_of, in63_of, in63F_of, in62_of, lo63_of, hi63_of, hi63F_of, few_of, le640_of, e, orE, trim_self, Er.exn, this]
theorem F_program_eq (xs : List Int) (hb : xs.length ≤ 6) (r : List Cz) (hr : r.length ≤ 100000) (cs : List Cell) : mkO od 12 F_Program_init [memD xs, .lst (obz r)] cs = orE (progErr xs r) (progZ xs r) cs := by
  have e : ∀ cs, _ := fun cs => F_check_commands_eq xs hb r cs
  have f : fits r.length := fits_of (by omega)
  have l0 : D.ltL cs.length [memD xs, .tup (obz r)] = true := by
    show (D.lt cs.length (memD xs) && (D.ltL cs.length (obz r) && true)) = true
    rw [lt_mem, ltL_obz]; rfl
  unfold mkO F_Program_init b_Program_init progErr progZ
  by_cases h : 200 < r.length
  · have hr2 : (200 : Int) < (r.length : Int) := by omega
    simp [mkF, finS, env0, sSeq, sIf, sNil, sNo, sExpr, qB, d1, d2, dVar, dC, dCall, dCons, dNil, dFn, Out.bind, Out.bindS, sFldD, DL.putK, od, tupleD, lenD, lenD1, getD, gtD, cmpD, both, asI, itemsS, itemsL, end_get, end_set, obz_len, hr2, h, f, e, few_of, atK, trim_self, trim_len, l0, trim_app, sRaise, orE, Er.exn, Er.c, Er.ks, Er.fs, D.lt, D.ltL]
  · have hr2 : ¬ (200 : Int) < (r.length : Int) := by omega
    cases hk : errs xs r with
    | none =>
      simp [hk, mkF, finS, env0, sSeq, sIf, sNil, sNo, sExpr, qB, d1, d2, dVar, dC, dCall, dCons, dNil, dFn, Out.bind, Out.bindS, sFldD, DL.putK, od, tupleD, lenD, lenD1, getD, gtD, cmpD, both, asI, itemsS, itemsL, end_get, end_set, obz_len, hr2, h, f, e, few_of, atK, trim_self, trim_len, l0, trim_app, orE]
    | some k =>
      have := ltL_erfs k
      simp [hk, mkF, finS, env0, sSeq, sIf, sNil, sNo, sExpr, qB, d1, d2, dVar, dC, dCall, dCons, dNil, dFn, Out.bind, Out.bindS, sFldD, DL.putK, od, tupleD, lenD, lenD1, getD, gtD, cmpD, both, asI, itemsS, itemsL, end_get, end_set, obz_len, hr2, h, f, e, few_of, atK, trim_self, trim_len, l0, trim_app, orE, Er.exn, this]
end K72
end

section
set_option Elab.async false
set_option linter.all false
set_option maxRecDepth 100000
namespace K72
open PySem L2 DL
theorem chain31 (n : Nat) : ((1 : Int) ≤ (n : Int)) = (1 ≤ n) := by apply propext; omega
theorem all_figs (t : List Nat) (ht : t.length ≤ 100000) (a b : Option D) (cs : List Cell) :
    dLc [3] (itS (dVar 2)) (gNm 3) pYes ce_read_number_0 [a, b, some (.str (SX.S t)), none] cs = .ok (.lst (t.map fun c => .bl (dig c))) cs := by
  refine lc_map (chk := noChk) t (fun c => .str ⟨#[c]⟩) (fun c => .bl (dig c)) ?_ (fun _ => trivial) (by omega) (fun x hx acc => ⟨_, rfl, ?_⟩) (ltL_map fun x hx => rfl)
  · simp [itS, dVar, Out.bind, signsD]
  · show ce_read_number_0 [_, _, _, some (.str ⟨#[x]⟩)] _ = _
    simp only [ce_read_number_0, d2, dVar, dC, Out.bind, List.getElem?_cons_zero, List.getElem?_cons_succ, in_figsB]
    rfl
theorem all_dig (t : List Nat) (cs : List Cell) : allD [.lst (t.map fun c => .bl (dig c))] cs = .ok (.bl (t.all dig)) cs := by
  unfold allD
  simp only [itemsL, Option.bind, bls_map]
  simp [List.all_map, Function.comp_def]
theorem F_read_number_eq (t : List Nat) (ht : t.length ≤ 100000) (p : D) (hp : ∀ n, D.lt n p = true) (cs : List Cell) :
    F_read_number [.str (SX.S t), p] cs = if isNum t = true then .ok (.int (valZ t)) cs else .exn 32 [19] [p] cs := by
  have fd : ∀ e2 e3 cs, dIf (qB (d2 (dSl (dVar 0) oNone (oSome (dC (.int 1)))) (dC (.str "-")) (eqC [] 20))) (dSl (dVar 0) (oSome (dC (.int 1))) oNone) (dVar 0) [some (.str (SX.S t)), some p, e2, e3] cs = .ok (.str (SX.S (figs t))) cs := fun e2 e3 cs => figs_den ht rfl
  have fl := figs_len t
  have f1 : fits (SX.S (figs t)).length := fits_of (by rw [SX.S_len]; omega)
  have ea : ∀ cs, _ := fun cs => all_figs (figs t) (by omega) (some (.str (SX.S t))) (some p) cs
  have ed : ∀ cs, _ := fun cs => all_dig (figs t) cs
  have lp : ∀ n, D.ltL n [p] = true := fun n => by show (D.lt n p && true) = true; rw [hp]; rfl
  have fw : few 1 := few_of (by omega)
  unfold F_read_number b_read_number
  simp only [mkF, finS, env0, sSeq, sSet, sIf, sRet, sNil, sRaise, qOr, qAnd, qNot, qB, chainD, d2, dC, dVar, dCall, dCons, dNil, lenD, lenD1, Out.bind, Out.bindS, List.length_cons, List.length_nil, List.map_cons, List.map_nil, List.cons_append, List.nil_append, List.replicate_succ, List.replicate_zero, Nat.reduceAdd, Nat.reduceSub, if_true, fd, List.set_cons_zero, List.set_cons_succ, List.getElem?_cons_zero, List.getElem?_cons_succ, if_pos f1, both, asI, cmpD, SX.S_len, trim_self]
  by_cases h1 : 1 ≤ (figs t).length ∧ (figs t).length ≤ 31
  · have i1 : (1 : Int) ≤ ((figs t).length : Int) := by omega
    have i2 : ((figs t).length : Int) ≤ 31 := by omega
    simp only [i1, i2, decide_true, if_true, Bool.not_true, Bool.false_eq_true, if_false, ea, ed]
    cases h2 : (figs t).all dig with
    | false =>
      have hn : isNum t = false := by unfold isNum; rw [show ((figs t).all fun c => decide (48 ≤ c ∧ c ≤ 57)) = false from h2]; simp
      simp [hn, fw, lp, trim_self]
    | true =>
      obtain ⟨c, r, e⟩ : ∃ c r, figs t = c :: r := by
        cases he : figs t with
        | nil => rw [he] at h1; simp at h1
        | cons c r => exact ⟨c, r, rfl⟩
      have hr : r.length ≤ 100000 := by rw [e] at h1; simp at h1; omega
      have e0 : ∀ cs, ixD (.str (SX.S (c :: r))) (.int 0) cs = .ok (.str (SX.S [c])) cs := fun cs => ix0 c r cs hr
      simp only [Bool.not_true, Bool.false_eq_true, if_false, e, List.getElem?_cons_zero, List.getElem?_cons_succ, List.set_cons_zero, List.set_cons_succ, e0, lit_zero, eqS, neS]
      by_cases h3 : c = 48 ∧ t ≠ [48]
      · have hn : isNum t = false := by
          unfold isNum
          rw [e]
          have a1 : decide (t = [48]) = false := decide_eq_false h3.2
          have a2 : decide ((c :: r).take 1 = [48]) = true := by simp [h3.1]
          rw [a1, a2]; simp
        simp [hn, h3.1, h3.2, fw, lp, trim_self]
      · have hn : isNum t = true := by
          unfold isNum
          rw [show ((figs t).all fun c => decide (48 ≤ c ∧ c ≤ 57)) = true from h2, e]
          rw [e] at h1
          simp only [h1, and_self, decide_true, Bool.true_and]
          by_cases h4 : t = [48]
          · simp [h4]
          · have : c ≠ 48 := fun z => h3 ⟨z, h4⟩
            simp [this]
        obtain ⟨s1, s2⟩ := isNum_small hn
        have ib := int_back s1
        rw [← s2] at ib
        have il : le640 (SX.S t).length := le640_of (by rw [SX.S_len, s2]; have := numZ_len s1; omega)
        by_cases h4 : c = 48
        · have h5 : t = [48] := Classical.byContradiction fun z => h3 ⟨h4, z⟩
          subst h5
          simp [hn, h4, intX, ib, il, trim_self]
        · simp [hn, h4, intX, ib, il, trim_self]
  · have hn : isNum t = false := by unfold isNum; rw [decide_eq_false h1]; simp
    by_cases i1 : (1 : Int) ≤ ((figs t).length : Int)
    · have i2 : ¬ ((figs t).length : Int) ≤ 31 := by omega
      simp [i1, i2, hn, fw, lp, trim_self]
    · simp [i1, hn, fw, lp, trim_self]
theorem F_is_number_eq (t : List Nat) (ht : t.length ≤ 100000) (cs : List Cell) : F_law_is_number [.str (SX.S t)] cs = .ok (.bl (isNum t)) cs := by
  have fd : ∀ e2 e3 cs, dIf (qB (d2 (dSl (dVar 0) oNone (oSome (dC (.int 1)))) (dC (.str "-")) (eqC [] 20))) (dSl (dVar 0) (oSome (dC (.int 1))) oNone) (dVar 0) [some (.str (SX.S t)), e2, e3] cs = .ok (.str (SX.S (figs t))) cs := fun e2 e3 cs => figs_den ht rfl
  have fl := figs_len t
  have f1 : fits (SX.S (figs t)).length := fits_of (by rw [SX.S_len]; omega)
  have f0 : fits 0 := fits_of (by omega)
  have ea : ∀ cs, dLc [2] (itS (dVar 1)) (gNm 2) ct_law_is_number_1 ce_law_is_number_0 [some (.str (SX.S t)), some (.str (SX.S (figs t))), none] cs = .ok (.lst (((figs t).filter fun c => !dig c).map fun c => .str ⟨#[c]⟩)) cs := fun cs => by
    refine lc_filt (chk := noChk) (figs t) (fun c => .str ⟨#[c]⟩) (fun c => .str ⟨#[c]⟩) (fun c => !dig c) ?_ (fun _ => trivial) (by omega) (fun x hx acc => ⟨_, rfl, ?_, fun _ => ?_⟩) (fun _ x hx => rfl)
    · simp [itS, dVar, Out.bind, signsD]
    · show ct_law_is_number_1 [_, _, some (.str ⟨#[x]⟩)] _ = _
      simp only [ct_law_is_number_1, qB, d2, dVar, dC, Out.bind, List.getElem?_cons_zero, List.getElem?_cons_succ, in_figsB]
      rfl
    · show ce_law_is_number_0 [_, _, some (.str ⟨#[x]⟩)] _ = _
      simp only [ce_law_is_number_0, dVar, List.getElem?_cons_zero, List.getElem?_cons_succ]
  have en : ∀ cs, neC [] 20 (.lst (((figs t).filter fun c => !dig c).map fun c => .str ⟨#[c]⟩)) (.lst []) cs = .ok (.bl (!(figs t).all dig)) cs := fun cs => by
    rw [lst_ne_nil (h := 19) _ _ (okL_strs _ _)]
    congr 2
    cases h : (figs t).all dig with
    | true =>
      have : (figs t).filter (fun c => !dig c) = [] := by
        rw [List.filter_eq_nil_iff]
        intro x hx
        simp [List.all_eq_true.mp h x hx]
      simp [this]
    | false =>
      obtain ⟨x, hx, h2⟩ := List.all_eq_false.mp h
      have : (figs t).filter (fun c => !dig c) ≠ [] := by
        intro z
        rw [List.filter_eq_nil_iff] at z
        exact z x hx (by simpa using h2)
      simp [this]
  unfold F_law_is_number b_law_is_number
  simp only [mkF, finS, env0, sSeq, sSet, sIf, sRet, sNil, qOr, qAnd, qNot, qB, eOr, chainD, d2, dC, dVar, dCall, dCons, dNil, dLst, lenD, lenD1, Out.bind, Out.bindS, List.length_cons, List.length_nil, List.map_cons, List.map_nil, List.cons_append, List.nil_append, List.replicate_succ, List.replicate_zero, Nat.reduceAdd, Nat.reduceSub, if_true, fd, List.set_cons_zero, List.set_cons_succ, List.getElem?_cons_zero, List.getElem?_cons_succ, if_pos f1, if_pos f0, both, asI, asB, cmpD, SX.S_len, trim_self]
  by_cases h1 : 1 ≤ (figs t).length ∧ (figs t).length ≤ 31
  · have i1 : (1 : Int) ≤ ((figs t).length : Int) := by omega
    have i2 : ((figs t).length : Int) ≤ 31 := by omega
    simp only [i1, i2, decide_true, if_true, Bool.not_true, Bool.false_eq_true, if_false, ea, en]
    cases h2 : (figs t).all dig with
    | false =>
      have hn : isNum t = false := by unfold isNum; rw [show ((figs t).all fun c => decide (48 ≤ c ∧ c ≤ 57)) = false from h2]; simp
      simp [hn, D.lt, trim_self]
    | true =>
      obtain ⟨c, r, e⟩ : ∃ c r, figs t = c :: r := by
        cases he : figs t with
        | nil => rw [he] at h1; simp at h1
        | cons c r => exact ⟨c, r, rfl⟩
      have hr : r.length ≤ 100000 := by rw [e] at h1; simp at h1; omega
      have e0 : ∀ cs, ixD (.str (SX.S (c :: r))) (.int 0) cs = .ok (.str (SX.S [c])) cs := fun cs => ix0 c r cs hr
      have hn : isNum t = (decide (t = [48]) || !decide (c = 48)) := by
        unfold isNum
        rw [show ((figs t).all fun c => decide (48 ≤ c ∧ c ≤ 57)) = true from h2, decide_eq_true h1, e]
        simp
      rw [hn]
      simp only [Bool.not_true, Bool.false_eq_true, if_false, e, List.getElem?_cons_zero, List.getElem?_cons_succ, List.set_cons_zero, List.set_cons_succ, e0, lit_zero, eqS, neS]
      by_cases h4 : t = [48]
      · simp [h4, D.lt, trim_self]
      · simp [h4, D.lt, trim_self]
  · have hn : isNum t = false := by unfold isNum; rw [decide_eq_false h1]; simp
    by_cases i1 : (1 : Int) ≤ ((figs t).length : Int)
    · have i2 : ¬ ((figs t).length : Int) ≤ 31 := by omega
      simp [i1, i2, hn, D.lt, trim_self]
    · simp [i1, hn, D.lt, trim_self]
/-! ### commands read -/
theorem ints_den (w : List Nat) (ps : List (List Nat)) (hl : ps.length ≤ 100000) (hp : ∀ p ∈ ps, p.length ≤ 100000) (e0 e3 e4 e6 : Option D) (i : Int) (cs : List Cell) :
    dTr (dFrz (dLcR [5] (DL.itL (dSl (dVar 2) (oSome (dC (.int 1))) oNone)) (gNm 5) pYes ce_read_command_0)) [e0, some (.int i), some (.lst (.str (SX.S w) :: ps.map fun p => .str (SX.S p))), e3, e4, none, e6] cs = if ps.all isNum = true then .ok (.lst (ilist (ps.map valZ))) cs else .exn 32 [19] [.int i] cs := by
  have hf : ∀ cs, DL.itL (dSl (dVar 2) (oSome (dC (.int 1))) oNone) [e0, some (.int i), some (.lst (.str (SX.S w) :: ps.map fun p => .str (SX.S p))), e3, e4, none, e6] cs = .ok ⟨ps.map (fun p => .str (SX.S p)), noChk⟩ cs := fun cs => by
    have hq1 : HT.sIx (ps.length + 1) 0 (some (1 : Int)) = 1 := by
      have := HT.sIx_nat (ps.length + 1) 0 1
      rw [show ((1 : Nat) : Int) = 1 from rfl] at this
      rw [this]; omega
    simp [DL.itL, dSl, dVar, dC, oSome, oNone, asI, Out.bind, sliceD, itemsL, cutL, hq1, HT.sIx_none]
    rw [List.take_of_length_le (by simp)]
  have el : ∀ x ∈ ps, ∀ acc, ∃ env', gNm 5 (.str (SX.S x)) (wipeE [e0, some (.int i), some (.lst (.str (SX.S w) :: ps.map fun p => .str (SX.S p))), e3, e4, none, e6] [5]) (cs ++ [.lst acc]) = .nx env' (cs ++ [.lst acc]) ∧ ce_read_command_0 env' (cs ++ [.lst acc]) = if isNum x = true then .ok (.int (valZ x)) (cs ++ [.lst acc]) else .exn 32 [19] [.int i] (cs ++ [.lst acc]) := fun x hx acc => by
    refine ⟨_, rfl, ?_⟩
    show ce_read_command_0 [_, some (.int i), _, _, _, some (.str (SX.S x)), _] _ = _
    simp only [ce_read_command_0, dFn, dCons, dNil, dVar, dC, Out.bind, List.getElem?_cons_zero, List.getElem?_cons_succ, F_read_number_eq x (hp x hx) (.int i) (fun _ => rfl)]
  by_cases h : ps.all isNum = true
  · rw [if_pos h, ← il_map]
    have hal := List.all_eq_true.mp h
    exact lcR_ok (chk := noChk) ps (fun p => .str (SX.S p)) (fun p => .int (valZ p)) (hf cs) (fun _ => trivial) (by omega) (fun x hx acc => by
      obtain ⟨env', h1, h2⟩ := el x hx acc
      rw [if_pos (hal x hx)] at h2
      exact ⟨env', h1, h2⟩) (ltL_map fun _ _ => rfl)
  · rw [if_neg h]
    obtain ⟨xs, z, zs, e, h1, h2⟩ := first_bad isNum ps (by simpa using h)
    have lz : xs.length ≤ ps.length := by rw [e]; simp
    refine lcR_exn (chk := noChk) xs z zs (fun p => .str (SX.S p)) (fun p => .int (valZ p)) (by rw [← e]; exact hf cs) (fun _ => trivial) (by omega) (fun x hx acc => ?_) (fun acc => ?_) rfl
    · obtain ⟨env', q1, q2⟩ := el x (by rw [e]; simp [hx]) acc
      rw [if_pos (h1 x hx)] at q2
      exact ⟨env', q1, q2⟩
    · obtain ⟨env', q1, q2⟩ := el z (by rw [e]; simp) acc
      rw [if_neg (by rw [h2]; simp)] at q2
      exact ⟨env', q1, q2⟩
theorem eqI (n m : Int) (cs : List Cell) : eqC [] 20 (.int n) (.int m) cs = .ok (.bl (decide (n = m))) cs := by
  simp only [eqC, resL, D.okE, eqD, Bool.and_self, if_true]
  have : (n == m) = decide (n = m) := by
    rw [Bool.eq_iff_iff]; simp
  rw [this]
def outC (t : List Nat) (i : Int) (cs : List Cell) : Out D := match parseC t with
  | some k => .ok k.ob cs
  | none => .exn 32 [19] [.int i] cs
theorem F_store_new (a b c : Int) (cs : List Cell) : mkO od 9 F_Store_init [.int a, .int b, .int c] cs = .ok (Cz.S a b c).ob cs := by
  unfold mkO F_Store_init b_Store_init Cz.ob
  simp [mkF, finS, env0, sSeq, d1, d2, dVar, dC, Out.bind, Out.bindS, sFldD, DL.putK, od, end_get, end_set, few_of, trim_self, trim_len, trim_app, D.ltL, D.lt]
theorem F_flush_new (a : Int) (cs : List Cell) : mkO od 10 F_Flush_init [.int a] cs = .ok (Cz.F a).ob cs := by
  unfold mkO F_Flush_init b_Flush_init Cz.ob
  simp [mkF, finS, env0, sSeq, d1, d2, dVar, dC, Out.bind, Out.bindS, sFldD, DL.putK, od, end_get, end_set, few_of, trim_self, trim_len, trim_app, D.ltL, D.lt]
theorem lt_cz (k : Cz) (n : Nat) : D.lt n k.ob = true := lt_obz k n
theorem F_read_command_eq (t : List Nat) (ht : t.length ≤ 90000) (i : Int) (cs : List Cell) : F_read_command [.str (SX.S t), .int i] cs = outC t i cs := by
  have s1 : ∀ cs, splitD (SX.S t) (.str (SX.S [32])) cs = .ok (.lst ((sp 32 t).map fun p => .str (SX.S p))) cs := fun cs => split1 32 t cs (by omega) (by omega)
  have l1 := sp_len 32 t
  have c1 : t.count 32 ≤ t.length := List.count_le_length
  have sub := sp_sub 32 t
  have hfe := sp_fence t
  obtain ⟨w, ps, e⟩ := sp_cons 32 t
  rw [e] at s1 l1 sub hfe
  have lp : ps.length ≤ 90001 := by simp at l1; omega
  have hp : ∀ p ∈ ps, p.length ≤ 100000 := fun p hp => by have := sub p (List.mem_cons_of_mem _ hp); omega
  have idn : ∀ e0 e3 e4 e6 cs, _ := fun e0 e3 e4 e6 cs => ints_den w ps (by omega) hp e0 e3 e4 e6 i cs
  have i0 : ∀ w r cs, ixD (.lst (.str (SX.S w) :: r)) (.int 0) cs = .ok (.str (SX.S w)) cs := fun w r cs => by
    unfold ixD asI
    have : L2.atI (D.str (SX.S w) :: r) 0 = some (.str (SX.S w)) := DL.atI_nat (n := 0) rfl
    simp only [itemsS, itemsL, this]
  have fl : fits ps.length := fits_of (by omega)
  have ln : ∀ xs cs, lenD [.lst xs] cs = .ok (.int (xs.length : Int)) cs := fun xs cs => rfl
  have fw : few 1 := few_of (by omega)
  unfold F_read_command b_read_command outC parseC
  rw [e]
  simp only [mkF, finS, env0, sSeq, sSet, sIf, sRet, sNil, sRaise, qAnd, qB, d2, dM1, dC, dVar, dCall, dFn, dCons, dNil, Out.bind, Out.bindS, List.length_cons, List.length_nil, List.map_cons, List.map_nil, List.cons_append, List.nil_append, List.replicate_succ, List.replicate_zero, Nat.reduceAdd, Nat.reduceSub, if_true, List.getElem?_cons_zero, List.getElem?_cons_succ, List.set_cons_zero, List.set_cons_succ, lit_blank, s1, idn]
  by_cases h : ps.all isNum = true
  · simp only [if_pos h, Out.bind, Out.bindS, List.getElem?_cons_zero, List.getElem?_cons_succ, List.set_cons_zero, List.set_cons_succ, i0, lit_store, lit_flush, lit_fence, eqS, ln, eqI, il_len, List.length_map]
    by_cases h1 : w = [115, 116, 111, 114, 101]
    · have nf : ¬ t = [102, 101, 110, 99, 101] := fun z => by
        have := hfe.mpr z
        rw [h1] at this; cases this
      by_cases h2 : ps.length = 3
      · obtain ⟨a, b, c, rfl⟩ : ∃ a b c, ps = [a, b, c] := by
          match ps, h2 with
          | [a, b, c], _ => exact ⟨a, b, c, rfl⟩
        simp [h1, i0, eqS, eqI, ln, il_len, Out.bind, Out.bindS, lit_store, lit_flush, lit_fence, sAsg, gLstD, gsCons, gsNil, gNm, itemsL, ilist, F_store_new, lt_cz, trim_self, dVar, Out.bind, Out.bindS]
      · have h3 : ¬ (ps.length : Int) = 3 := by omega
        simp [h1, h2, h3, nf, i0, eqS, eqI, ln, il_len, Out.bind, Out.bindS, lit_store, lit_flush, lit_fence, fw, D.ltL, D.lt, trim_self]
    · by_cases h2 : w = [102, 108, 117, 115, 104]
      · have nf : ¬ t = [102, 101, 110, 99, 101] := fun z => by
          have := hfe.mpr z
          rw [h2] at this; cases this
        by_cases h3 : ps.length = 1
        · obtain ⟨a, rfl⟩ : ∃ a, ps = [a] := by
            match ps, h3 with
            | [a], _ => exact ⟨a, rfl⟩
          have ia : ∀ cs, ixD (.lst [.int (valZ a)]) (.int 0) cs = .ok (.int (valZ a)) cs := fun cs => rfl
          simp [h1, h2, i0, eqS, eqI, ln, il_len, Out.bind, Out.bindS, lit_store, lit_flush, lit_fence, ilist, ia, F_flush_new, lt_cz, trim_self]
        · have h4 : ¬ (ps.length : Int) = 1 := by omega
          simp [h1, h2, h3, h4, nf, i0, eqS, eqI, ln, il_len, Out.bind, Out.bindS, lit_store, lit_flush, lit_fence, fw, D.ltL, D.lt, trim_self]
      · by_cases h4 : t = [102, 101, 110, 99, 101]
        · simp [h1, h2, h4, i0, eqS, eqI, ln, il_len, Out.bind, Out.bindS, lit_store, lit_flush, lit_fence, Cz.ob, D.lt, D.ltL, trim_self]
        · simp [h1, h2, h4, i0, eqS, eqI, ln, il_len, Out.bind, Out.bindS, lit_store, lit_flush, lit_fence, fw, D.ltL, D.lt, trim_self]
  · simp only [if_neg h]
    simp [Out.bindS, D.ltL, D.lt, trim_self]
end K72
end

section
set_option Elab.async false
set_option linter.all false
set_option maxRecDepth 100000
namespace K72
open PySem L2 DL
/-! ### the law reads -/
theorem eqL_strs : ∀ a b : List (List Nat), eqL (a.map fun p => D.str (SX.S p)) (b.map fun p => D.str (SX.S p)) = some (decide (a = b))
  | [], [] => rfl
  | [], _ :: _ => rfl
  | _ :: _, [] => rfl
  | x :: xs, y :: ys => by
    show eqL (D.str (SX.S x) :: xs.map _) (D.str (SX.S y) :: ys.map _) = _
    unfold eqL
    have : eqD (.str (SX.S x)) (.str (SX.S y)) = some (decide (x = y)) := by simp [eqD, SX.S_beq_eq]
    rw [this, eqL_strs xs ys]
    simp
theorem eqStrs (a b : List (List Nat)) (cs : List Cell) : eqC [] 20 (.lst (a.map fun p => D.str (SX.S p))) (.lst (b.map fun p => D.str (SX.S p))) cs = .ok (.bl (decide (a = b))) cs := by
  have h1 : D.okE [] (.lst (a.map fun p => D.str (SX.S p))) 20 = true := by unfold D.okE; exact okL_strs _ _
  have h2 : D.okE [] (.lst (b.map fun p => D.str (SX.S p))) 20 = true := by unfold D.okE; exact okL_strs _ _
  have h3 : eqD (.lst (a.map fun p => D.str (SX.S p))) (.lst (b.map fun p => D.str (SX.S p))) = some (decide (a = b)) := by unfold eqD; exact eqL_strs a b
  unfold eqC
  simp only [resL, h1, h2, h3, Bool.and_self, if_true]
def outR (t : List Nat) : D := match parseC t with
  | some k => k.ob
  | none => .non
theorem F_law_read_eq (t : List Nat) (ht : t.length ≤ 90000) (cs : List Cell) : F_law_read [.str (SX.S t)] cs = .ok (outR t) cs := by
  have s1 : ∀ cs, splitD (SX.S t) (.str (SX.S [32])) cs = .ok (.lst ((sp 32 t).map fun p => .str (SX.S p))) cs := fun cs => split1 32 t cs (by omega) (by omega)
  have l1 := sp_len 32 t
  have c1 : t.count 32 ≤ t.length := List.count_le_length
  have sub := sp_sub 32 t
  have hfe := sp_fence t
  have ef : ∀ cs, eqC [] 20 (.lst ((sp 32 t).map fun p => .str (SX.S p))) (.lst [.str (SX.S [102, 101, 110, 99, 101])]) cs = .ok (.bl (decide (t = [102, 101, 110, 99, 101]))) cs := fun cs => by
    have := eqStrs (sp 32 t) [[102, 101, 110, 99, 101]] cs
    rw [List.map_cons, List.map_nil] at this
    rw [this]
    congr 2
    exact decide_eq_decide.mpr hfe
  obtain ⟨w, ps, e⟩ := sp_cons 32 t
  rw [e] at s1 l1 sub hfe ef
  have lp : ps.length ≤ 90001 := by simp at l1; omega
  have hp : ∀ p ∈ ps, p.length ≤ 100000 := fun p hp => by have := sub p (List.mem_cons_of_mem _ hp); omega
  have hf : ∀ e0 e2 e3 cs, DL.itL (dSl (dVar 1) (oSome (dC (.int 1))) oNone) [e0, some (.lst (.str (SX.S w) :: ps.map fun p => .str (SX.S p))), e2, e3] cs = .ok ⟨ps.map (fun p => .str (SX.S p)), noChk⟩ cs := fun e0 e2 e3 cs => by
    have hq1 : HT.sIx (ps.length + 1) 0 (some (1 : Int)) = 1 := by
      have := HT.sIx_nat (ps.length + 1) 0 1
      rw [show ((1 : Nat) : Int) = 1 from rfl] at this
      rw [this]; omega
    simp [DL.itL, dSl, dVar, dC, oSome, oNone, asI, Out.bind, sliceD, itemsL, cutL, hq1, HT.sIx_none]
    rw [List.take_of_length_le (by simp)]
  have fl : ∀ e0 e2 cs, dLc [3] (DL.itL (dSl (dVar 1) (oSome (dC (.int 1))) oNone)) (gNm 3) ct_law_read_1 ce_law_read_0 [e0, some (.lst (.str (SX.S w) :: ps.map fun p => .str (SX.S p))), e2, none] cs = .ok (.lst ((ps.filter fun x => !isNum x).map fun p => .str (SX.S p))) cs := fun e0 e2 cs => by
    refine lc_filt (chk := noChk) ps (fun p => .str (SX.S p)) (fun p => .str (SX.S p)) (fun x => !isNum x) (hf _ _ _ _) (fun _ => trivial) (by omega) (fun x hx acc => ⟨_, rfl, ?_, fun _ => ?_⟩) (fun _ x hx => rfl)
    · show ct_law_read_1 [_, _, _, some (.str (SX.S x))] _ = _
      simp only [ct_law_read_1, qNot, qB, dFn, dCons, dNil, dVar, Out.bind, List.getElem?_cons_zero, List.getElem?_cons_succ, F_is_number_eq x (hp x hx)]
    · show ce_law_read_0 [_, _, _, some (.str (SX.S x))] _ = _
      simp only [ce_law_read_0, dVar, List.getElem?_cons_zero, List.getElem?_cons_succ]
  have en : ∀ cs, neC [] 20 (.lst ((ps.filter fun x => !isNum x).map fun p => .str (SX.S p))) (.lst []) cs = .ok (.bl (!ps.all isNum)) cs := fun cs => by
    rw [lst_ne_nil (h := 19) _ _ (okL_strs _ _), isEmpty_map, filt_all]
  have ii : ∀ x, isNum x = true → ∀ cs, intX [.str (SX.S x)] cs = .ok (.int (valZ x)) cs := fun x hx cs => by
    obtain ⟨z1, z2⟩ := isNum_small hx
    have ib := int_back z1
    rw [← z2] at ib
    have il : le640 (SX.S x).length := le640_of (by rw [SX.S_len, z2]; have := numZ_len z1; omega)
    unfold intX
    simp only [ib, if_pos il]
  have i0 : ∀ w r cs, ixD (.lst (.str (SX.S w) :: r)) (.int 0) cs = .ok (.str (SX.S w)) cs := fun w r cs => by
    unfold ixD asI
    have : L2.atI (D.str (SX.S w) :: r) 0 = some (.str (SX.S w)) := DL.atI_nat (n := 0) rfl
    simp only [itemsS, itemsL, this]
  have ln : ∀ xs cs, lenD [.lst xs] cs = .ok (.int (xs.length : Int)) cs := fun xs cs => rfl
  have f0 : fits 0 := fits_of (by omega)
  have f1 : fits 1 := fits_of (by omega)
  have lo : ∀ n, D.lt n (outR t) = true := fun n => by
    unfold outR
    cases parseC t with
    | none => rfl
    | some k => exact lt_cz k n
  unfold F_law_read b_law_read
  simp only [mkF, finS, env0, sSeq, sSet, sIf, sRet, sNil, qB, d2, dM1, dC, dVar, dLst, dCons, dNil, Out.bind, Out.bindS, List.length_cons, List.length_nil, List.map_cons, List.map_nil, List.cons_append, List.nil_append, List.replicate_succ, List.replicate_zero, Nat.reduceAdd, Nat.reduceSub, if_true, List.getElem?_cons_zero, List.getElem?_cons_succ, List.set_cons_zero, List.set_cons_succ, lit_blank, lit_fence, s1, f1, ef]
  rw [List.map_cons] at ef
  simp only [ef]
  by_cases h0 : t = [102, 101, 110, 99, 101]
  · have op : outR t = .obj 11 [] := by
      have q := hfe.mpr h0
      cases q
      unfold outR parseC; rw [e]; simp [h0, Cz.ob]
    rw [op]
    simp [h0, D.lt, D.ltL, trim_self]
  · simp only [h0, decide_false, Bool.false_eq_true, if_false, fl, f0, if_true, en, Out.bind, Out.bindS]
    by_cases h : ps.all isNum = true
    · have hal := List.all_eq_true.mp h
      have el : ∀ e0 e2 cs, dLc [3] (DL.itL (dSl (dVar 1) (oSome (dC (.int 1))) oNone)) (gNm 3) pYes ce_law_read_2 [e0, some (.lst (.str (SX.S w) :: ps.map fun p => .str (SX.S p))), e2, none] cs = .ok (.lst (ilist (ps.map valZ))) cs := fun e0 e2 cs => by
        rw [← il_map]
        refine lc_map (chk := noChk) ps (fun p => .str (SX.S p)) (fun p => .int (valZ p)) (hf _ _ _ _) (fun _ => trivial) (by omega) (fun x hx acc => ⟨_, rfl, ?_⟩) (ltL_map fun x hx => rfl)
        show ce_law_read_2 [_, _, _, some (.str (SX.S x))] _ = _
        simp only [ce_law_read_2, dCall, dCons, dNil, dVar, Out.bind, List.getElem?_cons_zero, List.getElem?_cons_succ, ii x (hal x hx)]
      have op : outR t = (if w = [115, 116, 111, 114, 101] ∧ ps.length = 3 then (Cz.S (valZ (ps.getD 0 [])) (valZ (ps.getD 1 [])) (valZ (ps.getD 2 []))).ob else if w = [102, 108, 117, 115, 104] ∧ ps.length = 1 then (Cz.F (valZ (ps.getD 0 []))).ob else .non) := by
        unfold outR parseC
        rw [e]
        simp only [h, if_true, h0, if_false]
        by_cases q1 : w = [115, 116, 111, 114, 101] ∧ ps.length = 3
        · simp only [if_pos q1]
        · by_cases q2 : w = [102, 108, 117, 115, 104] ∧ ps.length = 1
          · simp only [if_neg q1, if_pos q2]
          · simp only [if_neg q1, if_neg q2]
      rw [op]
      simp only [h, Bool.not_true, Bool.false_eq_true, if_false, el, Out.bind, Out.bindS, List.getElem?_cons_zero, List.getElem?_cons_succ, List.set_cons_zero, List.set_cons_succ]
      by_cases h1 : w = [115, 116, 111, 114, 101]
      · by_cases h2 : ps.length = 3
        · obtain ⟨a, b, c, rfl⟩ : ∃ a b c, ps = [a, b, c] := by
            match ps, h2 with
            | [a, b, c], _ => exact ⟨a, b, c, rfl⟩
          have j0 : ∀ cs, ixD (.lst [.int (valZ a), .int (valZ b), .int (valZ c)]) (.int 0) cs = .ok (.int (valZ a)) cs := fun cs => rfl
          have j1 : ∀ cs, ixD (.lst [.int (valZ a), .int (valZ b), .int (valZ c)]) (.int 1) cs = .ok (.int (valZ b)) cs := fun cs => rfl
          have j2 : ∀ cs, ixD (.lst [.int (valZ a), .int (valZ b), .int (valZ c)]) (.int 2) cs = .ok (.int (valZ c)) cs := fun cs => rfl
          simp [h1, i0, eqS, eqI, ln, il_len, Out.bind, Out.bindS, lit_store, lit_flush, lit_fence, dVar, dC, dCons, dNil, qB, d2, qAnd, dCall, dFn, F_store_new, lt_cz, trim_self, dVar, Out.bind, Out.bindS, ilist, j0, j1, j2]
        · have h3 : ¬ (ps.length : Int) = 3 := by omega
          simp [h1, h2, h3, i0, eqS, eqI, ln, il_len, Out.bind, Out.bindS, lit_store, lit_flush, lit_fence, dVar, dC, dCons, dNil, qB, d2, qAnd, dCall, dFn, D.ltL, D.lt, trim_self]
      · by_cases h2 : w = [102, 108, 117, 115, 104]
        · by_cases h3 : ps.length = 1
          · obtain ⟨a, rfl⟩ : ∃ a, ps = [a] := by
              match ps, h3 with
              | [a], _ => exact ⟨a, rfl⟩
            have ia : ∀ cs, ixD (.lst [.int (valZ a)]) (.int 0) cs = .ok (.int (valZ a)) cs := fun cs => rfl
            simp [h1, h2, i0, eqS, eqI, ln, il_len, Out.bind, Out.bindS, lit_store, lit_flush, lit_fence, dVar, dC, dCons, dNil, qB, d2, qAnd, dCall, dFn, ilist, ia, F_flush_new, lt_cz, trim_self]
          · have h4 : ¬ (ps.length : Int) = 1 := by omega
            simp [h1, h2, h3, h4, i0, eqS, eqI, ln, il_len, Out.bind, Out.bindS, lit_store, lit_flush, lit_fence, dVar, dC, dCons, dNil, qB, d2, qAnd, dCall, dFn, D.ltL, D.lt, trim_self]
        · simp [h1, h2, i0, eqS, eqI, ln, il_len, Out.bind, Out.bindS, lit_store, lit_flush, lit_fence, dVar, dC, dCons, dNil, qB, d2, qAnd, dCall, dFn, D.ltL, D.lt, trim_self]
    · have h' : ps.all isNum = false := by simpa using h
      have op : outR t = .non := by unfold outR parseC; rw [e]; simp only [h', Bool.false_eq_true, if_false]
      rw [op]
      simp only [h', Bool.not_false, if_true]
      simp [D.ltL, D.lt, trim_self]
end K72
end

section
set_option Elab.async false
set_option linter.all false
set_option maxRecDepth 100000
namespace K72
open PySem L2 DL
/-! ### programs read -/
def wNone : List Nat := [110, 111, 110, 101]
def partsL (t : List Nat) : List (List Nat) := if t = [110, 111, 110, 101] then [] else sp2 t
def badC (p : List Nat) : Bool := (parseC p).isNone
def cmd (p : List Nat) : Cz := (parseC p).getD .X
def cmds (t : List Nat) : List Cz := (partsL t).map cmd
theorem enum_zip {α : Type} (f : α → D) : ∀ (r : List α) (i : Nat), enumD i (r.map f) = (r.zipIdx i).map fun p => .tup [.int (p.2 : Int), f p.1]
  | [], _ => rfl
  | k :: r, i => by
    rw [List.zipIdx_cons, List.map_cons, List.map_cons, ← enum_zip f r (i + 1)]
    rfl
theorem zip_map {α β : Type} (f : α → β) : ∀ (r : List α) (i : Nat), (r.zipIdx i).map (fun p => f p.1) = r.map f
  | [], _ => rfl
  | k :: r, i => by rw [List.zipIdx_cons, List.map_cons, List.map_cons, zip_map f r (i + 1)]
theorem find_none {α : Type} {f : α → Bool} : ∀ {L : List α}, L.findIdx? f = none → ∀ x ∈ L, f x = false
  | [], _, x, hx => (nomatch hx)
  | y :: L, h, x, hx => by
    rw [List.findIdx?_cons] at h
    by_cases hy : f y = true
    · rw [if_pos hy] at h; cases h
    · rw [if_neg hy] at h
      have h2 : L.findIdx? f = none := by
        cases hh : L.findIdx? f with
        | none => rfl
        | some i => rw [hh] at h; cases h
      rcases List.mem_cons.mp hx with q | q
      · rw [q]; simpa using hy
      · exact find_none h2 x q
theorem find_some {α : Type} {f : α → Bool} : ∀ {L : List α} {i : Nat}, L.findIdx? f = some i → ∃ A z B, L = A ++ z :: B ∧ A.length = i ∧ (∀ x ∈ A, f x = false) ∧ f z = true
  | [], i, h => by cases h
  | y :: L, i, h => by
    rw [List.findIdx?_cons] at h
    by_cases hy : f y = true
    · rw [if_pos hy] at h; cases h
      exact ⟨[], y, L, rfl, rfl, fun _ q => (nomatch q), hy⟩
    · rw [if_neg hy] at h
      cases hh : L.findIdx? f with
      | none => rw [hh] at h; cases h
      | some j =>
        rw [hh] at h; cases h
        obtain ⟨A, z, B, e, l, h1, h2⟩ := find_some hh
        exact ⟨y :: A, z, B, by rw [e]; rfl, by simp [l], fun x hx => by
          rcases List.mem_cons.mp hx with q | q
          · rw [q]; simpa using hy
          · exact h1 x q, h2⟩
theorem parts_den (t : List Nat) (ht : t.length ≤ 90000) (e0 : Option D) (cs : List Cell) :
    dTr (dFrz (dLcR [2, 3] (itEnA (dCons (dM1 (dVar 1) (dC (.str ", ")) splitD) dNil)) (gTupD 2 (gsCons (gNm 2) (gsCons (gNm 3) gsNil))) pYes ce_read_program_0)) [e0, some (.str (SX.S t)), none, none] cs = match (sp2 t).findIdx? badC with
      | some i => .exn 32 [19] [.int (i : Int)] cs
      | none => .ok (.lst (obz ((sp2 t).map cmd))) cs := by
  have ll := sp2_len t
  have hf : ∀ cs, itEnA (dCons (dM1 (dVar 1) (dC (.str ", ")) splitD) dNil) [e0, some (.str (SX.S t)), none, none] cs = .ok ⟨((sp2 t).zipIdx 0).map (fun p => .tup [.int (p.2 : Int), .str (SX.S p.1)]), noChk⟩ cs := fun cs => by
    have s1 := split2 t cs (by omega)
    simp only [itEnA, dCons, dNil, dM1, dVar, dC, Out.bind, List.getElem?_cons_zero, List.getElem?_cons_succ, lit_comma, s1, enum_zip]
  have el : ∀ (x : List Nat) (i : Nat), x ∈ sp2 t → ∀ acc, ∃ env', gTupD 2 (gsCons (gNm 2) (gsCons (gNm 3) gsNil)) (.tup [.int (i : Int), .str (SX.S x)]) (wipeE [e0, some (.str (SX.S t)), none, none] [2, 3]) (cs ++ [.lst acc]) = .nx env' (cs ++ [.lst acc]) ∧ ce_read_program_0 env' (cs ++ [.lst acc]) = outC x (i : Int) (cs ++ [.lst acc]) := fun x i hx acc => by
    refine ⟨_, rfl, ?_⟩
    have lx := sp2_sub t x hx
    show ce_read_program_0 [_, _, some (.int (i : Int)), some (.str (SX.S x))] _ = _
    simp only [ce_read_program_0, dFn, dCons, dNil, dVar, dC, Out.bind, List.getElem?_cons_zero, List.getElem?_cons_succ, F_read_command_eq x (by omega) (i : Int)]
  have zl : ((sp2 t).zipIdx 0).length = (sp2 t).length := by simp
  cases hb : (sp2 t).findIdx? badC with
  | none =>
    have hal := find_none hb
    have ez : obz ((sp2 t).map cmd) = ((sp2 t).zipIdx 0).map fun p => (cmd p.1).ob := by
      rw [zip_map (fun p => (cmd p).ob)]
      unfold obz
      rw [List.map_map]; rfl
    rw [ez]
    refine lcR_ok (chk := noChk) ((sp2 t).zipIdx 0) (fun p => .tup [.int (p.2 : Int), .str (SX.S p.1)]) (fun p => (cmd p.1).ob) (hf cs) (fun _ => trivial) (by rw [zl]; omega) (fun x hx acc => ?_) (ltL_map fun p _ => lt_obz _ _)
    obtain ⟨q, i⟩ := x
    have hq : q ∈ sp2 t := (List.mem_zipIdx' hx).2 ▸ List.getElem_mem _
    obtain ⟨env', h1, h2⟩ := el q i hq acc
    refine ⟨env', h1, ?_⟩
    have hg := hal q hq
    unfold badC at hg
    rw [h2]
    unfold outC cmd
    cases hp : parseC q with
    | none => rw [hp] at hg; cases hg
    | some k => rfl
  | some i =>
    obtain ⟨A, z, B, e, la, h1, h2⟩ := find_some hb
    have ea : (sp2 t).zipIdx 0 = A.zipIdx 0 ++ (z, i) :: B.zipIdx (i + 1) := by
      rw [e, List.zipIdx_append, List.zipIdx_cons, la]
      simp
    have lA : (A.zipIdx 0).length ≤ (sp2 t).length := by rw [e]; simp
    refine lcR_exn (chk := noChk) (A.zipIdx 0) (z, i) (B.zipIdx (i + 1)) (fun p => .tup [.int (p.2 : Int), .str (SX.S p.1)]) (fun p => (cmd p.1).ob) (by rw [← ea]; exact hf cs) (fun _ => trivial) (by omega) (fun x hx acc => ?_) (fun acc => ?_) rfl
    · obtain ⟨q, j⟩ := x
      have hq : q ∈ A := (List.mem_zipIdx' hx).2 ▸ List.getElem_mem _
      obtain ⟨env', g1, g2⟩ := el q j (by rw [e]; simp [hq]) acc
      refine ⟨env', g1, ?_⟩
      have hg := h1 q hq
      unfold badC at hg
      rw [g2]
      unfold outC cmd
      cases hp : parseC q with
      | none => rw [hp] at hg; cases hg
      | some k => rfl
    · obtain ⟨env', g1, g2⟩ := el z i (by rw [e]; simp) acc
      refine ⟨env', g1, ?_⟩
      unfold badC at h2
      rw [g2]
      unfold outC
      cases hp : parseC z with
      | none => rfl
      | some k => rw [hp] at h2; cases h2
def outP (xs : List Int) (t : List Nat) (cs : List Cell) : Out D := match (partsL t).findIdx? badC with
  | some i => .exn 32 [19] [.int (i : Int)] cs
  | none => orE (progErr xs (cmds t)) (progZ xs (cmds t)) cs
theorem F_read_program_eq (xs : List Int) (hb : xs.length ≤ 6) (t : List Nat) (ht : t.length ≤ 90000) (cs : List Cell) : F_read_program [memD xs, .str (SX.S t)] cs = outP xs t cs := by
  have f0 : fits 0 := fits_of (by omega)
  unfold F_read_program b_read_program outP cmds partsL
  by_cases h : t = [110, 111, 110, 101]
  · have e : ∀ cs, mkO od 12 F_Program_init [memD xs, .lst []] cs = _ := fun cs => F_program_eq xs hb [] (by simp) cs
    simp only [if_pos h, mkF, finS, env0, sSeq, sIf, sRet, sNil, qB, d2, dFn, dLst, dC, dVar, dCons, dNil, Out.bind, Out.bindS, List.length_cons, List.length_nil, List.map_cons, List.map_nil, List.cons_append, List.nil_append, List.replicate_succ, List.replicate_zero, Nat.reduceAdd, Nat.reduceSub, if_true, List.getElem?_cons_zero, List.getElem?_cons_succ, lit_none, eqS, f0, e]
    cases hk : progErr xs [] with
    | none => simp [orE, h, hk, e, lt_prog, trim_self]
    | some k =>
      have := ltL_erfs k
      simp [orE, h, hk, e, Er.exn, this, trim_self]
  · have pd := parts_den t ht (some (memD xs)) cs
    have ll := sp2_len t
    have e : ∀ cs, _ := fun cs => F_program_eq xs hb ((sp2 t).map cmd) (by rw [List.length_map]; omega) cs
    simp only [if_neg h, mkF, finS, env0, sSeq, sIf, sRet, sNil, qB, d2, dFn, dC, dVar, dCons, dNil, Out.bind, Out.bindS, List.length_cons, List.length_nil, List.map_cons, List.map_nil, List.cons_append, List.nil_append, List.replicate_succ, List.replicate_zero, Nat.reduceAdd, Nat.reduceSub, if_true, List.getElem?_cons_zero, List.getElem?_cons_succ, lit_none, eqS, pd]
    cases hbb : (sp2 t).findIdx? badC with
    | some i => simp [h, hbb, pd, Out.bind, Out.bindS, D.lt, D.ltL, trim_self]
    | none =>
      cases hk : progErr xs ((sp2 t).map cmd) with
      | none => simp [orE, h, hbb, hk, pd, e, lt_prog, Out.bind, Out.bindS, trim_self]
      | some k =>
        have := ltL_erfs k
        simp [orE, h, hbb, hk, pd, e, Er.exn, this, Out.bind, Out.bindS, trim_self]
/-! ### outcomes -/
def outD : Option Er → D → D
  | none, d => .tup [.str "ok", d]
  | some (.ln i), _ => .tup [.str "line", .int i]
  | some (.wd i), _ => .tup [.str "word", .int i]
  | some (.ct n), _ => .tup [.str "count", .str "commands", .int n]
theorem lam_or {lm : Den D} {env : DL.Env} {cs : List Cell} (o : Option Er) (d : D) (hd : ∀ n, D.lt n d = true) (h : lm env cs = orE o d cs) : dLamK (.T "ok") 2 H_law_outcome g_law_outcome lm env cs = .ok (outD o d) cs := by
  have f2 : fits 2 := fits_of (by omega)
  have f3 : fits 3 := fits_of (by omega)
  unfold dLamK dActK
  cases o with
  | none => simp [h, orE, sSeq, sTry, sActK, Out.bindS, finS, outD, D.lt, D.ltL, hd, trim_self]
  | some k =>
    cases k with
    | ln i => simp [h, orE, Er.exn, Er.c, Er.ks, Er.fs, sSeq, sTry, sActK, Out.bind, Out.bindS, sHd, H_law_outcome, List.lookup, slotOk, offE, xTup, xCons, xNil, xAt, atK, dC, f2, finS, outD, D.lt, D.ltL, trim_self]
    | wd i => simp [h, orE, Er.exn, Er.c, Er.ks, Er.fs, sSeq, sTry, sActK, Out.bind, Out.bindS, sHd, H_law_outcome, List.lookup, slotOk, offE, xTup, xCons, xNil, xAt, atK, dC, f2, finS, outD, D.lt, D.ltL, trim_self]
    | ct i => simp [h, orE, Er.exn, Er.c, Er.ks, Er.fs, sSeq, sTry, sActK, Out.bind, Out.bindS, sHd, H_law_outcome, List.lookup, slotOk, offE, xTup, xCons, xNil, xAt, atK, dC, f3, finS, outD, D.lt, D.ltL, trim_self]
theorem lam_bad {lm : Den D} {env : DL.Env} {cs : List Cell} (i : Int) (h : lm env cs = .exn 32 [19] [.int i] cs) : dLamK (.T "ok") 2 H_law_outcome g_law_outcome lm env cs = .ok (.tup [.str "text", .int i]) cs := by
  have f2 : fits 2 := fits_of (by omega)
  unfold dLamK dActK
  simp [h, sSeq, sTry, sActK, Out.bind, Out.bindS, sHd, H_law_outcome, List.lookup, slotOk, offE, xTup, xCons, xNil, xAt, atK, dC, f2, finS, D.lt, D.ltL, trim_self]
/-! ### what is shown -/
def shZ : Cz → D
  | .S l w n => .tup [.str "store", .int l, .int w, .int n]
  | .F l => .tup [.str "flush", .int l]
  | .X => .tup [.str "fence", .bl true]
theorem okE_sh (k : Cz) (n : Nat) : (shZ k).okE [] (n + 1) = true := by cases k <;> simp [shZ, D.okE, D.okL]
theorem lt_sh (k : Cz) (n : Nat) : D.lt n (shZ k) = true := by cases k <;> rfl
theorem sh_loop (e0 : Option D) : ∀ (r acc : List Cz) (o : Option D) (cs : List Cell), acc.length + r.length ≤ 100000 →
    ∃ o', forL noChk (gNm 2) lb_law_shown_0 (obz r) [e0, some (.cell cs.length), o] (cs ++ [.lst (acc.map shZ)]) = .nx [e0, some (.cell cs.length), o'] (cs ++ [.lst ((acc ++ r).map shZ)])
  | [], acc, o, cs, _ => ⟨o, by rw [List.append_nil]; exact forL_nil trivial⟩
  | k :: r, acc, o, cs, hl => by
    obtain ⟨o', e⟩ := sh_loop e0 r (acc ++ [k]) (some k.ob) cs (by simp at hl ⊢; omega)
    refine ⟨o', (forL_step (r := obz r) (cs2 := cs ++ [.lst ((acc ++ [k]).map shZ)]) (env2 := [e0, some (.cell cs.length), some k.ob]) trivial rfl ?_).trans (by rw [e]; simp)⟩
    have hA : appendD (.cell cs.length) [shZ k] (cs ++ [.lst (acc.map shZ)]) = .ok .non (cs ++ [.lst ((acc ++ [k]).map shZ)]) := by
      have hf : fitsL (acc.map shZ).length := fitsL_of (by simp at hl ⊢; omega)
      unfold appendD
      simp only [end_get, if_pos hf, end_set]
      simp
    have f2 : fits 2 := fits_of (by omega)
    have f4 : fits 4 := fits_of (by omega)
    have hi : isL (cs ++ [.lst (acc.map shZ)]) (.cell cs.length) = true := by simp [isL, itemsL, end_get]
    cases k with
    | S l w n =>
      simp [lb_law_shown_0, sIf, sExpr, qB, d1, dVar, dML, dTup, dCons, dNil, dC, Cz.ob, isiD, isi_Store, List.lookup, getD, od, atK, Out.bind, Out.bindS, f4, hi]
      rw [List.map_append] at hA
      rw [show appendD (.cell cs.length) [.tup [.str "store", .int l, .int w, .int n]] (cs ++ [.lst (acc.map shZ)]) = _ from hA]
      rfl
    | F l =>
      simp [lb_law_shown_0, sIf, sExpr, qB, d1, dVar, dML, dTup, dCons, dNil, dC, dIf, Cz.ob, isiD, isi_Store, isi_Flush, List.lookup, getD, od, atK, Out.bind, Out.bindS, f2, hi]
      rw [List.map_append] at hA
      rw [show appendD (.cell cs.length) [.tup [.str "flush", .int l]] (cs ++ [.lst (acc.map shZ)]) = _ from hA]
      rfl
    | X =>
      simp [lb_law_shown_0, sIf, sExpr, qB, d1, dVar, dML, dTup, dCons, dNil, dC, dIf, Cz.ob, isiD, isi_Store, isi_Flush, isi_Fence, List.lookup, getD, od, atK, Out.bind, Out.bindS, f2, hi]
      rw [List.map_append] at hA
      rw [show appendD (.cell cs.length) [.tup [.str "fence", .bl true]] (cs ++ [.lst (acc.map shZ)]) = _ from hA]
      rfl
theorem neK (a b : PySem.Str) (cs : List Cell) : neC [] 20 (.str a) (.str b) cs = .ok (.bl (!(a == b))) cs := by simp [neC, resL, D.okE, eqD]
theorem F_shown_ok (xs : List Int) (r : List Cz) (hr : r.length ≤ 100000) (cs : List Cell) : F_law_shown [.tup [.str "ok", progZ xs r]] cs = .ok (.lst (r.map shZ)) cs := by
  have n1 : ((Str.ofString "ok") == (Str.ofString "ok")) = true := by decide +kernel
  obtain ⟨o', e⟩ := sh_loop (some (.tup [.str "ok", progZ xs r])) r [] none cs (by simpa using hr)
  have j0 : ∀ d cs, ixD (.tup [.str (Str.ofString "ok"), d]) (.int 0) cs = .ok (.str (Str.ofString "ok")) cs := fun d cs => rfl
  have j1 : ∀ d cs, ixD (.tup [.str (Str.ofString "ok"), d]) (.int 1) cs = .ok d cs := fun d cs => rfl
  have g1 : ∀ cs, getD od 8 (progZ xs r) cs = .ok (.tup (obz r)) cs := fun cs => rfl
  have lv : ∀ n, D.ltL n (r.map shZ) = true := fun n => ltL_map fun x _ => lt_sh x n
  have f0 : fits 0 := fits_of (by omega)
  rw [List.map_nil, List.nil_append] at e
  unfold F_law_shown b_law_shown
  simp only [mkF, finS, env0, sSeq, sSet, sIf, sRet, sNil, sFor, itT, qB, d1, d2, dFrz, dLstC, dC, dVar, dCons, dNil, Out.bind, Out.bindS, List.length_cons, List.length_nil, List.map_cons, List.map_nil, List.cons_append, List.nil_append, List.replicate_succ, List.replicate_zero, Nat.reduceAdd, Nat.reduceSub, if_true, List.getElem?_cons_zero, List.getElem?_cons_succ, List.set_cons_zero, List.set_cons_succ, j0, neK, n1, Bool.not_true, Bool.false_eq_true, if_false, f0]
  simp only [j1, g1, e, Out.bind, Out.bindS, end_get, end_set, List.getElem?_cons_zero, List.getElem?_cons_succ, D.lt, lv, trim_app]
theorem F_shown_er (k : Er) (d : D) (cs : List Cell) : F_law_shown [outD (some k) d] cs = .ok (outD (some k) d) cs := by
  have n1 : ((Str.ofString "line") == (Str.ofString "ok")) = false := by decide +kernel
  have n2 : ((Str.ofString "word") == (Str.ofString "ok")) = false := by decide +kernel
  have n3 : ((Str.ofString "count") == (Str.ofString "ok")) = false := by decide +kernel
  unfold F_law_shown b_law_shown
  cases k <;> simp [outD, mkF, finS, env0, sSeq, sSet, sIf, sRet, sNil, qB, d2, dC, dVar, Out.bind, Out.bindS, ixD, asI, itemsS, itemsT, L2.atI, L2.ixN, neK, n1, n2, n3, D.lt, D.ltL, trim_self]
end K72
end

section
set_option Elab.async false
set_option linter.all false
set_option maxRecDepth 100000
namespace K72
open PySem L2 DL
/-! ### one text -/
theorem parts_len (t : List Nat) : (partsL t).length ≤ t.length + 1 := by
  unfold partsL
  split
  · simp
  · exact sp2_len t
theorem parts_sub (t : List Nat) : ∀ p ∈ partsL t, p.length ≤ t.length := by
  unfold partsL
  split
  · intro p hp; cases hp
  · exact sp2_sub t
theorem cmds_den (t : List Nat) (ht : t.length ≤ 80000) (e0 e2 e3 e4 e6 : Option D) (cs : List Cell) :
    dIf (qB (d2 (dVar 1) (dC (.str "none")) (eqC [] 20))) (dLst dNil) (dLc [5] (DL.itL (dM1 (dVar 1) (dC (.str ", ")) splitD)) (gNm 5) pYes ce_law_text_right_1) [e0, some (.str (SX.S t)), e2, e3, e4, none, e6] cs = .ok (.lst ((partsL t).map outR)) cs := by
  have f0 : fits 0 := fits_of (by omega)
  unfold partsL
  by_cases h : t = [110, 111, 110, 101]
  · simp [h, dIf, qB, d2, dVar, dC, dLst, dNil, Out.bind, lit_none, eqS, f0]
  · have s1 : ∀ cs, _ := fun cs => split2 t cs (by omega)
    have ll := sp2_len t
    have el : dLc [5] (DL.itL (dM1 (dVar 1) (dC (.str ", ")) splitD)) (gNm 5) pYes ce_law_text_right_1 [e0, some (.str (SX.S t)), e2, e3, e4, none, e6] cs = .ok (.lst ((sp2 t).map outR)) cs := by
      refine lc_map (chk := noChk) (sp2 t) (fun p => .str (SX.S p)) outR ?_ (fun _ => trivial) (by omega) (fun x hx acc => ⟨_, rfl, ?_⟩) (ltL_map fun x hx => ?_)
      · simp only [DL.itL, dM1, dVar, dC, Out.bind, List.getElem?_cons_zero, List.getElem?_cons_succ, lit_comma, s1]
      · have lx := sp2_sub t x hx
        show ce_law_text_right_1 [_, _, _, _, _, some (.str (SX.S x)), _] _ = _
        simp only [ce_law_text_right_1, dFn, dCons, dNil, dVar, dC, Out.bind, List.getElem?_cons_zero, List.getElem?_cons_succ, F_law_read_eq x (by omega)]
      · unfold outR
        cases parseC x with
        | none => rfl
        | some k => exact lt_obz _ _
    simp only [if_neg h, dIf, qB, d2, dVar, dC, Out.bind, List.getElem?_cons_zero, List.getElem?_cons_succ, lit_none, eqS, decide_false, Bool.false_eq_true, el]
    simp [h, el]
theorem nons_den (L : List (List Nat)) (hl : L.length ≤ 90000) (e0 e1 e2 e4 e5 : Option D) (cs : List Cell) :
    dLc [6] (DL.itL (dVar 3)) (gNm 6) pYes ce_law_text_right_2 [e0, e1, e2, some (.lst (L.map outR)), e4, e5, none] cs = .ok (.lst (L.map fun p => if badC p = true then .non else .int 0)) cs := by
  refine lc_map (chk := noChk) L outR (fun p => if badC p = true then .non else .int 0) ?_ (fun _ => trivial) (by omega) (fun x hx acc => ⟨_, rfl, ?_⟩) (ltL_map fun x hx => ?_)
  · simp only [DL.itL, dVar, Out.bind, List.getElem?_cons_zero, List.getElem?_cons_succ]
  · show ce_law_text_right_2 [_, _, _, _, _, _, some (outR x)] _ = _
    unfold ce_law_text_right_2 outR badC
    cases parseC x with
    | none => rfl
    | some k => cases k <;> rfl
  · split <;> rfl
theorem isn_den (L : List (List Nat)) (hl : L.length ≤ 90000) (e0 e1 e2 e4 e5 : Option D) (cs : List Cell) :
    dLc [6] (DL.itL (dVar 3)) (gNm 6) pYes ce_law_text_right_3 [e0, e1, e2, some (.lst (L.map outR)), e4, e5, none] cs = .ok (.lst (L.map fun p => .bl (badC p))) cs := by
  refine lc_map (chk := noChk) L outR (fun p => .bl (badC p)) ?_ (fun _ => trivial) (by omega) (fun x hx acc => ⟨_, rfl, ?_⟩) (ltL_map fun x hx => rfl)
  · simp only [DL.itL, dVar, Out.bind, List.getElem?_cons_zero, List.getElem?_cons_succ]
  · show ce_law_text_right_3 [_, _, _, _, _, _, some (outR x)] _ = _
    unfold ce_law_text_right_3 outR badC
    cases parseC x with
    | none => rfl
    | some k => cases k <;> rfl
theorem in_non {α : Type} (f : α → Bool) (L : List α) (cs : List Cell) : inC [] 20 false .non (.lst (L.map fun p => if f p = true then D.non else .int 0)) cs = .ok (.bl (L.any f)) cs := by
  have h1 : ((L.map fun p => if f p = true then D.non else .int 0).all fun b => D.okE [] b 20 && (eqD b (resL cs .non)).isSome) = true := by
    rw [List.all_map, List.all_eq_true]
    intro p hp
    show (D.okE [] (if f p = true then D.non else .int 0) 20 && (eqD (if f p = true then D.non else .int 0) .non).isSome) = true
    split <;> simp [D.okE, eqD]
  have h2 : ((L.map fun p => if f p = true then D.non else .int 0).any fun b => eqD b (resL cs .non) == some true) = L.any f := by
    rw [List.any_map]
    congr 1
    funext p
    show (eqD (if f p = true then D.non else .int 0) .non == some true) = f p
    cases f p <;> simp [eqD]
  have h3 : D.okE [] (resL cs .non) 20 = true := by simp [resL, D.okE]
  unfold inC
  simp only [itemsS, itemsL, h1, h2, h3, Bool.and_self, if_true, Bool.false_eq_true, if_false]
theorem any_find {α : Type} (f : α → Bool) (L : List α) : L.any f = (L.findIdx? f).isSome := by
  cases h : L.findIdx? f with
  | none =>
    have := find_none h
    simp only [Option.isSome_none, List.any_eq_false]
    intro x hx; simp [this x hx]
  | some i =>
    obtain ⟨A, z, B, e, l, h1, h2⟩ := find_some h
    rw [e]; simp [h2]
theorem index_den {α : Type} (f : α → Bool) (L : List α) (i : Nat) (h : L.findIdx? f = some i) (cs : List Cell) : indexB (.lst (L.map fun p => .bl (f p))) [.bl true] cs = .ok (.int (i : Int)) cs := by
  unfold indexB
  simp only [itemsL, Option.bind, bls_map]
  rw [List.findIdx?_map]
  have : ((fun x => x == true) ∘ f) = f := by funext x; simp
  rw [this, h]
theorem lt_outD (o : Option Er) (xs : List Int) (r : List Cz) (n : Nat) : D.lt n (outD o (progZ xs r)) = true := by
  cases o with
  | none =>
    show (D.lt n (.str "ok") && (D.lt n (progZ xs r) && true)) = true
    rw [lt_prog]; rfl
  | some k => cases k <;> rfl
theorem okE_outD (o : Option Er) (xs : List Int) (r : List Cz) : (outD o (progZ xs r)).okE ownCS 6 = true := by
  have h := okE_prog (ob := ownCS) (by decide) (by decide) (by decide) (by decide) (by decide) xs r
  cases o with
  | none =>
    unfold outD D.okE D.okL D.okL D.okL
    rw [h]; simp [D.okE]
  | some k => cases k <;> simp [outD, D.okE, D.okL]
theorem text_right {xs : List Int} (x1 : 1 ≤ xs.length) (x2 : xs.length ≤ 6) (x3 : ∀ x ∈ xs, 1 ≤ x ∧ x ≤ 4) (t : List Nat) (ht : t.length ≤ 80000) (cs : List Cell) : F_law_text_right [memD xs, .str (SX.S t)] cs = .ok (.bl true) cs := by
  have r1 : ∀ e2 e3 e4 e5 e6 cs, lm_law_text_right_0 [some (memD xs), some (.str (SX.S t)), e2, e3, e4, e5, e6] cs = outP xs t cs := fun e2 e3 e4 e5 e6 cs => by
    simp only [lm_law_text_right_0, dFn, dCons, dNil, dVar, Out.bind, List.getElem?_cons_zero, List.getElem?_cons_succ, F_read_program_eq xs x2 t (by omega)]
  have pl := parts_len t
  have cd : ∀ e0 e2 e3 e4 e6 cs, _ := fun e0 e2 e3 e4 e6 cs => cmds_den t ht e0 e2 e3 e4 e6 cs
  have nd : ∀ e0 e1 e2 e4 e5 cs, _ := fun e0 e1 e2 e4 e5 cs => nons_den (partsL t) (by omega) e0 e1 e2 e4 e5 cs
  have bd : ∀ e0 e1 e2 e4 e5 cs, _ := fun e0 e1 e2 e4 e5 cs => isn_den (partsL t) (by omega) e0 e1 e2 e4 e5 cs
  have iN : ∀ cs, _ := fun cs => in_non badC (partsL t) cs
  unfold F_law_text_right b_law_text_right
  unfold outP at r1
  cases hb : (partsL t).findIdx? badC with
  | some i =>
    rw [hb] at r1
    have l1 : ∀ e2 e3 e4 e5 e6 cs, dLamK (.T "ok") 2 H_law_outcome g_law_outcome lm_law_text_right_0 [some (memD xs), some (.str (SX.S t)), e2, e3, e4, e5, e6] cs = .ok (.tup [.str "text", .int (i : Int)]) cs := fun e2 e3 e4 e5 e6 cs => lam_bad (i : Int) (r1 e2 e3 e4 e5 e6 cs)
    rw [any_find, hb] at iN
    have ix : ∀ cs, _ := fun cs => index_den badC (partsL t) i hb cs
    have es : ∀ cs, eqC [] 20 (.tup [.str "text", .int (i : Int)]) (.tup [.str "text", .int (i : Int)]) cs = .ok (.bl true) cs := fun cs => eqC_self (by simp [D.okE, D.okL]) cs
    have f2 : fits 2 := fits_of (by omega)
    simp only [mkF, finS, env0, sSeq, sSet, sIf, sRet, sNil, qB, d2, dTup, dML, dC, dVar, dCons, dNil, Out.bind, Out.bindS, List.length_cons, List.length_nil, List.map_cons, List.map_nil, List.cons_append, List.nil_append, List.replicate_succ, List.replicate_zero, Nat.reduceAdd, Nat.reduceSub, if_true, List.getElem?_cons_zero, List.getElem?_cons_succ, List.set_cons_zero, List.set_cons_succ, l1]
    simp only [cd, nd, iN, Out.bind, Out.bindS, List.getElem?_cons_zero, List.getElem?_cons_succ, List.set_cons_zero, List.set_cons_succ, Option.isSome_some, if_true]
    have hi : ∀ cs, isL cs (.lst ((partsL t).map fun p => D.bl (badC p))) = true := fun cs => rfl
    simp only [bd, hi, ix, f2, es, if_true, Out.bind, Out.bindS, List.length_cons, List.length_nil, Nat.reduceAdd, D.lt, trim_self]
  | none =>
    rw [hb] at r1
    have hal := find_none hb
    have ec : (partsL t).map outR = obz (cmds t) := by
      unfold obz cmds
      rw [List.map_map]
      refine List.map_congr_left fun p hp => ?_
      have := hal p hp
      unfold badC at this
      unfold outR
      show _ = (cmd p).ob
      unfold cmd
      cases hq : parseC p with
      | none => rw [hq] at this; cases this
      | some k => rfl
    have lc : (cmds t).length ≤ 80001 := by unfold cmds; rw [List.length_map]; omega
    have fm : ∀ cs, mkO od 7 F_Memory_init [.tup (ilist xs)] cs = .ok (memD xs) cs := fun cs => F_memory xs (.tup (ilist xs)) cs (fun _ => rfl) x1 x2 x3
    have fp : ∀ cs, _ := fun cs => F_program_eq xs x2 (cmds t) (by omega) cs
    have g1 : ∀ cs, getD od 5 (memD xs) cs = .ok (.tup (ilist xs)) cs := fun cs => rfl
    have r2 : ∀ e1 e2 e4 e5 e6 cs, lm_law_text_right_4 [some (memD xs), e1, e2, some (.lst (obz (cmds t))), e4, e5, e6] cs = orE (progErr xs (cmds t)) (progZ xs (cmds t)) cs := fun e1 e2 e4 e5 e6 cs => by
      simp only [lm_law_text_right_4, dFn, d1, dCons, dNil, dVar, Out.bind, List.getElem?_cons_zero, List.getElem?_cons_succ, g1, fm, fp]
    have l1 : ∀ e2 e3 e4 e5 e6 cs, dLamK (.T "ok") 2 H_law_outcome g_law_outcome lm_law_text_right_0 [some (memD xs), some (.str (SX.S t)), e2, e3, e4, e5, e6] cs = .ok (outD (progErr xs (cmds t)) (progZ xs (cmds t))) cs := fun e2 e3 e4 e5 e6 cs => lam_or _ _ (lt_prog _ _) (r1 e2 e3 e4 e5 e6 cs)
    have l2 : ∀ e1 e2 e4 e5 e6 cs, dLamK (.T "ok") 2 H_law_outcome g_law_outcome lm_law_text_right_4 [some (memD xs), e1, e2, some (.lst (obz (cmds t))), e4, e5, e6] cs = .ok (outD (progErr xs (cmds t)) (progZ xs (cmds t))) cs := fun e1 e2 e4 e5 e6 cs => lam_or _ _ (lt_prog _ _) (r2 e1 e2 e4 e5 e6 cs)
    rw [any_find, hb] at iN
    have e1 : ∀ cs, eqC ownCS 6 (outD (progErr xs (cmds t)) (progZ xs (cmds t))) (outD (progErr xs (cmds t)) (progZ xs (cmds t))) cs = .ok (.bl true) cs := fun cs => eqC_self (okE_outD _ _ _) cs
    obtain ⟨v, sv, ov⟩ : ∃ v, (∀ cs, F_law_shown [outD (progErr xs (cmds t)) (progZ xs (cmds t))] cs = .ok v cs) ∧ v.okE [] 20 = true := by
      cases progErr xs (cmds t) with
      | none => exact ⟨_, fun cs => F_shown_ok xs (cmds t) (by omega) cs, by unfold D.okE; exact okL_map fun k _ => okE_sh k 18⟩
      | some k => exact ⟨_, fun cs => F_shown_er k _ cs, by cases k <;> simp [outD, D.okE, D.okL]⟩
    have e2 : ∀ cs, eqC [] 20 v v cs = .ok (.bl true) cs := fun cs => eqC_self ov cs
    simp only [mkF, finS, env0, sSeq, sSet, sIf, sRet, sNil, eAnd, qB, d2, dTup, dML, dC, dVar, dFn, dCons, dNil, Out.bind, Out.bindS, List.length_cons, List.length_nil, List.map_cons, List.map_nil, List.cons_append, List.nil_append, List.replicate_succ, List.replicate_zero, Nat.reduceAdd, Nat.reduceSub, if_true, List.getElem?_cons_zero, List.getElem?_cons_succ, List.set_cons_zero, List.set_cons_succ, l1]
    simp only [cd, nd, iN, Out.bind, Out.bindS, List.getElem?_cons_zero, List.getElem?_cons_succ, List.set_cons_zero, List.set_cons_succ, Option.isSome_none, Bool.false_eq_true, if_false]
    simp only [ec, l2, e1, sv, e2, asB, if_true, Out.bind, Out.bindS, List.getElem?_cons_zero, List.getElem?_cons_succ, List.set_cons_zero, List.set_cons_succ, D.lt, trim_self]
end K72
end

section
set_option Elab.async false
set_option linter.all false
set_option maxRecDepth 100000
namespace K72
open PySem L2 DL
/-! ### specs drawn -/
theorem specs_loop {xs : List Int} (x1 : 1 ≤ xs.length) (h6 : xs.length ≤ 6) (hy : ∀ y ∈ xs, 1 ≤ y ∧ y ≤ 4) {n : Nat} {cs : List Cell} (hn : n < cs.length) (e2 e3 : Option D) : ∀ (k : Nat) (j : Int) (c : Cell) (acc : List Sq) (e5 e6 e7 : Option D), isS c → acc.length + k ≤ 1000 → (∀ s ∈ acc, s.ok xs) →
    ∃ (new : List Sq) (c' : Cell) (f5 f6 f7 : Option D), isS c' ∧ new.length = k ∧ (∀ s ∈ acc ++ new, s.ok xs) ∧
      forL noChk (gNm 5) lb_law_specs_0 (rngL j k) [some (.cell n), some (.lst (ilist xs)), e2, e3, some (.cell cs.length), e5, e6, e7] (cs.set n c ++ [.lst (sqs acc)])
        = .nx [some (.cell n), some (.lst (ilist xs)), e2, e3, some (.cell cs.length), f5, f6, f7] (cs.set n c' ++ [.lst (sqs (acc ++ new))])
  | 0, j, c, acc, e5, e6, e7, hs, _, ha => ⟨[], c, e5, e6, e7, hs, rfl, by simpa using ha, by rw [List.append_nil]; exact forL_nil trivial⟩
  | k + 1, j, c, acc, e5, e6, e7, hs, hk, ha => by
    have hn' : ∀ c, n < (cs.set n c).length := fun c => by simpa using hn
    obtain ⟨kd, c1, k1, s1, p1⟩ := pick_ok (cs := cs.set n c ++ [.lst (sqs acc)]) (app_get (set_get hn)) hs [.str (Str.ofString "store"), .str (Str.ofString "store"), .str (Str.ofString "store"), .str (Str.ofString "flush"), .str (Str.ofString "flush"), .str (Str.ofString "fence")] (by simp) (by simp)
    rw [app_set (hn' c), List.set_set] at p1
    have hkd : ∃ K : Kd, kd = .str K.s := by
      simp only [List.mem_cons, List.not_mem_nil, or_false] at k1
      rcases k1 with r | r | r | r | r | r <;> subst r
      · exact ⟨.st, rfl⟩
      · exact ⟨.st, rfl⟩
      · exact ⟨.st, rfl⟩
      · exact ⟨.fl, rfl⟩
      · exact ⟨.fl, rfl⟩
      · exact ⟨.fe, rfl⟩
    obtain ⟨K, rfl⟩ := hkd
    obtain ⟨a, c2, s2, a0, a1, p2⟩ := draw_ok (cs := cs.set n c1 ++ [.lst (sqs acc)]) (app_get (set_get hn)) s1 (xs.length : Int) (by omega) (by
      rw [show ((xs.length : Int).natAbs) = xs.length by omega]; exact log_small (by omega))
    rw [app_set (hn' c1), List.set_set] at p2
    have al : a.toNat < xs.length := by omega
    have hgd : xs.getD a.toNat 0 = xs[a.toNat] := by simp [al]
    have hx := hy _ (List.getElem_mem al)
    obtain ⟨b, c3, s3, b0, b1, p3⟩ := draw_ok (cs := cs.set n c2 ++ [.lst (sqs acc)]) (app_get (set_get hn)) s2 xs[a.toNat] (by omega) (log_small (by omega))
    rw [app_set (hn' c2), List.set_set] at p3
    obtain ⟨z, c4, s4, z1, p4⟩ := number_ok (cs := cs.set n c3 ++ [.lst (sqs acc)]) (app_get (set_get hn)) s3
    rw [app_set (hn' c3), List.set_set] at p4
    have sok : Sq.ok xs ⟨K, a, b, z⟩ := ⟨a0, a1, b0, by rw [hgd]; exact b1, z1⟩
    obtain ⟨new, c', f5, f6, f7, s', l', o', ih⟩ := specs_loop x1 h6 hy hn e2 e3 k (j + 1) c4 (acc ++ [⟨K, a, b, z⟩]) (some (.int j)) (some (.str K.s)) (some (.int a)) s4 (by simp; omega) (fun s hs => by
      rcases List.mem_append.mp hs with q | q
      · exact ha s q
      · simp only [List.mem_cons, List.not_mem_nil, or_false] at q
        subst q; exact sok)
    refine ⟨⟨K, a, b, z⟩ :: new, c', f5, f6, f7, s', by simp [l'], by simpa using o', ?_⟩
    have eg : ∀ z z', (cs.set n z ++ [z'])[cs.length]? = some z' := fun z z' => by
      have := end_get (cs := cs.set n z) (c := z')
      rwa [List.length_set] at this
    have es : ∀ z z1 z', (cs.set n z ++ [z1]).set cs.length z' = cs.set n z ++ [z'] := fun z z1 z' => by
      have := end_set (cs := cs.set n z) (c := z1) (d := z')
      rwa [List.length_set] at this
    have fl : fits xs.length := fits_of (by omega)
    have f6' : fits 6 := fits_of (by omega)
    have f4 : fits 4 := fits_of (by omega)
    have fa : fitsL (sqs acc).length := fitsL_of (by rw [sqs_len]; omega)
    have hL : ∀ c, isL (cs.set n c ++ [.lst (sqs acc)]) (.cell cs.length) = true := fun c => by simp [isL, itemsL, eg]
    have hix : ∀ cs, ixD (.lst (ilist xs)) (.int a) cs = .ok (.int xs[a.toNat]) cs := fun cs => by
      have ha : L2.atI (ilist xs) a = some (.int xs[a.toNat]) := DL.atI_int a0 (by rw [il_get, List.getElem?_eq_getElem al]; rfl)
      unfold ixD asI
      simp only [itemsS, itemsL, ha]
    have hln : ∀ cs, lenD [.lst (ilist xs)] cs = .ok (.int (xs.length : Int)) cs := fun cs => by
      simp [lenD, lenD1, itemsS, itemsL, il_len]
    have hA : ∀ c, appendD (.cell cs.length) [.tup [.str K.s, .int a, .int b, .int z]] (cs.set n c ++ [.lst (sqs acc)]) = .ok .non (cs.set n c ++ [.lst (sqs (acc ++ [⟨K, a, b, z⟩]))]) := fun c => by
      unfold appendD
      simp only [eg, if_pos fa, es]
      unfold sqs
      rw [List.map_append]
      rfl
    rw [rngL_succ]
    rw [forL_step (env1 := [some (.cell n), some (.lst (ilist xs)), e2, e3, some (.cell cs.length), some (.int j), e6, e7]) (env2 := [some (.cell n), some (.lst (ilist xs)), e2, e3, some (.cell cs.length), some (.int j), some (.str K.s), some (.int a)]) (cs2 := cs.set n c4 ++ [.lst (sqs (acc ++ [⟨K, a, b, z⟩]))]) trivial rfl (by
      unfold lb_law_specs_0
      simp only [sSeq, sSet, sExpr, dML, dFn, dCons, dNil, dVar, dC, dLst, dTup, dCall, d2, Out.bind, Out.bindS, List.length_cons, List.length_nil, Nat.reduceAdd, if_pos f6', if_pos f4, List.getElem?_cons_zero, List.getElem?_cons_succ, List.set_cons_zero, List.set_cons_succ, p1, hln, p2, hL, if_true, hix, p3, p4, hA])]
    rw [ih]
    simp
theorem specs_ok {xs : List Int} (x1 : 1 ≤ xs.length) (h6 : xs.length ≤ 6) (hy : ∀ y ∈ xs, 1 ≤ y ∧ y ≤ 4) {n : Nat} {cs : List Cell} {c : Cell} (h : cs[n]? = some c) (hs : isS c) (lo hi : Int) (h0 : 0 ≤ lo) (h1 : lo ≤ hi) (h2 : hi ≤ 20) :
    ∃ (r : List Sq) (c' : Cell), isS c' ∧ lo ≤ r.length ∧ r.length ≤ hi ∧ (∀ s ∈ r, s.ok xs) ∧ F_law_specs [.cell n, .lst (ilist xs), .int lo, .int hi] cs = .ok (.lst (sqs r)) (cs.set n c') := by
  have hn := live_len h
  obtain ⟨q, c1, s1, q0, q1, p1⟩ := draw_ok (cs := cs ++ [.lst (sqs [])]) (app_get h) hs (hi - lo + 1) (by omega) (by
    exact log_small (by omega))
  rw [app_set hn] at p1
  have hin : in62 (lo + q) := in62_of (by omega) (by omega)
  obtain ⟨new, c', f5, f6, f7, s', l', o', e⟩ := specs_loop x1 h6 hy hn (some (.int lo)) (some (.int hi)) (lo + q).toNat 0 c1 [] none none none s1 (by simp; omega) (fun s h => nomatch h)
  rw [List.nil_append] at o' e
  refine ⟨new, c', s', by omega, by omega, o', ?_⟩
  have f0 : fits 0 := fits_of (by omega)
  have ad : ∀ i j cs, addD (.int i) (.int j) cs = .ok (.int (i + j)) cs := fun _ _ _ => rfl
  have sb : ∀ i j cs, subD (.int i) (.int j) cs = .ok (.int (i - j)) cs := fun _ _ _ => rfl
  change F_law_draw _ (cs ++ [.lst []]) = Out.ok _ (cs.set n c1 ++ [.lst []]) at p1
  change forL noChk (gNm 5) lb_law_specs_0 (rngL 0 (lo + q).toNat) _ (cs.set n c1 ++ [.lst []]) = _ at e
  have lt : D.lt cs.length (.lst (sqs new)) = true := ltL_sqs new _
  have eg : (cs.set n c' ++ [Cell.lst (sqs new)])[cs.length]? = some (.lst (sqs new)) := by
    have := end_get (cs := cs.set n c') (c := .lst (sqs new))
    rwa [List.length_set] at this
  have es : ∀ z, (cs.set n c' ++ [Cell.lst (sqs new)]).set cs.length z = cs.set n c' ++ [z] := fun z => by
    have := end_set (cs := cs.set n c') (c := .lst (sqs new)) (d := z)
    rwa [List.length_set] at this
  unfold F_law_specs b_law_specs
  simp only [mkF, finS, env0, sSeq, sSet, sFor, itR1, sRet, Out.bind, Out.bindS, dLstC, dFrz, dCons, dNil, dFn, dVar, dC, d2, List.length_cons, List.length_nil, List.map_cons, List.map_nil, List.cons_append, List.nil_append, List.replicate_succ, List.replicate_zero, Nat.reduceAdd, Nat.reduceSub, if_true, if_pos f0, List.getElem?_cons_zero, List.getElem?_cons_succ, List.set_cons_zero, List.set_cons_succ, sb, ad, p1, if_pos hin, e, eg, es, lt]
  rw [trim_gen (by simp) fun i x q => ?_]
  by_cases hi : n = i
  · subst hi
    rw [List.getElem?_set_self hn] at q; cases q
    exact .inr (isS_lt s' _)
  · rw [List.getElem?_set_ne hi] at q
    exact .inl q
/-! ### the law's text -/
theorem disp_nums (s : Sq) (e0 e1 e6 e7 : Option D) (cs : List Cell) : dTr (d2 (dDisp (((dC (.str (Str.ofString "store"))), (dLst (dCons (dVar 3) (dCons (dVar 4) (dCons (dVar 5) dNil))))) :: (((dC (.str (Str.ofString "flush"))), (dLst (dCons (dVar 3) dNil))) :: (((dC (.str (Str.ofString "fence"))), (dLst dNil)) :: [])))) (dVar 2) dgetD)
    [e0, e1, some (.str s.k.s), some (.int s.a), some (.int s.b), some (.int s.c), e6, e7] cs = .ok (.lst (ilist (nums s.cz))) cs := by
  have f3 : fits 3 := fits_of (by omega)
  have f1 : fits 1 := fits_of (by omega)
  have f0 : fits 0 := fits_of (by omega)
  have e : ∀ cs, dDisp (((dC (.str (Str.ofString "store"))), (dLst (dCons (dVar 3) (dCons (dVar 4) (dCons (dVar 5) dNil))))) :: (((dC (.str (Str.ofString "flush"))), (dLst (dCons (dVar 3) dNil))) :: (((dC (.str (Str.ofString "fence"))), (dLst dNil)) :: [])))
      [e0, e1, some (.str s.k.s), some (.int s.a), some (.int s.b), some (.int s.c), e6, e7] cs = .ok (.cell cs.length) (cs ++ [.dic [Sum.inr (Str.ofString "store"), Sum.inr (Str.ofString "flush"), Sum.inr (Str.ofString "fence")] [.lst [.int s.a, .int s.b, .int s.c], .lst [.int s.a], .lst []]]) := fun cs => by
    unfold dDisp
    simp only [dPairs, dC, dLst, dCons, dNil, dVar, Out.bind, List.getElem?_cons_zero, List.getElem?_cons_succ, List.length_cons, List.length_nil, Nat.reduceAdd, if_pos f3, if_pos f1, if_pos f0, keysD, keyD, end_get, end_set]
    rw [if_pos (by refine ⟨nd3, by decide, ?_, ?_⟩ <;> first | trivial | rfl)]
  have g : dgetD (.cell cs.length) (.str s.k.s) (cs ++ [.dic [Sum.inr (Str.ofString "store"), Sum.inr (Str.ofString "flush"), Sum.inr (Str.ofString "fence")] [.lst [.int s.a, .int s.b, .int s.c], .lst [.int s.a], .lst []]]) = .ok (.lst (ilist (nums s.cz))) (cs ++ [.dic [Sum.inr (Str.ofString "store"), Sum.inr (Str.ofString "flush"), Sum.inr (Str.ofString "fence")] [.lst [.int s.a, .int s.b, .int s.c], .lst [.int s.a], .lst []]]) := by
    unfold dgetD
    simp only [itemsK, end_get, keyD]
    obtain ⟨k, a, b, c⟩ := s
    cases k with
    | st => simp [lkD, Kd.s, nums, Sq.cz, ilist]
    | fl => simp [lkD, Kd.s, nums, Sq.cz, ilist, ne_sf]
    | fe => simp [lkD, Kd.s, nums, Sq.cz, ilist, ne_se, ne_fe]
  unfold dTr
  simp only [d2, e, dVar, Out.bind, List.getElem?_cons_zero, List.getElem?_cons_succ, g]
  rw [show D.lt cs.length (.lst (ilist (nums s.cz))) = D.ltL cs.length (ilist (nums s.cz)) from rfl, ltL_il, trim_app]
theorem text_loop {xs : List Int} (h6 : xs.length ≤ 6) (hy : ∀ y ∈ xs, 1 ≤ y ∧ y ≤ 4) (v : D) (r0 : List Sq) (cs : List Cell) (chk : List Cell → Prop) (hc : ∀ e, chk (cs ++ e)) : ∀ (r : List Sq) (acc : List Cz) (e2 e3 e4 e5 e6 e7 : Option D), (∀ s ∈ r, s.ok xs) → acc.length + r.length ≤ 1000 →
    ∃ f2 f3 f4 f5 f6 f7, forL chk (gTupD 4 (gsCons (gNm 2) (gsCons (gNm 3) (gsCons (gNm 4) (gsCons (gNm 5) gsNil))))) lb_law_text_1 (sqs r) [some v, some (.cell cs.length), e2, e3, e4, e5, e6, e7] (cs ++ [.lst (acc.map fun k => .str (SX.S (cmdL k)))])
      = .nx [some v, some (.cell cs.length), f2, f3, f4, f5, f6, f7] (cs ++ [.lst ((acc ++ czs r).map fun k => .str (SX.S (cmdL k)))])
  | [], acc, e2, e3, e4, e5, e6, e7, _, _ => ⟨e2, e3, e4, e5, e6, e7, by
    show forL chk _ _ [] _ _ = _
    rw [show czs [] = [] from rfl, List.append_nil]
    exact forL_nil (hc _)⟩
  | s :: r, acc, e2, e3, e4, e5, e6, e7, ho, hl => by
    have so := ho s List.mem_cons_self
    have ss := sq_small h6 hy so
    obtain ⟨f2, f3, f4, f5, f6, f7, ih⟩ := text_loop h6 hy v r0 cs chk hc r (acc ++ [s.cz]) (some (.str s.k.s)) (some (.int s.a)) (some (.int s.b)) (some (.int s.c)) (some (.lst (ilist (nums s.cz)))) e7 (fun x hx => ho x (List.mem_cons_of_mem _ hx)) (by simp at hl ⊢; omega)
    refine ⟨f2, f3, f4, f5, f6, f7, ?_⟩
    have hg : ∀ z ∈ nums s.cz, lg1920 z := fun z hz => lg1920_of (by
      have h1 := ss z hz
      unfold small at h1
      rcases Nat.eq_zero_or_pos z.natAbs with e | e
      · rw [e]; decide
      · exact (Nat.log2_lt (by omega)).mpr (Nat.lt_of_lt_of_le h1 (by decide +kernel)))
    have l3 : (nums s.cz).length ≤ 3 := by cases s.cz <;> simp [nums]
    have hlc : ∀ (e1 : Option D) (cs : List Cell), dLc [7] (DL.itL (dVar 6)) (gNm 7) pYes ce_law_text_0 [some v, e1, some (.str s.k.s), some (.int s.a), some (.int s.b), some (.int s.c), some (.lst (ilist (nums s.cz))), e7] cs = .ok (.lst ((nums s.cz).map fun z => .str (SX.S (numZ z)))) cs := fun e1 cs => by
      refine lc_map (chk := noChk) (nums s.cz) D.int (fun z => .str (SX.S (numZ z))) ?_ (fun _ => trivial) (by omega) (fun x hx acc => ⟨_, rfl, ?_⟩) (ltL_map fun x hx => rfl)
      · simp [DL.itL, dVar, Out.bind, itemsL, ilist]
      · show ce_law_text_0 [_, _, _, _, _, _, _, some (.int x)] _ = _
        unfold ce_law_text_0
        simp only [dCall, dCons, dNil, dVar, Out.bind, List.getElem?_cons_zero, List.getElem?_cons_succ, strD, if_pos (hg x hx), numS_eq]
    have f1 : fits 1 := fits_of (by omega)
    have ad : ∀ cs, addD (.lst [.str s.k.s]) (.lst ((nums s.cz).map fun z => .str (SX.S (numZ z)))) cs = .ok (.lst (.str s.k.s :: (nums s.cz).map fun z => .str (SX.S (numZ z)))) cs := fun cs => by
      have f : fits ([D.str s.k.s].length + ((nums s.cz).map fun z => D.str (SX.S (numZ z))).length) := fits_of (by simp; omega)
      unfold addD
      simp only [both, asI, asS, itemsT, itemsL, if_pos f]
      rfl
    have hL : isL (cs ++ [.lst (acc.map fun k => .str (SX.S (cmdL k)))]) (.cell cs.length) = true := by simp [isL, itemsL]
    have hA : appendD (.cell cs.length) [.str (SX.S (cmdL s.cz))] (cs ++ [.lst (acc.map fun k => .str (SX.S (cmdL k)))]) = .ok .non (cs ++ [.lst ((acc ++ [s.cz]).map fun k => .str (SX.S (cmdL k)))]) := by
      have fl : fitsL (acc.map fun k => D.str (SX.S (cmdL k))).length := fitsL_of (by simp at hl ⊢; omega)
      unfold appendD
      simp only [end_get, if_pos fl, end_set]
      simp
    show forL chk _ _ (s.d :: sqs r) _ _ = _
    rw [forL_step (env1 := [some v, some (.cell cs.length), some (.str s.k.s), some (.int s.a), some (.int s.b), some (.int s.c), e6, e7]) (env2 := [some v, some (.cell cs.length), some (.str s.k.s), some (.int s.a), some (.int s.b), some (.int s.c), some (.lst (ilist (nums s.cz))), e7]) (cs2 := cs ++ [.lst ((acc ++ [s.cz]).map fun k => .str (SX.S (cmdL k)))]) (hc _) rfl (by
      unfold lb_law_text_1
      simp only [sSeq, sSet, sExpr, Out.bind, Out.bindS, disp_nums s, List.set_cons_zero, List.set_cons_succ, dML, dCons, dNil, dM1, dC, dVar, List.getElem?_cons_zero, List.getElem?_cons_succ, hL, if_true]
      simp only [d2, dLst, dCons, dNil, dVar, Out.bind, List.length_cons, List.length_nil, Nat.reduceAdd, if_pos f1, List.getElem?_cons_zero, List.getElem?_cons_succ, hlc, ad, join_words s ss, hA])]
    rw [ih]
    show SO.nx _ (cs ++ [Cell.lst ((acc ++ [s.cz] ++ czs r).map _)]) = SO.nx _ (cs ++ [Cell.lst ((acc ++ czs (s :: r)).map _)])
    rw [show acc ++ czs (s :: r) = acc ++ [s.cz] ++ czs r by unfold czs; simp]
theorem F_law_text_ok {xs : List Int} (h6 : xs.length ≤ 6) (hy : ∀ y ∈ xs, 1 ≤ y ∧ y ≤ 4) {v : D} {r : List Sq} {cs : List Cell} (h : IsQ v r cs) (hr : r.length ≤ 200) (ho : ∀ s ∈ r, s.ok xs) :
    F_law_text [v] cs = .ok (.str (SX.S (progL (czs r)))) cs := by
  obtain ⟨chk, e1, e2⟩ := (h.app [.lst []]).it 0 [some v, some (.cell cs.length), none, none, none, none, none, none] rfl
  obtain ⟨f2, f3, f4, f5, f6, f7, e⟩ := text_loop h6 hy v r cs chk (fun e => e2 _ (h.app e)) r [] none none none none none none ho (by simp; omega)
  rw [List.nil_append] at e
  change forL chk _ _ (sqs r) _ (cs ++ [.lst []]) = _ at e
  have f0 : fits 0 := fits_of (by omega)
  have hE : eqC [] 20 (.cell cs.length) (.lst []) (cs ++ [.lst (czs r |>.map fun k => .str (SX.S (cmdL k)))]) = .ok (.bl (decide (r = []))) (cs ++ [.lst (czs r |>.map fun k => .str (SX.S (cmdL k)))]) := by
    have okl : ∀ xs : List Cz, D.okL [] (xs.map fun k => D.str (SX.S (cmdL k))) 19 = true := fun xs => by
      induction xs with
      | nil => simp [D.okL]
      | cons x xs ih =>
        rw [List.map_cons]
        unfold D.okL
        rw [ih]; simp [D.okE]
    unfold eqC
    simp only [resL, end_get]
    have o1 : D.okE [] (.lst ((czs r).map fun k => .str (SX.S (cmdL k)))) 20 = true := by
      unfold D.okE; exact okl _
    have o2 : D.okE [] (.lst []) 20 = true := by simp [D.okE, D.okL]
    rw [o1, o2]
    cases r with
    | nil => simp [czs, eqD, eqL]
    | cons s r => simp [czs, eqD, eqL]
  unfold F_law_text b_law_text
  simp only [mkF, finS, env0, sSeq, sSet, sFor, sRet, Out.bind, Out.bindS, dLstC, dCons, dNil, List.length_cons, List.length_nil, List.map_cons, List.map_nil, List.cons_append, List.nil_append, List.replicate_succ, List.replicate_zero, Nat.reduceAdd, Nat.reduceSub, if_true, if_pos f0, List.set_cons_zero, List.set_cons_succ, e1, e]
  by_cases hn : r = []
  · subst hn
    have e0 : SX.S (progL (czs [])) = Str.ofString "none" := lit_none.symm
    rw [e0]
    simp only [dIf, qB, d2, dVar, dC, dLst, dNil, Out.bind, List.getElem?_cons_zero, List.getElem?_cons_succ, List.length_nil, if_pos f0, hE, decide_true, if_true, D.lt, trim_app]
  · have hn2 : czs r ≠ [] := fun z => hn (List.map_eq_nil_iff.mp z)
    have hj := join_cmds (czs r) (czs_small h6 hy ho) (by rw [czs_len]; exact hr) hn2 (.cell cs.length) (cs ++ [.lst ((czs r).map fun k => .str (SX.S (cmdL k)))]) (by simp [itemsS, itemsL])
    simp only [dIf, qB, d2, dM1, dVar, dC, dLst, dNil, Out.bind, List.getElem?_cons_zero, List.getElem?_cons_succ, List.length_nil, if_pos f0, hE, decide_eq_false hn, Bool.false_eq_true, if_false, hj, D.lt, trim_app]
theorem pick_str {n : Nat} {cs : List Cell} {c : Cell} (h : cs[n]? = some c) (hs : isS c) (u : List Nat) (h1 : 1 ≤ u.length) (h2 : u.length ≤ 200) :
    ∃ x c', isS c' ∧ F_law_pick [.cell n, .str (SX.S u)] cs = .ok (.str (SX.S [x])) (cs.set n c') := by
  obtain ⟨r, c', s', r0, r1, e⟩ := draw_ok h hs (u.length : Int) (by omega) (by
    have e1 : (u.length : Int).natAbs = u.length := by omega
    rw [e1]
    exact Nat.lt_of_le_of_lt (Nat.log2_le_self _) (by omega))
  have hr : r.toNat < u.length := by omega
  have ha : L2.atI u r = some u[r.toNat] := atI_int r0 (List.getElem?_eq_getElem hr)
  have fl : fits (SX.S u).length := fits_of (by rw [SX.S_len]; omega)
  refine ⟨u[r.toNat], c', s', ?_⟩
  have ha2 : ∀ cs, ixD (.str (SX.S u)) (.int r) cs = .ok (.str (SX.S [u[r.toNat]])) cs := fun cs => by
    unfold ixD asI
    have : L2.atI (SX.S u).cps.toList r = some u[r.toNat] := ha
    simp only [this, if_pos fl]
  have e2 : F_law_draw [.cell n, .int ((SX.S u).length : Nat)] cs = .ok (.int r) (cs.set n c') := by rw [SX.S_len]; exact e
  unfold F_law_pick b_law_pick
  simp only [mkF, finS, env0, sRet, Out.bind, Out.bindS, dCall, dCons, dNil, dVar, dFn, d2, lenD, lenD1, if_pos fl, List.length_cons, List.length_nil, List.map_cons, List.map_nil, List.cons_append, List.nil_append, List.replicate_succ, List.replicate_zero, Nat.reduceAdd, Nat.reduceSub, if_true, List.getElem?_cons_zero, List.getElem?_cons_succ, e2, ha2]
  rw [trim_len (by simp)]
theorem F_signs (cs : List Cell) : ∃ u, 1 ≤ u.length ∧ u.length ≤ 200 ∧ F_law_signs [] cs = .ok (.str (SX.S u)) cs := by
  have e1 : (Str.ofString " !\"#$&'()*+,-./0123456789:;<=>?@ABCDEFGHIJKLMNOPQRSTUVWXYZ") = SX.S ((Str.ofString " !\"#$&'()*+,-./0123456789:;<=>?@ABCDEFGHIJKLMNOPQRSTUVWXYZ").cps.toList) := (SX.S_tl _).symm
  have e2 : (Str.ofString "[\\]^_`abcdefghijklmnopqrstuvwxyz{|}~") = SX.S ((Str.ofString "[\\]^_`abcdefghijklmnopqrstuvwxyz{|}~").cps.toList) := (SX.S_tl _).symm
  have l1 : ((Str.ofString " !\"#$&'()*+,-./0123456789:;<=>?@ABCDEFGHIJKLMNOPQRSTUVWXYZ").cps.toList).length = 58 := by decide +kernel
  have l2 : ((Str.ofString "[\\]^_`abcdefghijklmnopqrstuvwxyz{|}~").cps.toList).length = 36 := by decide +kernel
  refine ⟨(Str.ofString " !\"#$&'()*+,-./0123456789:;<=>?@ABCDEFGHIJKLMNOPQRSTUVWXYZ").cps.toList ++ (Str.ofString "[\\]^_`abcdefghijklmnopqrstuvwxyz{|}~").cps.toList, by rw [List.length_append, l1, l2]; decide, by rw [List.length_append, l1, l2]; decide, ?_⟩
  have k : ∀ cs, addD (.str (Str.ofString " !\"#$&'()*+,-./0123456789:;<=>?@ABCDEFGHIJKLMNOPQRSTUVWXYZ")) (.str (Str.ofString "[\\]^_`abcdefghijklmnopqrstuvwxyz{|}~")) cs = .ok (.str (SX.S ((Str.ofString " !\"#$&'()*+,-./0123456789:;<=>?@ABCDEFGHIJKLMNOPQRSTUVWXYZ").cps.toList ++ (Str.ofString "[\\]^_`abcdefghijklmnopqrstuvwxyz{|}~").cps.toList))) cs := fun cs => by
    have := catS ((Str.ofString " !\"#$&'()*+,-./0123456789:;<=>?@ABCDEFGHIJKLMNOPQRSTUVWXYZ").cps.toList) ((Str.ofString "[\\]^_`abcdefghijklmnopqrstuvwxyz{|}~").cps.toList) cs (by rw [l1, l2]; decide)
    rwa [← e1, ← e2] at this
  have lt0 : ∀ t n, D.lt n (.str t) = true := fun _ _ => rfl
  unfold F_law_signs b_law_signs
  simp only [mkF, finS, env0, sSeq, sSet, sRet, d2, dC, dVar, Out.bind, Out.bindS, List.length_nil, List.map_nil, List.nil_append, List.replicate_succ, List.replicate_zero, Nat.reduceSub, if_true, List.getElem?_cons_zero, List.set_cons_zero, k, trim_self]
theorem bent_ok {n : Nat} {cs : List Cell} {c : Cell} (h : cs[n]? = some c) (hs : isS c) (t : List Nat) (ht : t.length ≤ 50000) :
    ∃ u c', isS c' ∧ u.length ≤ t.length + 1 ∧ u.count 47 ≤ t.count 47 + 1 ∧ F_law_bent [.cell n, .str (SX.S t)] cs = .ok (.str (SX.S u)) (cs.set n c') := by
  have hn := live_len h
  obtain ⟨r, c1, s1, r0, r1, e1⟩ := draw_ok h hs ((t.length : Int) + 1) (by omega) (by
    have e1 : ((t.length : Int) + 1).natAbs = t.length + 1 := by omega
    rw [e1]
    have : (t.length + 1).log2 ≤ 17 := by
      have := (Nat.log2_lt (n := t.length + 1) (k := 17) (by omega)).mpr (by omega)
      omega
    omega)
  obtain ⟨ri, rfl⟩ := Int.eq_ofNat_of_zero_le r0
  obtain ⟨sg, g1, g2, g3⟩ := F_signs (cs.set n c1)
  have m1 : (Str.ofString "0123456789") = SX.S [48, 49, 50, 51, 52, 53, 54, 55, 56, 57] := by decide +kernel
  have m2 : (Str.ofString "-+_. ,=/0") = SX.S [45, 43, 95, 46, 32, 44, 61, 47, 48] := by decide +kernel
  have m3 : (Str.ofString "sflbe") = SX.S [115, 102, 108, 98, 101] := by decide +kernel
  obtain ⟨x, c2, x2, s2, e2⟩ := pick_ok (set_get (c := c1) hn) s1 [.str (SX.S sg), .str (Str.ofString "0123456789"), .str (Str.ofString "-+_. ,=/0"), .str (Str.ofString "sflbe")] (by simp) (by simp)
  rw [List.set_set] at e2
  have hx : ∃ v : List Nat, x = .str (SX.S v) ∧ 1 ≤ v.length ∧ v.length ≤ 200 := by
    simp only [List.mem_cons, List.not_mem_nil, or_false] at x2
    rcases x2 with q | q | q | q
    · exact ⟨sg, q, g1, g2⟩
    · exact ⟨_, by rw [q, m1], by simp, by simp⟩
    · exact ⟨_, by rw [q, m2], by simp, by simp⟩
    · exact ⟨_, by rw [q, m3], by simp, by simp⟩
  obtain ⟨v, rfl, v1, v2⟩ := hx
  obtain ⟨y, c3, s3, e3⟩ := pick_str (set_get (c := c2) hn) s2 v v1 v2
  rw [List.set_set] at e3
  obtain ⟨w, c4, s4, w0, w1, e4⟩ := draw_ok (set_get (c := c3) hn) s3 3 (by decide) (by decide)
  rw [List.set_set] at e4
  obtain ⟨wi, rfl⟩ := Int.eq_ofNat_of_zero_le w0
  have f4 : fits 4 := fits_of (by omega)
  have fl : fits (SX.S t).length := fits_of (by rw [SX.S_len]; omega)
  have a1 : ∀ (i j : Int) cs, addD (.int i) (.int j) cs = .ok (.int (i + j)) cs := fun _ _ _ => rfl
  have a2 : ∀ (i j : Int) cs, subD (.int i) (.int j) cs = .ok (.int (i - j)) cs := fun _ _ _ => rfl
  have k1 : ∀ cs, sliceD (.str (SX.S t)) none (some (ri : Int)) cs = .ok (.str (SX.S (t.take ri))) cs := fun cs => cutTo t ri cs (by omega)
  have k2 : ∀ cs, sliceD (.str (SX.S t)) (some ((ri : Int) + 1)) none cs = .ok (.str (SX.S (t.drop (ri + 1)))) cs := fun cs => by
    have := cutFrom t (ri + 1) cs (by omega)
    rwa [show (((ri + 1 : Nat)) : Int) = (ri : Int) + 1 by omega] at this
  have k3 : ∀ cs, addD (.str (SX.S (t.take ri))) (.str (SX.S (t.drop (ri + 1)))) cs = .ok (.str (SX.S (t.take ri ++ t.drop (ri + 1)))) cs := fun cs => catS _ _ cs (by simp; omega)
  have k5 : ∀ cs, addD (.str (SX.S (t.take ri))) (.str (SX.S [y])) cs = .ok (.str (SX.S (t.take ri ++ [y]))) cs := fun cs => catS _ _ cs (by simp; omega)
  have lsg : ∀ t n, D.lt n (.str t) = true := fun _ _ => rfl
  have tk : t.count 47 = (t.take ri).count 47 + (t.drop ri).count 47 := by rw [← List.count_append, List.take_append_drop]
  by_cases hw : wi = 0
  · subst hw
    refine ⟨t.take ri ++ t.drop (ri + 1), c4, s4, by simp; omega, ?_, ?_⟩
    · rw [List.count_append]
      have : (t.drop (ri + 1)).count 47 ≤ (t.drop ri).count 47 := by
        rw [← List.drop_drop]
        exact List.Sublist.count_le _ (List.drop_sublist 1 _)
      omega
    · have ez : ∀ cs, eqC [] 20 (.int 0) (.int 0) cs = .ok (.bl true) cs := fun cs => by simp [eqC, resL, D.okE, eqD]
      unfold F_law_bent b_law_bent
      simp only [mkF, finS, env0, sSeq, sSet, sIf, sRet, sNil, qB, d2, dC, dVar, dCall, dCons, dNil, dFn, dLst, dSl, oSome, oNone, asI, lenD, lenD1, Out.bind, Out.bindS, List.length_cons, List.length_nil, List.map_cons, List.map_nil, List.cons_append, List.nil_append, List.replicate_succ, List.replicate_zero, Nat.reduceAdd, Nat.reduceSub, if_true, List.getElem?_cons_zero, List.getElem?_cons_succ, List.set_cons_zero, List.set_cons_succ, if_pos fl, if_pos f4, SX.S_len, a1, e1, g3, e2, e3, e4, Int.ofNat_zero, ez, k1, k2, k3]
      rw [trim_len (by simp)]
  · have k4 : ∀ cs, sliceD (.str (SX.S t)) (some ((ri : Int) + (wi : Int) - 1)) none cs = .ok (.str (SX.S (t.drop (ri + wi - 1)))) cs := fun cs => by
      have := cutFrom t (ri + wi - 1) cs (by omega)
      rwa [show (((ri + wi - 1 : Nat)) : Int) = (ri : Int) + (wi : Int) - 1 by omega] at this
    have k6 : ∀ cs, addD (.str (SX.S (t.take ri ++ [y]))) (.str (SX.S (t.drop (ri + wi - 1)))) cs = .ok (.str (SX.S (t.take ri ++ [y] ++ t.drop (ri + wi - 1)))) cs := fun cs => catS _ _ cs (by simp; omega)
    refine ⟨t.take ri ++ [y] ++ t.drop (ri + wi - 1), c4, s4, by simp; omega, ?_, ?_⟩
    · rw [List.count_append, List.count_append]
      have : (t.drop (ri + wi - 1)).count 47 ≤ (t.drop ri).count 47 := by
        have e : ri + wi - 1 = ri + (wi - 1) := by omega
        rw [e, ← List.drop_drop]
        exact List.Sublist.count_le _ (List.drop_sublist _ _)
      have : [y].count 47 ≤ 1 := List.count_le_length
      omega
    · have ez : ∀ cs, eqC [] 20 (.int (wi : Int)) (.int 0) cs = .ok (.bl false) cs := fun cs => by
        have : ((wi : Int) == 0) = false := by simp; omega
        simp [eqC, resL, D.okE, eqD, this]
      unfold F_law_bent b_law_bent
      simp only [mkF, finS, env0, sSeq, sSet, sIf, sRet, sNil, qB, d2, dC, dVar, dCall, dCons, dNil, dFn, dLst, dSl, oSome, oNone, asI, lenD, lenD1, Out.bind, Out.bindS, List.length_cons, List.length_nil, List.map_cons, List.map_nil, List.cons_append, List.nil_append, List.replicate_succ, List.replicate_zero, Nat.reduceAdd, Nat.reduceSub, if_true, if_false, Bool.false_eq_true, List.getElem?_cons_zero, List.getElem?_cons_succ, List.set_cons_zero, List.set_cons_succ, if_pos fl, if_pos f4, SX.S_len, a1, a2, e1, g3, e2, e3, e4, ez, k1, k4, k5, k6]
      rw [trim_len (by simp)]
end K72
end

section
set_option Elab.async false
set_option linter.all false
set_option maxRecDepth 100000
namespace K72
open PySem L2 DL
/-! ### one source -/
theorem cut_to_n (a : List D) (i : Nat) (cs : List Cell) : sliceD (.lst a) none (some (i : Int)) cs = .ok (.lst (a.take i)) cs := by
  have e := HT.sIx_nat a.length a.length i
  unfold sliceD
  simp only [itemsL, cutL, HT.sIx_none, e, List.drop_zero, Nat.sub_zero]
  rcases Nat.le_total i a.length with q | q
  · rw [Nat.min_eq_left q]
  · rw [Nat.min_eq_right q, List.take_of_length_le (Nat.le_refl _), List.take_of_length_le q]
theorem cut_from_n (a : List D) (i : Nat) (x : D) (cs : List Cell) (hx : itemsL cs x = some a) (hn : (∀ z, x ≠ .str z) ∧ ∀ z, x ≠ .tup z) : sliceD x (some (i : Int)) none cs = .ok (.lst (a.drop i)) cs := by
  have e := HT.sIx_nat a.length 0 i
  have k : DL.cutL a (some (i : Int)) none = a.drop i := by
    unfold DL.cutL
    simp only [HT.sIx_none, e]
    rcases Nat.le_total i a.length with q | q
    · rw [Nat.min_eq_left q, List.take_of_length_le (by simp)]
    · rw [Nat.min_eq_right q, List.drop_of_length_le (Nat.le_refl _), List.drop_of_length_le q, List.take_nil]
  cases x with
  | str z => exact absurd rfl (hn.1 z)
  | tup z => exact absurd rfl (hn.2 z)
  | lst z => unfold sliceD; simp only [hx, k]
  | cell z => unfold sliceD; simp only [hx, k]
  | _ => cases hx
section
variable {xs : List Int} (x1 : 1 ≤ xs.length) (x2 : xs.length ≤ 6) (x3 : ∀ x ∈ xs, 1 ≤ x ∧ x ≤ 4)
include x1 x2 x3
theorem tx_loop (e0 e1 e2 e4 e5 e6 e7 e8 e9 e10 e11 e13 : Option D) : ∀ (ds : List D) (e12 : Option D) (cs : List Cell), (∀ d ∈ ds, isT 80000 d) →
    ∃ e12', forL noChk (gNm 12) lb_law_right_1 ds [e0, e1, e2, some (memD xs), e4, e5, e6, e7, e8, e9, e10, e11, e12, e13] cs = .nx [e0, e1, e2, some (memD xs), e4, e5, e6, e7, e8, e9, e10, e11, e12', e13] cs
  | [], e12, cs, _ => ⟨e12, forL_nil trivial⟩
  | d :: ds, e12, cs, h => by
    obtain ⟨t, rfl, ht⟩ := h d List.mem_cons_self
    obtain ⟨e12', ih⟩ := tx_loop e0 e1 e2 e4 e5 e6 e7 e8 e9 e10 e11 e13 ds (some (.str (SX.S t))) cs fun x hx => h x (List.mem_cons_of_mem _ hx)
    have tr := text_right x1 x2 x3 t ht cs
    refine ⟨e12', (forL_step (cs2 := cs) (env2 := [e0, e1, e2, some (memD xs), e4, e5, e6, e7, e8, e9, e10, e11, some (.str (SX.S t)), e13]) trivial rfl ?_).trans ih⟩
    show lb_law_right_1 [e0, e1, e2, some (memD xs), e4, e5, e6, e7, e8, e9, e10, e11, some (.str (SX.S t)), e13] cs = _
    simp only [lb_law_right_1, sIf, sRet, sNil, qNot, qB, dFn, dCons, dNil, dVar, dC, Out.bind, Out.bindS, List.getElem?_cons_zero, List.getElem?_cons_succ, tr, Bool.not_true, Bool.false_eq_true, if_false]
theorem bent_loop (n : Nat) (r : List Sq) (hr : r.length ≤ 20) (ho : ∀ s ∈ r, s.ok xs) (e1 e4 e6 e7 e8 e9 e10 e11 e12 e13 : Option D) : ∀ (is : List D) (cs : List Cell) (c : Cell) (e5 : Option D), n < cs.length → isS c →
    ∃ c' e5', isS c' ∧ forL noChk (gNm 5) lb_law_right_0 is [some (.cell n), e1, some (.lst (sqs r)), some (memD xs), e4, e5, e6, e7, e8, e9, e10, e11, e12, e13] (cs.set n c) = .nx [some (.cell n), e1, some (.lst (sqs r)), some (memD xs), e4, e5', e6, e7, e8, e9, e10, e11, e12, e13] (cs.set n c')
  | [], cs, c, e5, hn, hs => ⟨c, e5, hs, forL_nil trivial⟩
  | x :: is, cs, c, e5, hn, hs => by
    have lt := F_law_text_ok x2 x3 (v := .lst (sqs r)) (r := r) (cs := cs.set n c) (.inl rfl) (by omega) ho
    have pl := prog_len (czs_small x2 x3 ho) (by rw [czs_len]; omega)
    obtain ⟨u, c1, s1, u1, u2, e⟩ := bent_ok (set_get (c := c) hn) hs (progL (czs r)) pl
    rw [List.set_set] at e
    have tr := text_right x1 x2 x3 u (by omega) (cs.set n c1)
    obtain ⟨c', e5', s', ih⟩ := bent_loop n r hr ho e1 e4 e6 e7 e8 e9 e10 e11 e12 e13 is cs c1 (some x) hn s1
    refine ⟨c', e5', s', ?_⟩
    rw [forL_step trivial rfl (env2 := [some (.cell n), e1, some (.lst (sqs r)), some (memD xs), e4, some x, e6, e7, e8, e9, e10, e11, e12, e13]) (cs2 := cs.set n c1) ?_, ih]
    show lb_law_right_0 [some (.cell n), e1, some (.lst (sqs r)), some (memD xs), e4, some x, e6, e7, e8, e9, e10, e11, e12, e13] (cs.set n c) = _
    simp only [lb_law_right_0, sIf, sRet, sNil, qNot, qB, dFn, dCons, dNil, dVar, dC, Out.bind, Out.bindS, List.getElem?_cons_zero, List.getElem?_cons_succ, lt, e, tr, Bool.not_true, Bool.false_eq_true, if_false]
theorem piece_loop (ps : List D) (hp : ∀ d ∈ ps, isT 5100 d) (hl : ps.length ≤ 10) (cut : Nat) (e0 e1 e2 e5 e6 e7 e10 e11 e13 : Option D) : ∀ (ds : List D) (e9 e12 : Option D) (cs : List Cell), (∀ d ∈ ds, isT 5100 d) →
    ∃ e9' e12', forL noChk (gNm 9) lb_law_right_2 ds [e0, e1, e2, some (memD xs), some (.lst ps), e5, e6, e7, some (.int (cut : Int)), e9, e10, e11, e12, e13] cs = .nx [e0, e1, e2, some (memD xs), some (.lst ps), e5, e6, e7, some (.int (cut : Int)), e9', e10, e11, e12', e13] cs
  | [], e9, e12, cs, _ => ⟨e9, e12, forL_nil trivial⟩
  | d :: ds, e9, e12, cs, h => by
    have hd := h d List.mem_cons_self
    have hA : ∀ z ∈ ps.take cut ++ [d] ++ ps.drop cut, isT 5100 z := fun z hz => by
      rcases List.mem_append.mp hz with q | q
      · rcases List.mem_append.mp q with q | q
        · exact hp z (List.mem_of_mem_take q)
        · simp at q; rw [q]; exact hd
      · exact hp z (List.mem_of_mem_drop q)
    have lA : (ps.take cut ++ [d] ++ ps.drop cut).length ≤ 11 := by simp; omega
    obtain ⟨t1, l1, j1⟩ := join_T hA (by omega) (.lst (ps.take cut ++ [d] ++ ps.drop cut)) cs rfl
    obtain ⟨t2, l2, j2⟩ := join_T (m := 5100) (ds := [d, d]) (fun z hz => by simp at hz; rw [hz]; exact hd) (by simp) (.lst [d, d]) cs rfl
    have k1 := cut_to_n ps cut cs
    have k2 := cut_from_n ps cut (.lst ps) cs rfl ⟨fun _ q => (nomatch q), fun _ q => (nomatch q)⟩
    have c1 := cat_LL (ps.take cut) [d] (by simp; omega) cs
    have c2 := cat_LL (ps.take cut ++ [d]) (ps.drop cut) (by simp; omega) cs
    have f1 : fits 1 := fits_of (by omega)
    have f2 : fits 2 := fits_of (by omega)
    have f3 : fits 3 := fits_of (by omega)
    obtain ⟨a12, q⟩ := tx_loop x1 x2 x3 e0 e1 e2 (some (.lst ps)) e5 e6 e7 (some (.int (cut : Int))) (some d) e10 e11 e13 [.str (SX.S t1), d, .str (SX.S t2)] e12 cs (fun z hz => by
      simp only [List.mem_cons, List.not_mem_nil, or_false] at hz
      rcases hz with q | q | q
      · rw [q]; exact ⟨t1, rfl, by omega⟩
      · rw [q]; exact hd.up (by omega)
      · rw [q]; exact ⟨t2, rfl, by simp at l2; omega⟩)
    obtain ⟨e9', e12', ih⟩ := piece_loop ps hp hl cut e0 e1 e2 e5 e6 e7 e10 e11 e13 ds (some d) a12 cs fun x hx => h x (List.mem_cons_of_mem _ hx)
    refine ⟨e9', e12', (forL_step (cs2 := cs) (env2 := [e0, e1, e2, some (memD xs), some (.lst ps), e5, e6, e7, some (.int (cut : Int)), some d, e10, e11, a12, e13]) trivial rfl ?_).trans ih⟩
    show lb_law_right_2 [e0, e1, e2, some (memD xs), some (.lst ps), e5, e6, e7, some (.int (cut : Int)), some d, e10, e11, e12, e13] cs = _
    simp only [lb_law_right_2, sFor, DL.itL, dLst, dSl, dM1, d2, dC, dCons, dNil, dVar, oNone, oSome, asI, Out.bind, Out.bindS, List.length_cons, List.length_nil, Nat.reduceAdd, f1, f2, f3, if_true, List.getElem?_cons_zero, List.getElem?_cons_succ, k1, k2, c1, c2, j1, j2, q]
theorem other_loop (n g : Nat) (hng : n ≠ g) (gs : List D) (hgs : ∀ d ∈ gs, isT 5100 d) (g1 : 3 ≤ gs.length) (g2 : gs.length ≤ 50) (e1 e2 e4 e5 e6 e8 e10 e11 : Option D) : ∀ (ds : List D) (e9 e12 e13 : Option D) (cs : List Cell) (c : Cell), n < cs.length → cs[g]? = some (.lst gs) → isS c → (∀ d ∈ ds, isT 5100 d) →
    ∃ c' e9' e12' e13', isS c' ∧ forL noChk (gNm 9) lb_law_right_4 ds [some (.cell n), e1, e2, some (memD xs), e4, e5, e6, some (.cell g), e8, e9, e10, e11, e12, e13] (cs.set n c) = .nx [some (.cell n), e1, e2, some (memD xs), e4, e5, e6, some (.cell g), e8, e9', e10, e11, e12', e13'] (cs.set n c')
  | [], e9, e12, e13, cs, c, _, _, hs, _ => ⟨c, e9, e12, e13, hs, forL_nil trivial⟩
  | d :: ds, e9, e12, e13, cs, c, hn, hg, hs, h => by
    have hd := h d List.mem_cons_self
    have hi : itemsL (cs.set n c) (.cell g) = some gs := by
      simp [itemsL, List.getElem?_set_ne hng, hg]
    have k1 := cut_from_n gs 2 (.cell g) (cs.set n c) hi ⟨fun _ q => (nomatch q), fun _ q => (nomatch q)⟩
    rw [show ((2 : Nat) : Int) = 2 from rfl] at k1
    obtain ⟨o, c1, ho, s1, p1⟩ := pick_ok (set_get (c := c) hn) hs (gs.drop 2) (by simp; omega) (by simp; omega)
    rw [List.set_set] at p1
    have to := hgs o (List.mem_of_mem_drop ho)
    obtain ⟨t, et, lt⟩ := hd
    obtain ⟨u, eu, lu⟩ := to
    subst et eu
    have lf : Str.ofString "fence" = SX.S [102, 101, 110, 99, 101] := lit_fence
    obtain ⟨t3, l3, j3⟩ := join_T (m := 5100) (ds := [.str (SX.S u), .str (Str.ofString "fence"), .str (SX.S t), .str (SX.S u), .str (SX.S t)]) (fun z hz => by
      simp only [List.mem_cons, List.not_mem_nil, or_false] at hz
      rcases hz with q | q | q | q | q
      · rw [q]; exact ⟨u, rfl, lu⟩
      · rw [q, lf]; exact ⟨_, rfl, by simp⟩
      · rw [q]; exact ⟨t, rfl, lt⟩
      · rw [q]; exact ⟨u, rfl, lu⟩
      · rw [q]; exact ⟨t, rfl, lt⟩) (by simp) (.lst [.str (SX.S u), .str (Str.ofString "fence"), .str (SX.S t), .str (SX.S u), .str (SX.S t)]) (cs.set n c1) rfl
    have a1 := catS u [44, 32] (cs.set n c1) (by simp; omega)
    have a2 := catS (u ++ [44, 32]) t (cs.set n c1) (by simp; omega)
    have a3 := catS t [44, 32] (cs.set n c1) (by simp; omega)
    have a4 := catS (t ++ [44, 32]) u (cs.set n c1) (by simp; omega)
    have f5 : fits 5 := fits_of (by omega)
    have f3 : fits 3 := fits_of (by omega)
    obtain ⟨a12, q⟩ := tx_loop x1 x2 x3 (some (.cell n)) e1 e2 e4 e5 e6 (some (.cell g)) e8 (some (.str (SX.S t))) e10 e11 (some (.str (SX.S u))) [.str (SX.S (u ++ [44, 32] ++ t)), .str (SX.S (t ++ [44, 32] ++ u)), .str (SX.S t3)] e12 (cs.set n c1) (fun z hz => by
      simp only [List.mem_cons, List.not_mem_nil, or_false] at hz
      rcases hz with q | q | q
      · rw [q]; exact ⟨_, rfl, by simp; omega⟩
      · rw [q]; exact ⟨_, rfl, by simp; omega⟩
      · rw [q]; exact ⟨t3, rfl, by simp at l3; omega⟩)
    obtain ⟨c', e9', e12', e13', s', ih⟩ := other_loop n g hng gs hgs g1 g2 e1 e2 e4 e5 e6 e8 e10 e11 ds (some (.str (SX.S t))) a12 (some (.str (SX.S u))) cs c1 hn hg s1 fun x hx => h x (List.mem_cons_of_mem _ hx)
    refine ⟨c', e9', e12', e13', s', (forL_step (cs2 := cs.set n c1) (env2 := [some (.cell n), e1, e2, some (memD xs), e4, e5, e6, some (.cell g), e8, some (.str (SX.S t)), e10, e11, a12, some (.str (SX.S u))]) trivial rfl ?_).trans ih⟩
    show lb_law_right_4 [some (.cell n), e1, e2, some (memD xs), e4, e5, e6, some (.cell g), e8, some (.str (SX.S t)), e10, e11, e12, e13] (cs.set n c) = _
    have e34 : lb_law_right_3 = lb_law_right_1 := rfl
    simp only [lb_law_right_4, e34, sSeq, sSet, sFor, DL.itL, dFn, dLst, dSl, dM1, d2, dC, dCons, dNil, dVar, oNone, oSome, asI, Out.bind, Out.bindS, List.length_cons, List.length_nil, Nat.reduceAdd, f5, f3, if_true, List.getElem?_cons_zero, List.getElem?_cons_succ, List.set_cons_zero, List.set_cons_succ, k1, p1, lit_comma, a1, a2, a3, a4]
    simp only [← lit_comma, j3, List.length_cons, List.length_nil, Nat.reduceAdd, f3, if_true, Out.bind, q]
theorem big_loop (e0 e1 e2 e4 e5 e6 e7 e8 e9 e10 e12 e13 : Option D) : ∀ (ls : List (List D)) (e11 : Option D) (cs : List Cell), (∀ l ∈ ls, l.length ≤ 300 ∧ ∀ d ∈ l, isT 100 d) →
    ∃ e11', forL noChk (gNm 11) lb_law_right_5 (ls.map D.lst) [e0, e1, e2, some (memD xs), e4, e5, e6, e7, e8, e9, e10, e11, e12, e13] cs = .nx [e0, e1, e2, some (memD xs), e4, e5, e6, e7, e8, e9, e10, e11', e12, e13] cs
  | [], e11, cs, _ => ⟨e11, forL_nil trivial⟩
  | l :: ls, e11, cs, h => by
    obtain ⟨h1, h2⟩ := h l List.mem_cons_self
    obtain ⟨t, lt, j⟩ := join_T (m := 100) h2 (by omega) (.lst l) cs rfl
    have tr := text_right x1 x2 x3 t (by omega) cs
    obtain ⟨e11', ih⟩ := big_loop e0 e1 e2 e4 e5 e6 e7 e8 e9 e10 e12 e13 ls (some (.lst l)) cs fun x hx => h x (List.mem_cons_of_mem _ hx)
    refine ⟨e11', (forL_step (r := ls.map D.lst) (cs2 := cs) (env2 := [e0, e1, e2, some (memD xs), e4, e5, e6, e7, e8, e9, e10, some (.lst l), e12, e13]) trivial rfl ?_).trans ih⟩
    show lb_law_right_5 [e0, e1, e2, some (memD xs), e4, e5, e6, e7, e8, e9, e10, some (.lst l), e12, e13] cs = _
    simp only [lb_law_right_5, sIf, sRet, sNil, qNot, qB, dFn, dM1, dCons, dNil, dVar, dC, Out.bind, Out.bindS, List.getElem?_cons_zero, List.getElem?_cons_succ, j, tr, Bool.not_true, Bool.false_eq_true, if_false]
end
theorem sp2_prog {r : List Sq} (hr : r ≠ []) : sp2 (progL (czs r)) = (czs r).map cmdL := by
  have hn : czs r ≠ [] := fun z => hr (List.map_eq_nil_iff.mp z)
  unfold progL sp2
  rw [if_neg hn]
  exact SX.spl_join (by simpa using hn) (fun p hp => by
    obtain ⟨k, _, rfl⟩ := List.mem_map.mp hp
    exact cmd_free k)
noncomputable section
abbrev A1 : Den (List D) := (dCons (dC (.str "")) (dCons (dC (.str "none")) (dCons (dC (.str "fence 0")) (dCons (dC (.str "flush")) (dCons (dC (.str "flush 0 0")) (dCons (dC (.str "store 0 0")) (dCons (dC (.str "store 0 0 0 0")) (dCons (dC (.str "Fence")) (dCons (dC (.str "flush  0")) (dCons (dC (.str " fence")) dNil))))))))))
abbrev A2 : Den (List D) := (dCons (dC (.str "store 0 0 00")) (dCons (dC (.str "store 0 0 -0")) (dCons (dC (.str "store 0 0 +1")) (dCons (d2 (dC (.str "store 0 0 1")) (d2 (dC (.str "0")) (dC (.int 31)) mulSD) addD) (dCons (d2 (dC (.str "store 0 0 -1")) (d2 (dC (.str "0")) (dC (.int 31)) mulSD) addD) dNil)))))
abbrev A3 : Den (List D) := (dCons (d2 (dC (.str "store 0 0 ")) (d2 (dC (.str "9")) (dC (.int 5000)) mulSD) addD) (dCons (d2 (dC (.str "flush -")) (d2 (dC (.str "1")) (dC (.int 5000)) mulSD) addD) (dCons (d2 (d2 (dC (.str "store ")) (d2 (dC (.str "0")) (dC (.int 5000)) mulSD) addD) (dC (.str " 0 0")) addD) dNil)))
abbrev A4 : Den (List D) := (dCons (dC (.str "flush 01")) (dCons (dC (.str "fence,flush 0")) (dCons (dC (.str "copy 0 0 0 0")) (dCons (dC (.str "store 0 0 1_0")) (dCons (dC (.str "store 0 0 1.0")) (dCons (dC (.str "flush x")) (dCons (dC (.str "fence;")) dNil)))))))
abbrev A5 : Den (List D) := (dCons (d2 (dC (.str "store 0 0 -")) (d2 (dC (.str "9")) (dC (.int 31)) mulSD) addD) (dCons (d2 (dC (.str "store 0 0 ")) (d2 (dC (.str "9")) (dC (.int 31)) mulSD) addD) (dCons (dC (.str "flush -1")) (dCons (dC (.str "flush 6")) (dCons (dC (.str "store 0 4 1")) (dCons (dC (.str "store 9 9 9")) dNil))))))
end
theorem m31 (s : PySem.Str) (hs : s.cps.toList.length = 1) : cT 5050 (d2 (dC (.str s)) (dC (.int 31)) mulSD) := cT_mul s 31 hs (by omega) (by omega) (by omega)
theorem m5000 (s : PySem.Str) (hs : s.cps.toList.length = 1) : cT 5050 (d2 (dC (.str s)) (dC (.int 5000)) mulSD) := cT_mul s 5000 hs (by omega) (by omega) (by omega)
theorem a1 : cTs 5100 10 A1 := by
  repeat' first | exact cTs_nil | refine cTs_cons (cT_lit _ (by decide +kernel)) ?_
theorem a2 : cTs 5100 5 A2 := by
  repeat' first | exact cTs_nil | refine cTs_cons (cT_lit _ (by decide +kernel)) ?_ | refine cTs_cons (cT_add (a := 50) (b := 5050) (cT_lit _ (by decide +kernel)) (m31 _ (by decide +kernel)) (by decide) (by decide)) ?_
theorem a3 : cTs 5100 3 A3 := by
  refine cTs_cons (cT_add (a := 25) (b := 5050) (cT_lit _ (by decide +kernel)) (m5000 _ (by decide +kernel)) (by decide) (by decide)) ?_
  refine cTs_cons (cT_add (a := 25) (b := 5050) (cT_lit _ (by decide +kernel)) (m5000 _ (by decide +kernel)) (by decide) (by decide)) ?_
  refine cTs_cons (cT_add (a := 5075) (b := 25) (cT_add (a := 25) (b := 5050) (cT_lit _ (by decide +kernel)) (m5000 _ (by decide +kernel)) (by decide) (by decide)) (cT_lit _ (by decide +kernel)) (by decide) (by decide)) ?_
  exact cTs_nil
theorem a4 : cTs 5100 7 A4 := by
  repeat' first | exact cTs_nil | refine cTs_cons (cT_lit _ (by decide +kernel)) ?_
theorem a5 : cTs 5100 6 A5 := by
  repeat' first | exact cTs_nil | refine cTs_cons (cT_lit _ (by decide +kernel)) ?_ | refine cTs_cons (cT_add (a := 50) (b := 5050) (cT_lit _ (by decide +kernel)) (m31 _ (by decide +kernel)) (by decide) (by decide)) ?_
end K72
end

section
set_option Elab.async false
set_option linter.all false
set_option maxRecDepth 100000
namespace K72
open PySem L2 DL
theorem right_ok {n : Nat} {cs : List Cell} {c : Cell} (h : cs[n]? = some c) (hs : isS c) : ∃ c', isS c' ∧ F_law_right [.cell n] cs = .ok (.bl true) (cs.set n c') := by
  have hn := live_len h
  obtain ⟨xs, c1, s1, x1, x2, x3, e1⟩ := sizes_ok h hs
  obtain ⟨r, c2, s2, r1, r2, ro, e2⟩ := specs_ok x1 x2 x3 (set_get (c := c1) hn) s1 1 5 (by omega) (by omega) (by omega)
  rw [List.set_set] at e2
  have rn : r ≠ [] := by intro z; rw [z] at r1; simp at r1
  have fm : ∀ cs, mkO od 7 F_Memory_init [.lst (ilist xs)] cs = .ok (memD xs) cs := fun cs => F_memory xs (.lst (ilist xs)) cs (fun _ => rfl) x1 x2 x3
  have lt : ∀ cs, F_law_text [.lst (sqs r)] cs = .ok (.str (SX.S (progL (czs r)))) cs := fun cs => F_law_text_ok x2 x3 (v := .lst (sqs r)) (r := r) (cs := cs) (.inl rfl) (by omega) ro
  have pl := prog_len (czs_small x2 x3 ro) (by rw [czs_len]; omega)
  have sp : ∀ cs, splitD (SX.S (progL (czs r))) (.str (SX.S [44, 32])) cs = .ok (.lst (((czs r).map cmdL).map fun p => .str (SX.S p))) cs := fun cs => by
    rw [← sp2_prog rn]; exact split2 _ cs (by omega)
  generalize hps : ((czs r).map cmdL).map (fun p => D.str (SX.S p)) = ps at sp
  have pT : ∀ d ∈ ps, isT 5100 d := fun d hd => by
    rw [← hps] at hd
    obtain ⟨p, hp, rfl⟩ := List.mem_map.mp hd
    obtain ⟨k, hk, rfl⟩ := List.mem_map.mp hp
    exact ⟨_, rfl, by have := (cmd_len (czs_small x2 x3 ro k hk)).2; omega⟩
  have pl2 : ps.length = r.length := by rw [← hps]; simp [czs_len]
  have i30 : in62 30 := in62_of (by omega) (by omega)
  obtain ⟨c3, e5', s3, q3⟩ := bent_loop x1 x2 x3 n r (by omega) ro (some (.lst (ilist xs))) (some (.lst ps)) none none none none none none none none (rngL 0 30) cs c2 none hn s2
  obtain ⟨d1, t1, l1, k1⟩ := cTs_lst a1 (by omega)
  obtain ⟨d2', t2, l2, k2⟩ := cTs_lst a2 (by omega)
  obtain ⟨d3, t3, l3, k3⟩ := cTs_lst a3 (by omega)
  obtain ⟨d4, t4, l4, k4⟩ := cTs_lst a4 (by omega)
  obtain ⟨d5, t5, l5, k5⟩ := a5
  have f6 : fits d5.length := fits_of (by omega)
  have ap1 : ∀ cs, addD (.lst d1) (.lst d2') cs = .ok (.lst (d1 ++ d2')) cs := fun cs => cat_LL _ _ (by omega) cs
  have ap2 : ∀ cs, addD (.lst (d1 ++ d2')) (.lst d3) cs = .ok (.lst (d1 ++ d2' ++ d3)) cs := fun cs => cat_LL _ _ (by simp; omega) cs
  have ap3 : ∀ cs, addD (.lst (d1 ++ d2' ++ d3)) (.lst d4) cs = .ok (.lst (d1 ++ d2' ++ d3 ++ d4)) cs := fun cs => cat_LL _ _ (by simp; omega) cs
  have tP : ∀ d ∈ d1 ++ d2' ++ d3 ++ d4, isT 5100 d := fun d hd => by
    simp only [List.mem_append] at hd
    rcases hd with ((q | q) | q) | q
    · exact t1 d q
    · exact t2 d q
    · exact t3 d q
    · exact t4 d q
  have lP : (d1 ++ d2' ++ d3 ++ d4).length = 25 := by simp [l1, l2, l3, l4]
  generalize hP : d1 ++ d2' ++ d3 ++ d4 = P at tP lP ap3
  obtain ⟨dg, tg, kg⟩ : cT 5100 (dC (.str "store 0 -1 0")) := cT_lit _ (by decide +kernel)
  have hdg : dg = .str (Str.ofString "store 0 -1 0") := by have := kg [] []; cases this; rfl
  have tG : ∀ d ∈ d5 ++ [dg], isT 5100 d := fun d hd => by
    rcases List.mem_append.mp hd with q | q
    · exact t5 d q
    · simp at q; rw [q]; exact tg
  have lG : (d5 ++ [dg]).length = 7 := by simp [l5]
  have fL : fitsL d5.length := fitsL_of (by omega)
  have apd : ∀ c, appendD (.cell cs.length) [.str (Str.ofString "store 0 -1 0")] (cs.set n c ++ [.lst d5]) = .ok .non (cs.set n c ++ [.lst (d5 ++ [dg])]) := fun c => by
    have eg : (cs.set n c ++ [Cell.lst d5])[cs.length]? = some (.lst d5) := by
      have := end_get (cs := cs.set n c) (c := .lst d5)
      rwa [List.length_set] at this
    have es : ∀ z, (cs.set n c ++ [Cell.lst d5]).set cs.length z = cs.set n c ++ [z] := fun z => by
      have := end_set (cs := cs.set n c) (c := .lst d5) (d := z)
      rwa [List.length_set] at this
    unfold appendD
    simp only [eg, if_pos fL, es, hdg]
  have isl : ∀ c, isL (cs.set n c ++ [.lst d5]) (.cell cs.length) = true := fun c => by
    have eg : (cs.set n c ++ [Cell.lst d5])[cs.length]? = some (.lst d5) := by
      have := end_get (cs := cs.set n c) (c := .lst d5)
      rwa [List.length_set] at this
    simp [isL, itemsL, eg]
  generalize hG : d5 ++ [dg] = G at tG lG apd
  have hn2 : n < (cs ++ [Cell.lst G]).length := by simp; omega
  have sa : ∀ c, cs.set n c ++ [Cell.lst G] = (cs ++ [Cell.lst G]).set n c := fun c => (app_set hn).symm
  have hgc : (cs ++ [Cell.lst G])[cs.length]? = some (.lst G) := end_get
  have hng : n ≠ cs.length := by omega
  have lps : ∀ cs, lenD [.lst ps] cs = .ok (.int (ps.length : Int)) cs := fun cs => rfl
  obtain ⟨cu, c4, s4, u0, u1, e4⟩ := draw_ok (set_get (c := c3) hn2) s3 ((ps.length : Int) + 1) (by omega) (by
    rw [show (((ps.length : Int) + 1).natAbs) = ps.length + 1 by omega]; exact log_small (by omega))
  rw [List.set_set] at e4
  obtain ⟨cu, rfl⟩ := Int.eq_ofNat_of_zero_le u0
  have ad : ∀ i j cs, addD (.int i) (.int j) cs = .ok (.int (i + j)) cs := fun _ _ _ => rfl
  have sb : ∀ i j cs, subD (.int i) (.int j) cs = .ok (.int (i - j)) cs := fun _ _ _ => rfl
  have apg : ∀ c, addD (.lst P) (.cell cs.length) ((cs ++ [Cell.lst G]).set n c) = .ok (.lst (P ++ G)) ((cs ++ [Cell.lst G]).set n c) := fun c => cat_L P G (by omega) _ _ _ rfl (by unfold itemsL; simp only [List.getElem?_set_ne hng, hgc]) ⟨rfl, rfl, rfl⟩
  obtain ⟨e9a, e12a, q4⟩ := piece_loop x1 x2 x3 ps pT (by omega) cu (some (.cell n)) (some (.lst (ilist xs))) (some (.lst (sqs r))) e5' (some (.lst P)) (some (.cell cs.length)) none none none (P ++ G) none none ((cs ++ [Cell.lst G]).set n c4) (fun d hd => by
    rcases List.mem_append.mp hd with q | q
    · exact tP d q
    · exact tG d q)
  obtain ⟨c5, e9b, e12b, e13b, s5, q5⟩ := other_loop x1 x2 x3 n cs.length hng G tG (by omega) (by omega) (some (.lst (ilist xs))) (some (.lst (sqs r))) (some (.lst ps)) e5' (some (.lst P)) (some (.int (cu : Int))) none none P e9a e12a none (cs ++ [Cell.lst G]) c4 hn2 hgc s4 tP
  obtain ⟨v, c6, s6, v0, v1, e6⟩ := draw_ok (set_get (c := c5) hn2) s5 201 (by decide) (by decide)
  rw [List.set_set] at e6
  have ff1 : fits 1 := fits_of (by omega)
  have ff4 : fits 4 := fits_of (by omega)
  have m1 : ∀ (s : PySem.Str) (n : Int) cs, 0 ≤ n → n ≤ 1000 → mulD (.lst [.str s]) (.int n) cs = .ok (.lst (List.replicate n.toNat (.str s))) cs := fun s n cs a b => mul_L _ _ a b cs
  have m2 : ∀ (s : PySem.Str) cs, mulD (.lst [.str s]) (.int v) cs = .ok (.lst (List.replicate v.toNat (.str s))) cs := fun s cs => m1 s v cs (by omega) (by omega)
  have m3 : ∀ (s : PySem.Str) cs, mulD (.lst [.str s]) (.int (201 - v)) cs = .ok (.lst (List.replicate (201 - v).toNat (.str s))) cs := fun s cs => m1 s (201 - v) cs (by omega) (by omega)
  have m4 : ∀ (s : PySem.Str) cs, mulD (.lst [.str s]) (.int 200) cs = .ok (.lst (List.replicate 200 (.str s))) cs := fun s cs => m1 s 200 cs (by omega) (by omega)
  have m5 : ∀ (s : PySem.Str) cs, mulD (.lst [.str s]) (.int 201) cs = .ok (.lst (List.replicate 201 (.str s))) cs := fun s cs => m1 s 201 cs (by omega) (by omega)
  have cM1 : ∀ cs, addD (.lst (List.replicate v.toNat (.str (Str.ofString "fence")))) (.lst [.str (Str.ofString "flush")]) cs = .ok (.lst (List.replicate v.toNat (.str (Str.ofString "fence")) ++ [.str (Str.ofString "flush")])) cs := fun cs => cat_LL _ _ (by simp; omega) cs
  have cM2 : ∀ cs, addD (.lst (List.replicate v.toNat (.str (Str.ofString "fence")) ++ [.str (Str.ofString "flush")])) (.lst (List.replicate (201 - v).toNat (.str (Str.ofString "flush 7")))) cs = .ok (.lst (List.replicate v.toNat (.str (Str.ofString "fence")) ++ [.str (Str.ofString "flush")] ++ List.replicate (201 - v).toNat (.str (Str.ofString "flush 7")))) cs := fun cs => cat_LL _ _ (by simp; omega) cs
  have tl : ∀ s : PySem.Str, s.cps.toList.length ≤ 100 → isT 100 (.str s) := fun s h => ⟨s.cps.toList, by rw [SX.S_tl], h⟩
  have tf : isT 100 (.str (Str.ofString "fence")) := tl _ (by decide +kernel)
  have tu : isT 100 (.str (Str.ofString "flush")) := tl _ (by decide +kernel)
  have t7 : isT 100 (.str (Str.ofString "flush 7")) := tl _ (by decide +kernel)
  have tx : isT 100 (.str (Str.ofString "x")) := tl _ (by decide +kernel)
  have trp : ∀ (d : D) (n : Nat), isT 100 d → ∀ x ∈ List.replicate n d, isT 100 x := fun d n h x hx => by rw [(List.mem_replicate.mp hx).2]; exact h
  generalize hM : List.replicate v.toNat (D.str (Str.ofString "fence")) ++ [.str (Str.ofString "flush")] ++ List.replicate (201 - v).toNat (.str (Str.ofString "flush 7")) = M at cM2
  have tM : ∀ d ∈ M, isT 100 d := fun d hd => by
    rw [← hM] at hd
    rcases List.mem_append.mp hd with q | q
    · rcases List.mem_append.mp q with q | q
      · exact trp _ _ tf d q
      · simp at q; rw [q]; exact tu
    · exact trp _ _ t7 d q
  have lM : M.length = 202 := by rw [← hM]; simp; omega
  obtain ⟨e11a, q6⟩ := big_loop x1 x2 x3 (some (.cell n)) (some (.lst (ilist xs))) (some (.lst (sqs r))) (some (.lst ps)) e5' (some (.lst P)) (some (.cell cs.length)) (some (.int v)) e9b (some (.lst M)) e12b e13b [List.replicate 200 (D.str (Str.ofString "fence")), List.replicate 201 (D.str (Str.ofString "flush 7")), M, List.replicate 201 (D.str (Str.ofString "x"))] none ((cs ++ [Cell.lst G]).set n c6) (fun l hl => by
    simp only [List.mem_cons, List.not_mem_nil, or_false] at hl
    rcases hl with q | q | q | q
    · rw [q]; exact ⟨by simp, trp _ _ tf⟩
    · rw [q]; exact ⟨by simp, trp _ _ t7⟩
    · rw [q]; exact ⟨by omega, tM⟩
    · rw [q]; exact ⟨by simp, trp _ _ tx⟩)
  refine ⟨c6, s6, ?_⟩
  unfold F_law_right b_law_right
  simp only [mkF, finS, env0, sSeq, sPar, sSet, sFor, itR1, dFn, dM1, dCall, d2, dC, dCons, dNil, dVar, Out.bind, Out.bindS, List.length_cons, List.length_nil, List.map_cons, List.map_nil, List.cons_append, List.nil_append, List.replicate_succ, List.replicate_zero, Nat.reduceAdd, Nat.reduceSub, if_true, List.getElem?_cons_zero, List.getElem?_cons_succ, List.set_cons_zero, List.set_cons_succ, e1, e2, fm, lt, lit_comma, sp, i30]
  rw [show (30 : Int).toNat = 30 from rfl]
  simp only [q3]
  simp only [k1, k2, k3, k4, ap1, ap2, ap3, Out.bind, Out.bindS, List.getElem?_cons_zero, List.getElem?_cons_succ, List.set_cons_zero, List.set_cons_succ]
  simp only [dLstC, k5, f6, if_true, List.length_set, Out.bind, Out.bindS, List.getElem?_cons_zero, List.getElem?_cons_succ, List.set_cons_zero, List.set_cons_succ]
  simp only [List.getElem?_cons_zero, List.getElem?_cons_succ, if_true, Out.bind, Out.bindS, sExpr, dML, dCons, dNil, dVar, dC, isl, apd]
  simp only [sa, dCall, dFn, dCons, dNil, dVar, dC, d2, lps, ad, Out.bind, Out.bindS, List.getElem?_cons_zero, List.getElem?_cons_succ, List.set_cons_zero, List.set_cons_succ, e4]
  simp only [DL.itL, d2, dVar, apg, Out.bind, Out.bindS, List.getElem?_cons_zero, List.getElem?_cons_succ, q4, q5, e6]
  simp only [List.map_cons, List.map_nil] at q6
  simp only [sRet, D.lt, dLst, dCons, dNil, dVar, dC, d2, List.length_cons, List.length_nil, Nat.reduceAdd, ff1, ff4, if_true, sb, m2, m3, m4, m5, cM1, cM2, Out.bind, Out.bindS, List.getElem?_cons_zero, List.getElem?_cons_succ, List.set_cons_zero, List.set_cons_succ, q6]
  rw [← sa, trim_gen (by simp) fun i x q => ?_]
  by_cases hi : n = i
  · subst hi
    rw [List.getElem?_set_self hn] at q; cases q
    exact .inr (isS_lt s6 _)
  · rw [List.getElem?_set_ne hi] at q
    exact .inl q
theorem law_loop (e0 : Option D) : ∀ (zs : List Int) (cs : List Cell) (e1 e2 : Option D), ∃ cs' e1' e2', forL noChk (gNm 1) lb_law_0 (ilist zs) [e0, e1, e2] cs = .nx [e0, e1', e2'] (cs ++ cs')
  | [], cs, e1, e2 => ⟨[], e1, e2, by rw [List.append_nil]; exact forL_nil trivial⟩
  | z :: zs, cs, e1, e2 => by
    obtain ⟨c, s1, q1⟩ := F_source z cs
    obtain ⟨c2, s2, q2⟩ := right_ok (n := cs.length) (cs := cs ++ [c]) (c := c) end_get s1
    rw [end_set] at q2
    obtain ⟨cs', e1', e2', ih⟩ := law_loop e0 zs (cs ++ [c2]) (some (.int z)) (some (.cell cs.length))
    refine ⟨c2 :: cs', e1', e2', ?_⟩
    show forL noChk (gNm 1) lb_law_0 (.int z :: ilist zs) [e0, e1, e2] cs = _
    rw [forL_step trivial rfl (env2 := [e0, some (.int z), some (.cell cs.length)]) (cs2 := cs ++ [c2]) ?_, ih]
    · rw [List.append_assoc]; rfl
    · show lb_law_0 [e0, some (.int z), e2] cs = _
      simp only [lb_law_0, sSeq, sSet, sIf, sRet, sNil, qNot, qB, dFn, dCons, dNil, dVar, dC, Out.bind, Out.bindS, List.getElem?_cons_zero, List.getElem?_cons_succ, List.set_cons_zero, List.set_cons_succ, q1, q2, Bool.not_true, Bool.false_eq_true, if_false]
theorem law_true (ns : List Int) (hl : ns.length ≤ 63) (hb : ∀ z ∈ ns, Builtin.Int.intBits z ≤ 1048576) : ∃ cs, F_law [.lst (ns.map D.int)] [] = .ok (.bl true) cs := by
  obtain ⟨cs', e1', e2', e⟩ := law_loop (some (.lst (ilist ns))) ((ns ++ [0]).take 4) [] none none
  rw [List.nil_append] at e
  refine ⟨DL.trim [] cs' true, ?_⟩
  have f1 : fits 1 := fits_of (by omega)
  have fa : fits (ns.length + 1) := fits_of (by omega)
  have a1 : ∀ cs, addD (.lst (ilist ns)) (.lst [.int 0]) cs = .ok (.lst (ilist (ns ++ [0]))) cs := fun cs => by
    simp only [addD, both, asI, asS, itemsT, itemsL]
    rw [il_len, List.length_cons, List.length_nil, if_pos fa]
    unfold ilist; rw [List.map_append]; rfl
  have a2 : ∀ cs, sliceD (.lst (ilist (ns ++ [0]))) none (some 4) cs = .ok (.lst (ilist ((ns ++ [0]).take 4))) cs := fun cs => by
    have e4 := HT.sIx_nat (ilist (ns ++ [0])).length (ilist (ns ++ [0])).length 4
    rw [show ((4 : Nat) : Int) = 4 from rfl] at e4
    unfold sliceD
    simp only [itemsL, cutL, HT.sIx_none, e4, List.drop_zero, Nat.sub_zero]
    unfold ilist
    rw [List.map_take, List.length_map]
    rcases Nat.le_total 4 (ns ++ [0]).length with q | q
    · rw [Nat.min_eq_left q]
    · rw [Nat.min_eq_right q, List.take_of_length_le (by simp), List.take_of_length_le (by simpa using q)]
  show F_law [.lst (ilist ns)] [] = _
  unfold F_law b_law
  simp only [mkF, finS, env0, List.length_cons, List.length_nil, List.map_cons, List.map_nil, List.cons_append, List.nil_append, List.replicate_succ, List.replicate_zero, Nat.reduceAdd, Nat.reduceSub, if_true, sSeq, sFor, sRet, DL.itL, dSl, oSome, oNone, asI, dLst, dCons, dNil, dVar, dC, d2, Out.bind, Out.bindS, List.getElem?_cons_zero, if_pos f1, a1, a2, e]
  rfl
end K72
end

section
set_option Elab.async false
set_option linter.all false
set_option maxRecDepth 100000
set_option maxHeartbeats 0
namespace K72
open PySem PySem.Spec L2 DL
def top (i : Nat) : Stmt := PySem.Challenge.pw_lateststore_k72_program_texts_refused.main.body.getD i (.Pass ⟨0, 0, 0, 0⟩)
abbrev st_law_source : Stmt := (top 29)
def dd_law_source : He.DefD := ⟨("_law_source", none), "_law_source", "_law_source", defArgs st_law_source, defBody st_law_source, defScope st_law_source, [], []⟩
abbrev st_law_draw : Stmt := (top 30)
def dd_law_draw : He.DefD := ⟨("_law_draw", none), "_law_draw", "_law_draw", defArgs st_law_draw, defBody st_law_draw, defScope st_law_draw, [], []⟩
abbrev st_law_sizes : Stmt := (top 32)
def dd_law_sizes : He.DefD := ⟨("_law_sizes", none), "_law_sizes", "_law_sizes", defArgs st_law_sizes, defBody st_law_sizes, defScope st_law_sizes, [], []⟩
abbrev st_law_pick : Stmt := (top 31)
def dd_law_pick : He.DefD := ⟨("_law_pick", none), "_law_pick", "_law_pick", defArgs st_law_pick, defBody st_law_pick, defScope st_law_pick, [], []⟩
abbrev st_law_number : Stmt := (top 33)
def dd_law_number : He.DefD := ⟨("_law_number", none), "_law_number", "_law_number", defArgs st_law_number, defBody st_law_number, defScope st_law_number, [], []⟩
abbrev st_law_specs : Stmt := (top 34)
def dd_law_specs : He.DefD := ⟨("_law_specs", none), "_law_specs", "_law_specs", defArgs st_law_specs, defBody st_law_specs, defScope st_law_specs, [], []⟩
abbrev st_Memory_init : Stmt := ((C8.clsBody (top 14)).getD 0 (.Pass ⟨0, 0, 0, 0⟩))
def dd_Memory_init : He.DefD := ⟨("Memory", some "__init__"), "__init__", "Memory.__init__", defArgs st_Memory_init, defBody st_Memory_init, defScope st_Memory_init, [], []⟩
abbrev st_law_text : Stmt := (top 36)
def dd_law_text : He.DefD := ⟨("_law_text", none), "_law_text", "_law_text", defArgs st_law_text, defBody st_law_text, defScope st_law_text, [], []⟩
abbrev st_law_outcome : Stmt := (top 37)
def dd_law_outcome : He.DefD := ⟨("_law_outcome", none), "_law_outcome", "_law_outcome", defArgs st_law_outcome, defBody st_law_outcome, defScope st_law_outcome, [], []⟩
abbrev st_Memory_check_line : Stmt := ((C8.clsBody (top 14)).getD 3 (.Pass ⟨0, 0, 0, 0⟩))
def dd_Memory_check_line : He.DefD := ⟨("Memory", some "check_line"), "check_line", "Memory.check_line", defArgs st_Memory_check_line, defBody st_Memory_check_line, defScope st_Memory_check_line, [], []⟩
abbrev st_Memory_check_word : Stmt := ((C8.clsBody (top 14)).getD 4 (.Pass ⟨0, 0, 0, 0⟩))
def dd_Memory_check_word : He.DefD := ⟨("Memory", some "check_word"), "check_word", "Memory.check_word", defArgs st_Memory_check_word, defBody st_Memory_check_word, defScope st_Memory_check_word, [], []⟩
abbrev st_Store_check : Stmt := ((C8.clsBody (top 16)).getD 3 (.Pass ⟨0, 0, 0, 0⟩))
def dd_Store_check : He.DefD := ⟨("Store", some "check"), "check", "Store.check", defArgs st_Store_check, defBody st_Store_check, defScope st_Store_check, [], []⟩
abbrev st_Flush_check : Stmt := ((C8.clsBody (top 17)).getD 3 (.Pass ⟨0, 0, 0, 0⟩))
def dd_Flush_check : He.DefD := ⟨("Flush", some "check"), "check", "Flush.check", defArgs st_Flush_check, defBody st_Flush_check, defScope st_Flush_check, [], []⟩
abbrev st_Command_check : Stmt := ((C8.clsBody (top 15)).getD 0 (.Pass ⟨0, 0, 0, 0⟩))
def dd_Command_check : He.DefD := ⟨("Command", some "check"), "check", "Command.check", defArgs st_Command_check, defBody st_Command_check, defScope st_Command_check, [], []⟩
abbrev st_check_commands : Stmt := (top 19)
def dd_check_commands : He.DefD := ⟨("check_commands", none), "check_commands", "check_commands", defArgs st_check_commands, defBody st_check_commands, defScope st_check_commands, [], []⟩
abbrev st_Program_init : Stmt := ((C8.clsBody (top 20)).getD 0 (.Pass ⟨0, 0, 0, 0⟩))
def dd_Program_init : He.DefD := ⟨("Program", some "__init__"), "__init__", "Program.__init__", defArgs st_Program_init, defBody st_Program_init, defScope st_Program_init, [], []⟩
abbrev st_read_number : Stmt := (top 25)
def dd_read_number : He.DefD := ⟨("read_number", none), "read_number", "read_number", defArgs st_read_number, defBody st_read_number, defScope st_read_number, [], []⟩
abbrev st_Store_init : Stmt := ((C8.clsBody (top 16)).getD 0 (.Pass ⟨0, 0, 0, 0⟩))
def dd_Store_init : He.DefD := ⟨("Store", some "__init__"), "__init__", "Store.__init__", defArgs st_Store_init, defBody st_Store_init, defScope st_Store_init, [], []⟩
abbrev st_Flush_init : Stmt := ((C8.clsBody (top 17)).getD 0 (.Pass ⟨0, 0, 0, 0⟩))
def dd_Flush_init : He.DefD := ⟨("Flush", some "__init__"), "__init__", "Flush.__init__", defArgs st_Flush_init, defBody st_Flush_init, defScope st_Flush_init, [], []⟩
abbrev st_read_command : Stmt := (top 26)
def dd_read_command : He.DefD := ⟨("read_command", none), "read_command", "read_command", defArgs st_read_command, defBody st_read_command, defScope st_read_command, [], []⟩
abbrev st_read_program : Stmt := (top 27)
def dd_read_program : He.DefD := ⟨("read_program", none), "read_program", "read_program", defArgs st_read_program, defBody st_read_program, defScope st_read_program, [], []⟩
abbrev st_law_is_number : Stmt := (top 38)
def dd_law_is_number : He.DefD := ⟨("_law_is_number", none), "_law_is_number", "_law_is_number", defArgs st_law_is_number, defBody st_law_is_number, defScope st_law_is_number, [], []⟩
abbrev st_law_read : Stmt := (top 41)
def dd_law_read : He.DefD := ⟨("_law_read", none), "_law_read", "_law_read", defArgs st_law_read, defBody st_law_read, defScope st_law_read, [], []⟩
abbrev st_Memory_kind : Stmt := ((C8.clsBody (top 14)).getD 1 (.Pass ⟨0, 0, 0, 0⟩))
def dd_Memory_kind : He.DefD := ⟨("Memory", some "kind"), "kind", "Memory.kind", defArgs st_Memory_kind, defBody st_Memory_kind, defScope st_Memory_kind, [], []⟩
abbrev st_Store_kind : Stmt := ((C8.clsBody (top 16)).getD 1 (.Pass ⟨0, 0, 0, 0⟩))
def dd_Store_kind : He.DefD := ⟨("Store", some "kind"), "kind", "Store.kind", defArgs st_Store_kind, defBody st_Store_kind, defScope st_Store_kind, [], []⟩
abbrev st_Flush_kind : Stmt := ((C8.clsBody (top 17)).getD 1 (.Pass ⟨0, 0, 0, 0⟩))
def dd_Flush_kind : He.DefD := ⟨("Flush", some "kind"), "kind", "Flush.kind", defArgs st_Flush_kind, defBody st_Flush_kind, defScope st_Flush_kind, [], []⟩
abbrev st_Fence_kind : Stmt := ((C8.clsBody (top 18)).getD 0 (.Pass ⟨0, 0, 0, 0⟩))
def dd_Fence_kind : He.DefD := ⟨("Fence", some "kind"), "kind", "Fence.kind", defArgs st_Fence_kind, defBody st_Fence_kind, defScope st_Fence_kind, [], []⟩
abbrev st_Program_kind : Stmt := ((C8.clsBody (top 20)).getD 1 (.Pass ⟨0, 0, 0, 0⟩))
def dd_Program_kind : He.DefD := ⟨("Program", some "kind"), "kind", "Program.kind", defArgs st_Program_kind, defBody st_Program_kind, defScope st_Program_kind, [], []⟩
abbrev st_Memory_facts : Stmt := ((C8.clsBody (top 14)).getD 2 (.Pass ⟨0, 0, 0, 0⟩))
def dd_Memory_facts : He.DefD := ⟨("Memory", some "facts"), "facts", "Memory.facts", defArgs st_Memory_facts, defBody st_Memory_facts, defScope st_Memory_facts, [], []⟩
abbrev st_Store_facts : Stmt := ((C8.clsBody (top 16)).getD 2 (.Pass ⟨0, 0, 0, 0⟩))
def dd_Store_facts : He.DefD := ⟨("Store", some "facts"), "facts", "Store.facts", defArgs st_Store_facts, defBody st_Store_facts, defScope st_Store_facts, [], []⟩
abbrev st_Flush_facts : Stmt := ((C8.clsBody (top 17)).getD 2 (.Pass ⟨0, 0, 0, 0⟩))
def dd_Flush_facts : He.DefD := ⟨("Flush", some "facts"), "facts", "Flush.facts", defArgs st_Flush_facts, defBody st_Flush_facts, defScope st_Flush_facts, [], []⟩
abbrev st_Thing_facts : Stmt := ((C8.clsBody (top 13)).getD 0 (.Pass ⟨0, 0, 0, 0⟩))
def dd_Thing_facts : He.DefD := ⟨("Thing", some "facts"), "facts", "Thing.facts", defArgs st_Thing_facts, defBody st_Thing_facts, defScope st_Thing_facts, [], []⟩
abbrev st_Program_facts : Stmt := ((C8.clsBody (top 20)).getD 2 (.Pass ⟨0, 0, 0, 0⟩))
def dd_Program_facts : He.DefD := ⟨("Program", some "facts"), "facts", "Program.facts", defArgs st_Program_facts, defBody st_Program_facts, defScope st_Program_facts, [], []⟩
abbrev st_Thing_eq : Stmt := ((C8.clsBody (top 13)).getD 2 (.Pass ⟨0, 0, 0, 0⟩))
def dd_Thing_eq : He.DefD := ⟨("Thing", some "__eq__"), "__eq__", "Thing.__eq__", defArgs st_Thing_eq, defBody st_Thing_eq, defScope st_Thing_eq, [], []⟩
abbrev st_law_shown : Stmt := (top 42)
def dd_law_shown : He.DefD := ⟨("_law_shown", none), "_law_shown", "_law_shown", defArgs st_law_shown, defBody st_law_shown, defScope st_law_shown, [], []⟩
abbrev st_law_text_right : Stmt := (top 43)
def dd_law_text_right : He.DefD := ⟨("_law_text_right", none), "_law_text_right", "_law_text_right", defArgs st_law_text_right, defBody st_law_text_right, defScope st_law_text_right, [], []⟩
abbrev st_law_signs : Stmt := (top 39)
def dd_law_signs : He.DefD := ⟨("_law_signs", none), "_law_signs", "_law_signs", defArgs st_law_signs, defBody st_law_signs, defScope st_law_signs, [], []⟩
abbrev st_law_bent : Stmt := (top 40)
def dd_law_bent : He.DefD := ⟨("_law_bent", none), "_law_bent", "_law_bent", defArgs st_law_bent, defBody st_law_bent, defScope st_law_bent, [], []⟩
abbrev st_law_right : Stmt := (top 44)
def dd_law_right : He.DefD := ⟨("_law_right", none), "_law_right", "_law_right", defArgs st_law_right, defBody st_law_right, defScope st_law_right, [], []⟩
abbrev st_law : Stmt := (top 45)
def dd_law : He.DefD := ⟨("law", none), "law", "law", defArgs st_law, defBody st_law, defScope st_law, [], []⟩
abbrev st_BadCount_init : Stmt := ((C8.clsBody (top 3)).getD 0 (.Pass ⟨0, 0, 0, 0⟩))
def dd_BadCount_init : He.DefD := ⟨("BadCount", some "__init__"), "__init__", "BadCount.__init__", defArgs st_BadCount_init, defBody st_BadCount_init, defScope st_BadCount_init, [], []⟩
abbrev st_NoLine_init : Stmt := ((C8.clsBody (top 4)).getD 0 (.Pass ⟨0, 0, 0, 0⟩))
def dd_NoLine_init : He.DefD := ⟨("NoLine", some "__init__"), "__init__", "NoLine.__init__", defArgs st_NoLine_init, defBody st_NoLine_init, defScope st_NoLine_init, [], []⟩
abbrev st_NoWord_init : Stmt := ((C8.clsBody (top 5)).getD 0 (.Pass ⟨0, 0, 0, 0⟩))
def dd_NoWord_init : He.DefD := ⟨("NoWord", some "__init__"), "__init__", "NoWord.__init__", defArgs st_NoWord_init, defBody st_NoWord_init, defScope st_NoWord_init, [], []⟩
abbrev st_BadText_init : Stmt := ((C8.clsBody (top 7)).getD 0 (.Pass ⟨0, 0, 0, 0⟩))
def dd_BadText_init : He.DefD := ⟨("BadText", some "__init__"), "__init__", "BadText.__init__", defArgs st_BadText_init, defBody st_BadText_init, defScope st_BadText_init, [], []⟩
def TF : List He.Defn := [("_law_text_right", none)]
def fn0 : List He.DefD := [dd_law_source, dd_law_draw, dd_law_sizes, dd_law_pick, dd_law_number, dd_law_specs, dd_Memory_init, dd_law_text, dd_law_outcome, dd_Memory_check_line, dd_Memory_check_word, dd_Store_check, dd_Flush_check, dd_Command_check, dd_check_commands, dd_Program_init, dd_read_number, dd_Store_init, dd_Flush_init, dd_read_command]
def fn1 : List He.DefD := [dd_read_program, dd_law_is_number, dd_law_read, dd_Memory_kind, dd_Store_kind, dd_Flush_kind, dd_Fence_kind, dd_Program_kind, dd_Memory_facts, dd_Store_facts, dd_Flush_facts, dd_Thing_facts, dd_Program_facts, dd_Thing_eq, dd_law_shown, dd_law_text_right, dd_law_signs, dd_law_bent, dd_law_right, dd_law]
def fn2 : List He.DefD := [dd_BadCount_init, dd_NoLine_init, dd_NoWord_init, dd_BadText_init]
def fn : List He.DefD := fn0 ++ fn1 ++ fn2
def fa0 : List He.Fa := [.free "abs", .free "int", .glo "_law_source", .free "range", .glo "_law_draw", .glo "_law_sizes", .free "len", .glo "_law_pick", .glo "_law_number", .glo "_law_specs", .glo "Memory", .free "tuple", .int "MOST_LINES" 6, .glo "BadCount", .int "MOST_WORDS" 4, .free "str", .glo "_law_text", .exm "BadText" "StoreError" true, .exm "NoWord" "StoreError" true, .exm "NoLine" "StoreError" true]
def fa1 : List He.Fa := [.exm "BadCount" "StoreError" true, .glo "StoreError", .exm "BadText" "NoWord" false, .exm "NoWord" "NoWord" true, .exm "NoLine" "NoWord" false, .exm "BadCount" "NoWord" false, .noat "NoWord" "word", .glo "NoWord", .exm "BadText" "NoLine" false, .exm "NoWord" "NoLine" false, .exm "NoLine" "NoLine" true, .exm "BadCount" "NoLine" false, .noat "NoLine" "line", .glo "NoLine", .exm "BadText" "BadCount" false, .exm "NoWord" "BadCount" false, .exm "NoLine" "BadCount" false, .exm "BadCount" "BadCount" true, .noat "BadCount" "count", .noat "BadCount" "what"]
def fa2 : List He.Fa := [.exm "BadText" "BadText" true, .exm "NoWord" "BadText" false, .exm "NoLine" "BadText" false, .exm "BadCount" "BadText" false, .noat "BadText" "place", .glo "BadText", .str "NONE" "none", .glo "Program", .int "MOST_COMMANDS" 200, .glo "check_commands", .free "enumerate", .str "BETWEEN" ", ", .int "MOST_FIGURES" 31, .free "all", .str "FIGURES" "0123456789", .glo "read_number", .glo "Store", .glo "Flush", .glo "Fence", .glo "read_command"]
def fa3 : List He.Fa := [.glo "read_program", .glo "_law_outcome", .glo "_law_is_number", .glo "_law_read", .free "isinstance", .glo "Thing", .glo "_law_shown", .glo "_law_signs", .glo "_law_bent", .glo "_law_text_right", .glo "_law_right", .mkr "Memory", .cls "Memory", .meth "Memory" "check_line", .meth "Memory" "check_word", .cls "Store", .meth "Store" "check", .cls "Flush", .meth "Flush" "check", .cls "Fence"]
def fa4 : List He.Fa := [.meth "Fence" "check", .mkr "Program", .mkr "Store", .mkr "Flush", .meth "Memory" "kind", .meth "Store" "kind", .meth "Flush" "kind", .meth "Fence" "kind", .cls "Program", .meth "Program" "kind", .meth "Memory" "facts", .meth "Store" "facts", .meth "Flush" "facts", .meth "Fence" "facts", .meth "Program" "facts", .noat "Memory" "sizes", .noat "Store" "number", .noat "Store" "word", .noat "Store" "line", .noat "Flush" "line"]
def fa5 : List He.Fa := [.noat "Program" "commands", .noat "Program" "memory", .glo "law"]
def fa : List He.Fa := fa0 ++ fa1 ++ fa2 ++ fa3 ++ fa4 ++ fa5
def fb0 : List Fb := [.xcls "NoWord", .xcls "NoLine", .xcls "BadCount", .xcls "BadText", .mk0 "Fence", .meq "Fence" "check" "Command", .meq "Fence" "facts" "Thing", .ownq ["Memory", "Store", "Flush", "Fence", "Program"] ("Thing", some "__eq__"), .kitN "Fence", .isx "Memory", .kit "Memory" "Fence" false, .isx "Store", .kit "Store" "Fence" false, .isx "Flush", .kit "Flush" "Fence" false, .isx "Fence", .kit "Fence" "Fence" true, .isx "Program", .kit "Program" "Fence" false, .kitN "Flush"]
def fb1 : List Fb := [.kit "Memory" "Flush" false, .kit "Store" "Flush" false, .kit "Flush" "Flush" true, .kit "Fence" "Flush" false, .kit "Program" "Flush" false, .kitN "Store", .kit "Memory" "Store" false, .kit "Store" "Store" true, .kit "Flush" "Store" false, .kit "Fence" "Store" false, .kit "Program" "Store" false, .kitN "Thing", .kit "Memory" "Thing" true, .kit "Store" "Thing" true, .kit "Flush" "Thing" true, .kit "Fence" "Thing" true, .kit "Program" "Thing" true, .ndt TF]
def fb : List Fb := fb0 ++ fb1
def names0 : List PySem.Str := ["_wall", "StoreError", "BadCount", "NoLine", "NoWord", "OtherMemory", "BadText", "FIGURES", "MOST_LINES", "MOST_WORDS", "MOST_COMMANDS", "Thing", "Memory", "Command", "Store", "Flush", "Fence", "check_commands", "Program", "NONE"]
def names1 : List PySem.Str := ["BETWEEN", "MOST_FIGURES", "read_number", "read_command", "read_program", "_law_source", "_law_draw", "_law_pick", "_law_sizes", "_law_number", "_law_specs", "_law_command", "_law_text", "_law_outcome", "_law_is_number", "_law_signs", "_law_bent", "_law_read", "_law_shown", "_law_text_right"]
def names2 : List PySem.Str := ["_law_right"]
def names : List PySem.Str := names0 ++ names1 ++ names2
def TB (K : PySem.W.Frag) : List (Addr × PySem.Str) := [((He.cT K ("_law_text_right", none)).2, ("_law_text_right" ++ ".<locals>.") ++ "<lambda>")]
abbrev TBZ (K : PySem.W.Frag) (mg : PySem.Str → Option Value) (base : Heap) : Prop := ∀ p ∈ TF, LamX.TabB base mg (He.cT K p).1 (He.cT K p).2
abbrev TT (K : PySem.W.Frag) (xi : Option (Addr × Value × Option Addr)) : DL.Tab := ⟨nm, fun c => He.ga K (cn c), od, xi, TB K⟩
theorem nm_inj : ∀ i j, nm i = nm j → i = j := nmOf_inj (by decide +kernel)
section
variable {P : Program} {w : World} {K : PySem.W.Frag} {mg : PySem.Str → Option Value} {base : Heap}
theorem tabOk (z : Kn fa fn fb K mg) (xi) : TabOk K (TT K xi) := by
  intro c k hk
  have hk : k ∈ od c := hk
  unfold od at hk
  split at hk
  · exact ⟨z.cls 72, (show ∀ k ∈ od 7, NoAttr K (He.ga K "Memory") (nm k) from List.forall_mem_cons.mpr ⟨z.noat 95, fun _ h => nomatch h⟩) k hk⟩
  · exact ⟨z.cls 75, (show ∀ k ∈ od 9, NoAttr K (He.ga K "Store") (nm k) from List.forall_mem_cons.mpr ⟨z.noat 98, List.forall_mem_cons.mpr ⟨z.noat 97, List.forall_mem_cons.mpr ⟨z.noat 96, fun _ h => nomatch h⟩⟩⟩) k hk⟩
  · exact ⟨z.cls 77, (show ∀ k ∈ od 10, NoAttr K (He.ga K "Flush") (nm k) from List.forall_mem_cons.mpr ⟨z.noat 99, fun _ h => nomatch h⟩) k hk⟩
  · exact ⟨z.cls 88, (show ∀ k ∈ od 12, NoAttr K (He.ga K "Program") (nm k) from List.forall_mem_cons.mpr ⟨z.noat 101, List.forall_mem_cons.mpr ⟨z.noat 100, fun _ h => nomatch h⟩⟩) k hk⟩
  · exact absurd hk (by simp)

theorem ist_Fence (z : Kn fa fn fb K mg) (xi) : IsT K (TT K xi) (He.ga K "Fence") isi_Fence := by
  refine ⟨?_, z.kitN 8⟩
  intro p hp
  simp only [isi_Fence, List.mem_cons, List.not_mem_nil, or_false] at hp
  rcases hp with rfl | rfl | rfl | rfl | rfl
  · exact ⟨z.isx 9, z.kit 10⟩
  · exact ⟨z.isx 11, z.kit 12⟩
  · exact ⟨z.isx 13, z.kit 14⟩
  · exact ⟨z.isx 15, z.kit 16⟩
  · exact ⟨z.isx 17, z.kit 18⟩

theorem ist_Flush (z : Kn fa fn fb K mg) (xi) : IsT K (TT K xi) (He.ga K "Flush") isi_Flush := by
  refine ⟨?_, z.kitN 19⟩
  intro p hp
  simp only [isi_Flush, List.mem_cons, List.not_mem_nil, or_false] at hp
  rcases hp with rfl | rfl | rfl | rfl | rfl
  · exact ⟨z.isx 9, z.kit 20⟩
  · exact ⟨z.isx 11, z.kit 21⟩
  · exact ⟨z.isx 13, z.kit 22⟩
  · exact ⟨z.isx 15, z.kit 23⟩
  · exact ⟨z.isx 17, z.kit 24⟩

theorem ist_Store (z : Kn fa fn fb K mg) (xi) : IsT K (TT K xi) (He.ga K "Store") isi_Store := by
  refine ⟨?_, z.kitN 25⟩
  intro p hp
  simp only [isi_Store, List.mem_cons, List.not_mem_nil, or_false] at hp
  rcases hp with rfl | rfl | rfl | rfl | rfl
  · exact ⟨z.isx 9, z.kit 26⟩
  · exact ⟨z.isx 11, z.kit 27⟩
  · exact ⟨z.isx 13, z.kit 28⟩
  · exact ⟨z.isx 15, z.kit 29⟩
  · exact ⟨z.isx 17, z.kit 30⟩

theorem ist_Thing (z : Kn fa fn fb K mg) (xi) : IsT K (TT K xi) (He.ga K "Thing") isi_Thing := by
  refine ⟨?_, z.kitN 31⟩
  intro p hp
  simp only [isi_Thing, List.mem_cons, List.not_mem_nil, or_false] at hp
  rcases hp with rfl | rfl | rfl | rfl | rfl
  · exact ⟨z.isx 9, z.kit 32⟩
  · exact ⟨z.isx 11, z.kit 33⟩
  · exact ⟨z.isx 13, z.kit 34⟩
  · exact ⟨z.isx 15, z.kit 35⟩
  · exact ⟨z.isx 17, z.kit 36⟩

theorem tbnd (z : Kn fa fn fb K mg) (xi) : ((TT K xi).tb.map (·.1)).Nodup := z.ndt (l := TF) 37
theorem sc_BadCount_init : FnScope ["self", "what", "count"] ["self", "what", "count"] (defScope st_BadCount_init) := C8.fnScope_by (by decide +kernel)
theorem ex_BadCount (z : Kn fa fn fb K mg) (xi) : EX P w K mg base (TT K xi) 1 [0, 1] := by
  obtain ⟨h1, h2, h3, h4⟩ := z.xcls 2
  obtain ⟨fd, F⟩ := z.fd 40 (d := dd_BadCount_init) rfl rfl rfl
  exact ⟨h1, (show ∀ f ∈ (["what", "count"] : List PySem.Str), PySem.W.findIn K (.ref (He.ga K "BadCount")) f = some none from List.forall_mem_cons.mpr ⟨z.noa 39, List.forall_mem_cons.mpr ⟨z.noa 38, fun _ h => nomatch h⟩⟩), _, fd, _, h3, h4, init2 F sc_BadCount_init (.inl rfl) (.inl rfl) (by decide) (by decide) (.inl rfl) (by decide) (by decide), F.bindsN (fun _ _ _ _ _ _ us hl => match us, hl with | [_, _, _], _ => rfl)⟩
theorem sc_NoLine_init : FnScope ["self", "line"] ["self", "line"] (defScope st_NoLine_init) := C8.fnScope_by (by decide +kernel)
theorem ex_NoLine (z : Kn fa fn fb K mg) (xi) : EX P w K mg base (TT K xi) 2 [2] := by
  obtain ⟨h1, h2, h3, h4⟩ := z.xcls 1
  obtain ⟨fd, F⟩ := z.fd 41 (d := dd_NoLine_init) rfl rfl rfl
  exact ⟨h1, (show ∀ f ∈ (["line"] : List PySem.Str), PySem.W.findIn K (.ref (He.ga K "NoLine")) f = some none from List.forall_mem_cons.mpr ⟨z.noa 32, fun _ h => nomatch h⟩), _, fd, _, h3, h4, init1 F sc_NoLine_init (.inl rfl) (.inl rfl) (by decide) (by decide), F.bindsN (fun _ _ _ _ _ _ us hl => match us, hl with | [_, _], _ => rfl)⟩
theorem sc_NoWord_init : FnScope ["self", "word"] ["self", "word"] (defScope st_NoWord_init) := C8.fnScope_by (by decide +kernel)
theorem ex_NoWord (z : Kn fa fn fb K mg) (xi) : EX P w K mg base (TT K xi) 3 [3] := by
  obtain ⟨h1, h2, h3, h4⟩ := z.xcls 0
  obtain ⟨fd, F⟩ := z.fd 42 (d := dd_NoWord_init) rfl rfl rfl
  exact ⟨h1, (show ∀ f ∈ (["word"] : List PySem.Str), PySem.W.findIn K (.ref (He.ga K "NoWord")) f = some none from List.forall_mem_cons.mpr ⟨z.noa 26, fun _ h => nomatch h⟩), _, fd, _, h3, h4, init1 F sc_NoWord_init (.inl rfl) (.inl rfl) (by decide) (by decide), F.bindsN (fun _ _ _ _ _ _ us hl => match us, hl with | [_, _], _ => rfl)⟩
theorem sc_BadText_init : FnScope ["self", "place"] ["self", "place"] (defScope st_BadText_init) := C8.fnScope_by (by decide +kernel)
theorem ex_BadText (z : Kn fa fn fb K mg) (xi) : EX P w K mg base (TT K xi) 32 [19] := by
  obtain ⟨h1, h2, h3, h4⟩ := z.xcls 3
  obtain ⟨fd, F⟩ := z.fd 43 (d := dd_BadText_init) rfl rfl rfl
  exact ⟨h1, (show ∀ f ∈ (["place"] : List PySem.Str), PySem.W.findIn K (.ref (He.ga K "BadText")) f = some none from List.forall_mem_cons.mpr ⟨z.noa 44, fun _ h => nomatch h⟩), _, fd, _, h3, h4, init1 F sc_BadText_init (.inl rfl) (.inl rfl) (by decide) (by decide), F.bindsN (fun _ _ _ _ _ _ us hl => match us, hl with | [_, _], _ => rfl)⟩
theorem sc_law_source : FnScope ["_law_cell"] ["_law_cell"] (defScope st_law_source) := C8.fnScope_by (by decide +kernel)
theorem df_law_source (z : Kn fa fn fb K mg) (xi) (tbz : TBZ K mg base) : DF P w K mg base (TT K xi) 1 (He.fAd K ("_law_source", none)) 1 F_law_source := by
  refine df_mk (z.fd 0 (d := dd_law_source) rfl rfl rfl) sc_law_source rfl rfl (fun _ _ _ _ _ _ us hl => match us, hl with | [_], _ => rfl) fun cdv A outer s H E hr => ?_
  exact (dss_one (ds_ret (de_lstC (da_cons (de_abs (z.free 0) (da_cons (de_var (pv 0)) da_nil)) (da_cons (de_mod (de_int1 (z.free 1) (da_cons (de_var (pv 0)) da_nil)) de_int) (da_cons de_int da_nil))))))
theorem sc_law_draw : FnScope ["_law_source_here", "_law_many", "_law_number_here", "_law_found"] ["_law_source_here", "_law_many"] (defScope st_law_draw) := C8.fnScope_by (by decide +kernel)
theorem df_law_draw (z : Kn fa fn fb K mg) (xi) (tbz : TBZ K mg base) : DF P w K mg base (TT K xi) 1 (He.fAd K ("_law_draw", none)) 2 F_law_draw := by
  refine df_mk (z.fd 1 (d := dd_law_draw) rfl rfl rfl) sc_law_draw rfl rfl (fun _ _ _ _ _ _ us hl => match us, hl with | [_, _], _ => rfl) fun cdv A outer s H E hr => ?_
  exact (dss_cons (ds_if (DC.tt (dc_ge (de_ix (de_var (pv 0)) de_int) (de_pow de_int de_int)))
  (dss_cons (ds_set sc_law_draw.nd (de_mod (de_int1 (z.free 1) (da_cons (de_ix (de_var (pv 0)) de_int) da_nil)) (de_var (pv 1))))
  (dss_cons (ds_asg (de_fdiv (de_ix (de_var (pv 0)) de_int) (de_var (pv 1))) (dg_ix rfl (de_var (pv 0)) de_int))
  (dss_one (ds_ret (de_var (pv 3))))))
  dss_nil)
  (dss_cons (ds_asg (de_add (de_ix (de_var (pv 0)) de_int) de_int) (dg_ix rfl (de_var (pv 0)) de_int))
  (dss_cons (ds_set sc_law_draw.nd (de_mod (de_int1 (z.free 1) (da_cons (de_mul (de_add (de_add (de_ix (de_var (pv 0)) de_int) (de_mul de_int (de_ix (de_var (pv 0)) de_int))) de_int) de_int) da_nil)) de_int))
  (dss_cons (ds_set sc_law_draw.nd (de_mod (de_int1 (z.free 1) (da_cons (de_mul (de_var (pv 2)) (de_add (de_fdiv (de_var (pv 2)) de_int) de_int)) da_nil)) de_int))
  (dss_one (ds_ret (de_mod (de_int1 (z.free 1) (da_cons (de_mod (de_int1 (z.free 1) (da_cons (de_add (de_fdiv (de_var (pv 2)) de_int) (de_mul (de_mod (de_int1 (z.free 1) (da_cons (de_var (pv 2)) da_nil)) de_int) de_int)) da_nil)) de_int) da_nil)) (de_var (pv 1)))))))))
theorem sc_law_sizes : FnScope ["_law_source_here", "_law_most", "_law_k"] ["_law_source_here", "_law_most"] (defScope st_law_sizes) := C8.fnScope_by (by decide +kernel)
theorem df_law_sizes (z : Kn fa fn fb K mg) (xi) (tbz : TBZ K mg base) : DF P w K mg base (TT K xi) 2 (He.fAd K ("_law_sizes", none)) 2 F_law_sizes := by
  refine df_mk (z.fd 2 (d := dd_law_sizes) rfl rfl rfl) sc_law_sizes rfl rfl (fun _ _ _ _ _ _ us hl => match us, hl with | [_, _], _ => rfl) fun cdv A outer s H E hr => ?_
  exact (dss_one (ds_ret (de_lc (de_lcC (own := [("_law_k", 2)]) rfl sc_law_sizes.nd (di_range1 rfl (z.free 3) (da_cons (de_add de_int (de_call (df_law_draw z xi tbz) (z.glo 4) hr (takes_of rfl rfl rfl rfl) (da_cons (de_var (pv 0)) (da_cons (de_var (pv 1)) da_nil)))) da_nil)) (blk_by (by kernel_rfl)) (fun _ _ _ _ _ => (dgk_name (pg_name sc_law_sizes.nd (i := 2) rfl (by first | exact Or.inl rfl | exact Or.inr rfl)))) (fun _ _ _ _ _ => dts_nil) (fun _ _ _ _ _ => (de_add de_int (de_call (df_law_draw z xi tbz) (z.glo 4) hr takes_no (da_cons (de_var (pv 0)) (da_cons de_int da_nil)))))))))
theorem sc_law_pick : FnScope ["_law_source_here", "_law_items"] ["_law_source_here", "_law_items"] (defScope st_law_pick) := C8.fnScope_by (by decide +kernel)
theorem df_law_pick (z : Kn fa fn fb K mg) (xi) (tbz : TBZ K mg base) : DF P w K mg base (TT K xi) 2 (He.fAd K ("_law_pick", none)) 2 F_law_pick := by
  refine df_mk (z.fd 3 (d := dd_law_pick) rfl rfl rfl) sc_law_pick rfl rfl (fun _ _ _ _ _ _ us hl => match us, hl with | [_, _], _ => rfl) fun cdv A outer s H E hr => ?_
  exact (dss_one (ds_ret (de_ix (de_var (pv 1)) (de_call (df_law_draw z xi tbz) (z.glo 4) hr (takes_of rfl rfl rfl rfl) (da_cons (de_var (pv 0)) (da_cons (de_len (z.free 6) (da_cons (de_var (pv 1)) da_nil)) da_nil))))))
theorem sc_law_number : FnScope ["_law_source_here", "_law_great"] ["_law_source_here"] (defScope st_law_number) := C8.fnScope_by (by decide +kernel)
theorem df_law_number (z : Kn fa fn fb K mg) (xi) (tbz : TBZ K mg base) : DF P w K mg base (TT K xi) 3 (He.fAd K ("_law_number", none)) 1 F_law_number := by
  refine df_mk (z.fd 4 (d := dd_law_number) rfl rfl rfl) sc_law_number rfl rfl (fun _ _ _ _ _ _ us hl => match us, hl with | [_], _ => rfl) fun cdv A outer s H E hr => ?_
  exact (dss_cons (ds_set sc_law_number.nd (de_add (de_pow de_int de_int) (de_call (df_law_draw z xi tbz) (z.glo 4) hr (takes_of rfl rfl rfl rfl) (da_cons (de_var (pv 0)) (da_cons (de_pow de_int de_int) da_nil)))))
  (dss_one (ds_ret (de_call (df_law_pick z xi tbz) (z.glo 7) hr (takes_of rfl rfl rfl rfl) (da_cons (de_var (pv 0)) (da_cons (de_lst (da_cons de_int (da_cons de_int (da_cons de_int (da_cons (de_neg de_int) (da_cons de_int (da_cons (de_var (pv 1)) (da_cons (de_sub de_int (de_var (pv 1))) (da_cons (de_call (df_law_draw z xi tbz) (z.glo 4) hr (takes_of rfl rfl rfl rfl) (da_cons (de_var (pv 0)) (da_cons de_int da_nil))) da_nil))))))))) da_nil))))))
theorem sc_law_specs : FnScope ["_law_source_here", "_law_sizes_so", "_law_least", "_law_most", "_law_result", "_law_k", "_law_kind", "_law_a"] ["_law_source_here", "_law_sizes_so", "_law_least", "_law_most"] (defScope st_law_specs) := C8.fnScope_by (by decide +kernel)
theorem df_law_specs (z : Kn fa fn fb K mg) (xi) (tbz : TBZ K mg base) : DF P w K mg base (TT K xi) 4 (He.fAd K ("_law_specs", none)) 4 F_law_specs := by
  refine df_mk (z.fd 5 (d := dd_law_specs) rfl rfl rfl) sc_law_specs rfl rfl (fun _ _ _ _ _ _ us hl => match us, hl with | [_, _, _, _], _ => rfl) fun cdv A outer s H E hr => ?_
  exact (dss_cons (ds_set sc_law_specs.nd (de_lstC da_nil))
  (dss_cons (ds_for (passes_of rfl) rfl (di_range1 rfl (z.free 3) (da_cons (de_add (de_var (pv 2)) (de_call (df_law_draw z xi tbz) (z.glo 4) hr (takes_of rfl rfl rfl rfl) (da_cons (de_var (pv 0)) (da_cons (de_add (de_sub (de_var (pv 3)) (de_var (pv 2))) de_int) da_nil)))) da_nil)) (dg_name (pg_name sc_law_specs.nd (i := 5) rfl (by first | exact Or.inl rfl | exact Or.inr rfl)))
  (dss_cons (ds_set sc_law_specs.nd (de_call (df_law_pick z xi tbz) (z.glo 7) hr (takes_of rfl rfl rfl rfl) (da_cons (de_var (pv 0)) (da_cons (de_lst (da_cons de_str (da_cons de_str (da_cons de_str (da_cons de_str (da_cons de_str (da_cons de_str da_nil))))))) da_nil))))
  (dss_cons (ds_set sc_law_specs.nd (de_call (df_law_draw z xi tbz) (z.glo 4) hr (takes_of rfl rfl rfl rfl) (da_cons (de_var (pv 0)) (da_cons (de_len (z.free 6) (da_cons (de_var (pv 1)) da_nil)) da_nil))))
  (dss_one (ds_expr (de_append (de_var (pv 4)) (da_cons (de_tup (da_cons (de_var (pv 6)) (da_cons (de_var (pv 7)) (da_cons (de_call (df_law_draw z xi tbz) (z.glo 4) hr (takes_of rfl rfl rfl rfl) (da_cons (de_var (pv 0)) (da_cons (de_ix (de_var (pv 1)) (de_var (pv 7))) da_nil))) (da_cons (de_call (df_law_number z xi tbz) (z.glo 8) hr (takes_of rfl rfl rfl rfl) (da_cons (de_var (pv 0)) da_nil)) da_nil))))) da_nil)))))))
  (dss_one (ds_ret (de_frz (de_var (pv 4)))))))
theorem sc_Memory_init : FnScope ["self", "sizes", "size"] ["self", "sizes"] (defScope st_Memory_init) := C8.fnScope_by (by decide +kernel)
theorem df_Memory_init (z : Kn fa fn fb K mg) (xi) (tbz : TBZ K mg base) : DF P w K mg base (TT K xi) 3 (He.fAd K ("Memory", some "__init__")) 2 F_Memory_init := by
  refine df_mk (z.fd 6 (d := dd_Memory_init) rfl rfl rfl) sc_Memory_init rfl rfl (fun _ _ _ _ _ _ us hl => match us, hl with | [_, _], _ => rfl) fun cdv A outer s H E hr => ?_
  exact (dss_cons (ds_fld (tabOk z xi) nm_inj rfl (k := 5) rfl (de_var (pv 0)) (de_tuple (z.free 11) (da_cons (de_var (pv 1)) da_nil)))
  (dss_cons (ds_if (dt_not (dt_chain op_le op_le de_int (de_len (z.free 6) (da_cons (de_get (tabOk z xi) nm_inj rfl (k := 5) rfl (de_var (pv 0))) da_nil)) (de_gint rfl (z.int 12))))
  (dss_one (ds_raise rfl (takes_of rfl rfl rfl rfl) (ex_BadCount z xi) hr (z.glo 13) (da_cons de_str (da_cons (de_len (z.free 6) (da_cons (de_get (tabOk z xi) nm_inj rfl (k := 5) rfl (de_var (pv 0))) da_nil)) da_nil))))
  dss_nil)
  (dss_one (ds_for (passes_of rfl) rfl (di_tup (de_get (tabOk z xi) nm_inj rfl (k := 5) rfl (de_var (pv 0)))) (dg_name (pg_name sc_Memory_init.nd (i := 2) rfl (by first | exact Or.inl rfl | exact Or.inr rfl)))
  (dss_one (ds_if (dt_not (dt_chain op_le op_le de_int (de_var (pv 2)) (de_gint rfl (z.int 14))))
  (dss_one (ds_raise rfl (takes_of rfl rfl rfl rfl) (ex_BadCount z xi) hr (z.glo 13) (da_cons de_str (da_cons (de_var (pv 2)) da_nil))))
  dss_nil))))))
theorem dk_Memory {X : Cx} (z : Kn fa fn fb K mg) (xi) (tbz : TBZ K mg base) (h1 : X.prog = P) (h2 : X.w = w) (h3 : X.K = K) (h4 : X.mg = mg) (h5 : X.base = base) : DK X (TT K xi) 3 7 1 F_Memory_init := by
  subst h1 h2 h3 h4 h5
  exact ⟨⟨_, z.mkr 71, df_Memory_init z xi tbz⟩⟩
theorem sc_law_text : FnScope ["_law_specs_here", "_law_result", "_law_kind", "_law_a", "_law_b", "_law_c", "_law_numbers_so", "_law_one"] ["_law_specs_here"] (defScope st_law_text) := C8.fnScope_by (by decide +kernel)
theorem df_law_text (z : Kn fa fn fb K mg) (xi) (tbz : TBZ K mg base) : DF P w K mg base (TT K xi) 2 (He.fAd K ("_law_text", none)) 1 F_law_text := by
  refine df_mk (z.fd 7 (d := dd_law_text) rfl rfl rfl) sc_law_text rfl rfl (fun _ _ _ _ _ _ us hl => match us, hl with | [_], _ => rfl) fun cdv A outer s H E hr => ?_
  exact (dss_cons (ds_set sc_law_text.nd (de_lstC da_nil))
  (dss_cons (ds_for (passes_of rfl) rfl (di_list (de_var (pv 0))) (dg_tup rfl (dgs_cons (dg_name (pg_name sc_law_text.nd (i := 2) rfl (by first | exact Or.inl rfl | exact Or.inr rfl))) (dgs_cons (dg_name (pg_name sc_law_text.nd (i := 3) rfl (by first | exact Or.inl rfl | exact Or.inr rfl))) (dgs_cons (dg_name (pg_name sc_law_text.nd (i := 4) rfl (by first | exact Or.inl rfl | exact Or.inr rfl))) (dgs_cons (dg_name (pg_name sc_law_text.nd (i := 5) rfl (by first | exact Or.inl rfl | exact Or.inr rfl))) dgs_nil)))))
  (dss_cons (ds_set sc_law_text.nd (de_tr (de_dget (L2.hu_of hr) (de_disp (dp_cons de_str (de_lst (da_cons (de_var (pv 3)) (da_cons (de_var (pv 4)) (da_cons (de_var (pv 5)) da_nil)))) (dp_cons de_str (de_lst (da_cons (de_var (pv 3)) da_nil)) (dp_cons de_str (de_lst da_nil) dp_nil)))) (de_var (pv 2)) (fun _ _ => rfl))))
  (dss_one (ds_expr (de_append (de_var (pv 1)) (da_cons (de_join de_str (de_add (de_lst (da_cons (de_var (pv 2)) da_nil)) (de_lc (de_lcC (own := [("_law_one", 7)]) rfl sc_law_text.nd (di_list (de_var (pv 6))) (blk_by (by kernel_rfl)) (fun _ _ _ _ _ => (dgk_name (pg_name sc_law_text.nd (i := 7) rfl (by first | exact Or.inl rfl | exact Or.inr rfl)))) (fun _ _ _ _ _ => dts_nil) (fun _ _ _ _ _ => (de_tostr (z.free 15) (da_cons (de_var (pv 7)) da_nil))))))) da_nil))))))
  (dss_one (ds_ret (de_if (DC.tt (dc_eq (eqB0 (n := 0) (h := 20) (by decide)) (hr.mono (Nat.zero_le _)) (de_var (pv 1)) (de_lst da_nil))) de_str (de_join de_str (de_var (pv 1))))))))
theorem sc_law_outcome : FnScope ["_law_call", "e"] ["_law_call"] (defScope st_law_outcome) := C8.fnScope_by (by decide +kernel)
theorem gv_law_outcome {X : Cx} (z : Kn fa fn fb K mg) (xi) (tbz : TBZ K mg base) (h1 : X.prog = P) (h2 : X.w = w) (h3 : X.K = K) (h4 : X.mg = mg) (h5 : X.base = base) (qq : PySem.Str) (cdv : Value) : Gives X ["_law_call", "e"] "_law_outcome" (defScope st_law_outcome) (He.fAd X.K ("_law_outcome", none)) cdv (defBody st_law_outcome) "_law_call" qq (TTk (.T "ok") (TT X.K xi) X.K 2 H_law_outcome g_law_outcome) := by
  subst h1 h2 h3 h4 h5
  exact act_givesK (.T "ok") (by decide) (by decide) (fun s H => (HdX.consA (i := 1) rfl rfl ⟨rfl, by decide, .inl (z.glo 45)⟩ (TblOk.cons (z.exm 43) (TblOk.cons (z.exm 42) (TblOk.cons (z.exm 41) (TblOk.cons (z.exm 40) TblOk.nil)))) (fun a oe cls d pn hz hf => (dx_tup (dxs_cons (dx_of de_str) (dxs_cons (dx_attr (C := 32) (k := 19) nm_inj rfl (z.xcls 3).2.1 (z.noa 44) hz hf (pv 1)) dxs_nil)))) (HdX.consA (i := 1) rfl rfl ⟨rfl, by decide, .inl (z.glo 13)⟩ (TblOk.cons (z.exm 37) (TblOk.cons (z.exm 36) (TblOk.cons (z.exm 35) (TblOk.cons (z.exm 34) TblOk.nil)))) (fun a oe cls d pn hz hf => (dx_tup (dxs_cons (dx_of de_str) (dxs_cons (dx_attr (C := 1) (k := 0) nm_inj rfl (z.xcls 2).2.1 (z.noa 39) hz hf (pv 1)) (dxs_cons (dx_attr (C := 1) (k := 1) nm_inj rfl (z.xcls 2).2.1 (z.noa 38) hz hf (pv 1)) dxs_nil))))) (HdX.consA (i := 1) rfl rfl ⟨rfl, by decide, .inl (z.glo 33)⟩ (TblOk.cons (z.exm 31) (TblOk.cons (z.exm 30) (TblOk.cons (z.exm 29) (TblOk.cons (z.exm 28) TblOk.nil)))) (fun a oe cls d pn hz hf => (dx_tup (dxs_cons (dx_of de_str) (dxs_cons (dx_attr (C := 2) (k := 2) nm_inj rfl (z.xcls 1).2.1 (z.noa 32) hz hf (pv 1)) dxs_nil)))) (HdX.consA (i := 1) rfl rfl ⟨rfl, by decide, .inl (z.glo 27)⟩ (TblOk.cons (z.exm 25) (TblOk.cons (z.exm 24) (TblOk.cons (z.exm 23) (TblOk.cons (z.exm 22) TblOk.nil)))) (fun a oe cls d pn hz hf => (dx_tup (dxs_cons (dx_of de_str) (dxs_cons (dx_attr (C := 3) (k := 3) nm_inj rfl (z.xcls 0).2.1 (z.noa 26) hz hf (pv 1)) dxs_nil)))) (HdX.consA (i := 1) rfl rfl ⟨rfl, by decide, .inl (z.glo 21)⟩ (TblOk.cons (z.exm 20) (TblOk.cons (z.exm 19) (TblOk.cons (z.exm 18) (TblOk.cons (z.exm 17) TblOk.nil)))) (fun a oe cls d pn hz hf => dx_no) HdX.nil))))))
    (fun s H => dss_nil) (fun f c' s H tl W pn xe h => act_T f c' s H tl W pn xe rfl rfl h)
theorem sc_Memory_check_line : FnScope ["self", "line"] ["self", "line"] (defScope st_Memory_check_line) := C8.fnScope_by (by decide +kernel)
theorem df_Memory_check_line (z : Kn fa fn fb K mg) (xi) (tbz : TBZ K mg base) : DF P w K mg base (TT K xi) 3 (He.fAd K ("Memory", some "check_line")) 2 F_Memory_check_line := by
  refine df_mk (z.fd 9 (d := dd_Memory_check_line) rfl rfl rfl) sc_Memory_check_line rfl rfl (fun _ _ _ _ _ _ us hl => match us, hl with | [_, _], _ => rfl) fun cdv A outer s H E hr => ?_
  exact (dss_one (ds_if (dt_not (dt_chain op_le op_lt de_int (de_var (pv 1)) (de_len (z.free 6) (da_cons (de_get (tabOk z xi) nm_inj rfl (k := 5) rfl (de_var (pv 0))) da_nil))))
  (dss_one (ds_raise rfl (takes_of rfl rfl rfl rfl) (ex_NoLine z xi) hr (z.glo 33) (da_cons (de_var (pv 1)) da_nil)))
  dss_nil))
theorem dm_check_line {X : Cx} (z : Kn fa fn fb K mg) (xi) (tbz : TBZ K mg base) (h1 : X.prog = P) (h2 : X.w = w) (h3 : X.K = K) (h4 : X.mg = mg) (h5 : X.base = base) : DM X (TT K xi) 3 "check_line" 2 (fun c => disp_check_line.lookup c) := by
  subst h1 h2 h3 h4 h5
  refine dm_of ?_
  intro p hp
  simp only [disp_check_line, List.mem_cons, List.not_mem_nil, or_false] at hp
  rcases hp with rfl
  · exact ⟨(show ∀ i ∈ od 7, nm i ≠ "check_line" from by decide +kernel), z.cls 72, _, z.meth 73, (df_Memory_check_line z xi tbz).mono (by decide)⟩

theorem sc_Memory_check_word : FnScope ["self", "line", "word"] ["self", "line", "word"] (defScope st_Memory_check_word) := C8.fnScope_by (by decide +kernel)
theorem df_Memory_check_word (z : Kn fa fn fb K mg) (xi) (tbz : TBZ K mg base) : DF P w K mg base (TT K xi) 4 (He.fAd K ("Memory", some "check_word")) 3 F_Memory_check_word := by
  refine df_mk (z.fd 10 (d := dd_Memory_check_word) rfl rfl rfl) sc_Memory_check_word rfl rfl (fun _ _ _ _ _ _ us hl => match us, hl with | [_, _, _], _ => rfl) fun cdv A outer s H E hr => ?_
  exact (dss_cons (ds_expr (de_meth rfl (dm_check_line z xi tbz rfl rfl rfl rfl rfl) hr (takes_of rfl rfl rfl rfl) (de_var (pv 0)) (da_cons (de_var (pv 1)) da_nil)))
  (dss_one (ds_if (dt_not (dt_chain op_le op_lt de_int (de_var (pv 2)) (de_ix (de_get (tabOk z xi) nm_inj rfl (k := 5) rfl (de_var (pv 0))) (de_var (pv 1)))))
  (dss_one (ds_raise rfl (takes_of rfl rfl rfl rfl) (ex_NoWord z xi) hr (z.glo 27) (da_cons (de_var (pv 2)) da_nil)))
  dss_nil)))
theorem dm_check_word {X : Cx} (z : Kn fa fn fb K mg) (xi) (tbz : TBZ K mg base) (h1 : X.prog = P) (h2 : X.w = w) (h3 : X.K = K) (h4 : X.mg = mg) (h5 : X.base = base) : DM X (TT K xi) 4 "check_word" 3 (fun c => disp_check_word.lookup c) := by
  subst h1 h2 h3 h4 h5
  refine dm_of ?_
  intro p hp
  simp only [disp_check_word, List.mem_cons, List.not_mem_nil, or_false] at hp
  rcases hp with rfl
  · exact ⟨(show ∀ i ∈ od 7, nm i ≠ "check_word" from by decide +kernel), z.cls 72, _, z.meth 74, (df_Memory_check_word z xi tbz).mono (by decide)⟩

theorem sc_Store_check : FnScope ["self", "memory"] ["self", "memory"] (defScope st_Store_check) := C8.fnScope_by (by decide +kernel)
theorem df_Store_check (z : Kn fa fn fb K mg) (xi) (tbz : TBZ K mg base) : DF P w K mg base (TT K xi) 5 (He.fAd K ("Store", some "check")) 2 F_Store_check := by
  refine df_mk (z.fd 11 (d := dd_Store_check) rfl rfl rfl) sc_Store_check rfl rfl (fun _ _ _ _ _ _ us hl => match us, hl with | [_, _], _ => rfl) fun cdv A outer s H E hr => ?_
  exact (dss_one (ds_expr (de_meth rfl (dm_check_word z xi tbz rfl rfl rfl rfl rfl) hr (takes_of rfl rfl rfl rfl) (de_var (pv 1)) (da_cons (de_get (tabOk z xi) nm_inj rfl (k := 2) rfl (de_var (pv 0))) (da_cons (de_get (tabOk z xi) nm_inj rfl (k := 3) rfl (de_var (pv 0))) da_nil)))))
theorem sc_Flush_check : FnScope ["self", "memory"] ["self", "memory"] (defScope st_Flush_check) := C8.fnScope_by (by decide +kernel)
theorem df_Flush_check (z : Kn fa fn fb K mg) (xi) (tbz : TBZ K mg base) : DF P w K mg base (TT K xi) 4 (He.fAd K ("Flush", some "check")) 2 F_Flush_check := by
  refine df_mk (z.fd 12 (d := dd_Flush_check) rfl rfl rfl) sc_Flush_check rfl rfl (fun _ _ _ _ _ _ us hl => match us, hl with | [_, _], _ => rfl) fun cdv A outer s H E hr => ?_
  exact (dss_one (ds_expr (de_meth rfl (dm_check_line z xi tbz rfl rfl rfl rfl rfl) hr (takes_of rfl rfl rfl rfl) (de_var (pv 1)) (da_cons (de_get (tabOk z xi) nm_inj rfl (k := 2) rfl (de_var (pv 0))) da_nil))))
theorem sc_Command_check : FnScope ["self", "memory"] ["self", "memory"] (defScope st_Command_check) := C8.fnScope_by (by decide +kernel)
theorem df_Command_check (z : Kn fa fn fb K mg) (xi) (tbz : TBZ K mg base) : DF P w K mg base (TT K xi) 1 (He.fAd K ("Command", some "check")) 2 F_Command_check := by
  refine df_mk (z.fd 13 (d := dd_Command_check) rfl rfl rfl) sc_Command_check rfl rfl (fun _ _ _ _ _ _ us hl => match us, hl with | [_, _], _ => rfl) fun cdv A outer s H E hr => ?_
  exact (dss_one ds_pass)
theorem dm_check {X : Cx} (z : Kn fa fn fb K mg) (xi) (tbz : TBZ K mg base) (h1 : X.prog = P) (h2 : X.w = w) (h3 : X.K = K) (h4 : X.mg = mg) (h5 : X.base = base) : DM X (TT K xi) 5 "check" 2 (fun c => disp_check.lookup c) := by
  subst h1 h2 h3 h4 h5
  refine dm_of ?_
  intro p hp
  simp only [disp_check, List.mem_cons, List.not_mem_nil, or_false] at hp
  rcases hp with rfl | rfl | rfl
  · exact ⟨(show ∀ i ∈ od 9, nm i ≠ "check" from by decide +kernel), z.cls 75, _, z.meth 76, (df_Store_check z xi tbz).mono (by decide)⟩
  · exact ⟨(show ∀ i ∈ od 10, nm i ≠ "check" from by decide +kernel), z.cls 77, _, z.meth 78, (df_Flush_check z xi tbz).mono (by decide)⟩
  · have e := z.meq 5
    have d := (df_Command_check z xi tbz (P := X.prog) (w := X.w) (base := X.base)).mono (j := 5) (by decide)
    have d2 : DF X.prog X.w X.K X.mg X.base (TT X.K xi) 5 (He.ma X.K (He.ga X.K "Fence") "check") 2 F_Command_check := by
      rw [e]; exact d
    exact ⟨(show ∀ i ∈ od 11, nm i ≠ "check" from by decide +kernel), z.cls 79, _, z.meth 80, d2⟩

theorem sc_check_commands : FnScope ["memory", "commands", "command"] ["memory", "commands"] (defScope st_check_commands) := C8.fnScope_by (by decide +kernel)
theorem df_check_commands (z : Kn fa fn fb K mg) (xi) (tbz : TBZ K mg base) : DF P w K mg base (TT K xi) 6 (He.fAd K ("check_commands", none)) 2 F_check_commands := by
  refine df_mk (z.fd 14 (d := dd_check_commands) rfl rfl rfl) sc_check_commands rfl rfl (fun _ _ _ _ _ _ us hl => match us, hl with | [_, _], _ => rfl) fun cdv A outer s H E hr => ?_
  exact (dss_one (ds_for (passes_of rfl) rfl (di_tup (de_var (pv 1))) (dg_name (pg_name sc_check_commands.nd (i := 2) rfl (by first | exact Or.inl rfl | exact Or.inr rfl)))
  (dss_one (ds_expr (de_meth rfl (dm_check z xi tbz rfl rfl rfl rfl rfl) hr (takes_of rfl rfl rfl rfl) (de_var (pv 2)) (da_cons (de_var (pv 0)) da_nil))))))
theorem sc_Program_init : FnScope ["self", "memory", "commands"] ["self", "memory", "commands"] (defScope st_Program_init) := C8.fnScope_by (by decide +kernel)
theorem df_Program_init (z : Kn fa fn fb K mg) (xi) (tbz : TBZ K mg base) : DF P w K mg base (TT K xi) 7 (He.fAd K ("Program", some "__init__")) 3 F_Program_init := by
  refine df_mk (z.fd 15 (d := dd_Program_init) rfl rfl rfl) sc_Program_init rfl rfl (fun _ _ _ _ _ _ us hl => match us, hl with | [_, _, _], _ => rfl) fun cdv A outer s H E hr => ?_
  exact (dss_cons (ds_fld (tabOk z xi) nm_inj rfl (k := 7) rfl (de_var (pv 0)) (de_var (pv 1)))
  (dss_cons (ds_fld (tabOk z xi) nm_inj rfl (k := 8) rfl (de_var (pv 0)) (de_tuple (z.free 11) (da_cons (de_var (pv 2)) da_nil)))
  (dss_cons (ds_if (DC.tt (dc_gt (de_len (z.free 6) (da_cons (de_get (tabOk z xi) nm_inj rfl (k := 8) rfl (de_var (pv 0))) da_nil)) (de_gint rfl (z.int 48))))
  (dss_one (ds_raise rfl (takes_of rfl rfl rfl rfl) (ex_BadCount z xi) hr (z.glo 13) (da_cons de_str (da_cons (de_len (z.free 6) (da_cons (de_get (tabOk z xi) nm_inj rfl (k := 8) rfl (de_var (pv 0))) da_nil)) da_nil))))
  dss_nil)
  (dss_one (ds_expr (de_call (df_check_commands z xi tbz) (z.glo 49) hr (takes_of rfl rfl rfl rfl) (da_cons (de_var (pv 1)) (da_cons (de_get (tabOk z xi) nm_inj rfl (k := 8) rfl (de_var (pv 0))) da_nil))))))))
theorem dk_Program {X : Cx} (z : Kn fa fn fb K mg) (xi) (tbz : TBZ K mg base) (h1 : X.prog = P) (h2 : X.w = w) (h3 : X.K = K) (h4 : X.mg = mg) (h5 : X.base = base) : DK X (TT K xi) 7 12 2 F_Program_init := by
  subst h1 h2 h3 h4 h5
  exact ⟨⟨_, z.mkr 81, df_Program_init z xi tbz⟩⟩
theorem sc_read_number : FnScope ["text", "place", "figures", "sign"] ["text", "place"] (defScope st_read_number) := C8.fnScope_by (by decide +kernel)
theorem df_read_number (z : Kn fa fn fb K mg) (xi) (tbz : TBZ K mg base) : DF P w K mg base (TT K xi) 3 (He.fAd K ("read_number", none)) 2 F_read_number := by
  refine df_mk (z.fd 16 (d := dd_read_number) rfl rfl rfl) sc_read_number rfl rfl (fun _ _ _ _ _ _ us hl => match us, hl with | [_, _], _ => rfl) fun cdv A outer s H E hr => ?_
  exact (dss_cons (ds_set sc_read_number.nd (de_if (DC.tt (dc_eq (eqB0 (n := 0) (h := 20) (by decide)) (hr.mono (Nat.zero_le _)) (de_slice (de_var (pv 0)) do_none (do_some de_int)) de_str)) (de_slice (de_var (pv 0)) (do_some de_int) do_none) (de_var (pv 0))))
  (dss_cons (ds_if (DW.tt (dw_or (dt_not (dt_chain op_le op_le de_int (de_len (z.free 6) (da_cons (de_var (pv 2)) da_nil)) (de_gint rfl (z.int 52)))) (dw_or1 (dt_not (dt_val (de_all rfl (z.free 53) (da_cons (de_lc (de_lcC (own := [("sign", 3)]) rfl sc_read_number.nd (di_str (de_var (pv 2))) (blk_by (by kernel_rfl)) (fun _ _ _ _ _ => (dgk_name (pg_name sc_read_number.nd (i := 3) rfl (by first | exact Or.inl rfl | exact Or.inr rfl)))) (fun _ _ _ _ _ => dts_nil) (fun _ _ _ _ _ => (DC.ex (dc_in (eqB0 (n := 0) (h := 20) (by decide)) (hr.mono (Nat.zero_le _)) (de_var (pv 3)) (de_gstr rfl (z.str 54))))))) da_nil)))))))
  (dss_one (ds_raise rfl (takes_of rfl rfl rfl rfl) (ex_BadText z xi) hr (z.glo 45) (da_cons (de_var (pv 1)) da_nil)))
  dss_nil)
  (dss_cons (ds_if (DW.tt (dw_and (DC.tt (dc_eq (eqB0 (n := 0) (h := 20) (by decide)) (hr.mono (Nat.zero_le _)) (de_ix (de_var (pv 2)) de_int) de_str)) (dw_and1 (DC.tt (dc_ne (eqB0 (n := 0) (h := 20) (by decide)) (hr.mono (Nat.zero_le _)) (de_var (pv 0)) de_str)))))
  (dss_one (ds_raise rfl (takes_of rfl rfl rfl rfl) (ex_BadText z xi) hr (z.glo 45) (da_cons (de_var (pv 1)) da_nil)))
  dss_nil)
  (dss_one (ds_ret (de_int1 (z.free 1) (da_cons (de_var (pv 0)) da_nil)))))))
theorem sc_Store_init : FnScope ["self", "line", "word", "number"] ["self", "line", "word", "number"] (defScope st_Store_init) := C8.fnScope_by (by decide +kernel)
theorem df_Store_init (z : Kn fa fn fb K mg) (xi) (tbz : TBZ K mg base) : DF P w K mg base (TT K xi) 1 (He.fAd K ("Store", some "__init__")) 4 F_Store_init := by
  refine df_mk (z.fd 17 (d := dd_Store_init) rfl rfl rfl) sc_Store_init rfl rfl (fun _ _ _ _ _ _ us hl => match us, hl with | [_, _, _, _], _ => rfl) fun cdv A outer s H E hr => ?_
  exact (dss_cons (ds_fld (tabOk z xi) nm_inj rfl (k := 2) rfl (de_var (pv 0)) (de_var (pv 1)))
  (dss_cons (ds_fld (tabOk z xi) nm_inj rfl (k := 3) rfl (de_var (pv 0)) (de_var (pv 2)))
  (dss_one (ds_fld (tabOk z xi) nm_inj rfl (k := 6) rfl (de_var (pv 0)) (de_var (pv 3))))))
theorem dk_Store {X : Cx} (z : Kn fa fn fb K mg) (xi) (tbz : TBZ K mg base) (h1 : X.prog = P) (h2 : X.w = w) (h3 : X.K = K) (h4 : X.mg = mg) (h5 : X.base = base) : DK X (TT K xi) 1 9 3 F_Store_init := by
  subst h1 h2 h3 h4 h5
  exact ⟨⟨_, z.mkr 82, df_Store_init z xi tbz⟩⟩
theorem sc_Flush_init : FnScope ["self", "line"] ["self", "line"] (defScope st_Flush_init) := C8.fnScope_by (by decide +kernel)
theorem df_Flush_init (z : Kn fa fn fb K mg) (xi) (tbz : TBZ K mg base) : DF P w K mg base (TT K xi) 1 (He.fAd K ("Flush", some "__init__")) 2 F_Flush_init := by
  refine df_mk (z.fd 18 (d := dd_Flush_init) rfl rfl rfl) sc_Flush_init rfl rfl (fun _ _ _ _ _ _ us hl => match us, hl with | [_, _], _ => rfl) fun cdv A outer s H E hr => ?_
  exact (dss_one (ds_fld (tabOk z xi) nm_inj rfl (k := 2) rfl (de_var (pv 0)) (de_var (pv 1))))
theorem dk_Flush {X : Cx} (z : Kn fa fn fb K mg) (xi) (tbz : TBZ K mg base) (h1 : X.prog = P) (h2 : X.w = w) (h3 : X.K = K) (h4 : X.mg = mg) (h5 : X.base = base) : DK X (TT K xi) 1 10 1 F_Flush_init := by
  subst h1 h2 h3 h4 h5
  exact ⟨⟨_, z.mkr 83, df_Flush_init z xi tbz⟩⟩
theorem sc_read_command : FnScope ["text", "place", "words", "numbers", "line", "word", "number"] ["text", "place"] (defScope st_read_command) := C8.fnScope_by (by decide +kernel)
theorem df_read_command (z : Kn fa fn fb K mg) (xi) (tbz : TBZ K mg base) : DF P w K mg base (TT K xi) 4 (He.fAd K ("read_command", none)) 2 F_read_command := by
  refine df_mk (z.fd 19 (d := dd_read_command) rfl rfl rfl) sc_read_command rfl rfl (fun _ _ _ _ _ _ us hl => match us, hl with | [_, _], _ => rfl) fun cdv A outer s H E hr => ?_
  exact (dss_cons (ds_set sc_read_command.nd (de_split (de_var (pv 0)) de_str))
  (dss_cons (ds_setLcR (own := [("word", 5)]) (takes_of rfl rfl rfl rfl) rfl sc_read_command.nd (di_list (de_slice (de_var (pv 2)) (do_some de_int) do_none)) (blk_by (by kernel_rfl)) (fun _ _ _ _ _ => (dgk_name (pg_name sc_read_command.nd (i := 5) rfl (by first | exact Or.inl rfl | exact Or.inr rfl)))) (fun _ _ _ _ _ => dts_nil) (fun _ _ _ _ _ _ tkq => (de_callP (df_read_number z xi tbz) (z.glo 55) hr tkq (da_cons (de_var (pv 5)) (da_cons (de_var (pv 1)) da_nil)))))
  (dss_cons (ds_if (DW.tt (dw_and (DC.tt (dc_eq (eqB0 (n := 0) (h := 20) (by decide)) (hr.mono (Nat.zero_le _)) (de_ix (de_var (pv 2)) de_int) de_str)) (dw_and1 (DC.tt (dc_eq (eqB0 (n := 0) (h := 20) (by decide)) (hr.mono (Nat.zero_le _)) (de_len (z.free 6) (da_cons (de_var (pv 3)) da_nil)) de_int)))))
  (dss_cons (ds_asg (de_var (pv 3)) (dg_lst rfl (dgs_cons (dg_name (pg_name sc_read_command.nd (i := 4) rfl (by first | exact Or.inl rfl | exact Or.inr rfl))) (dgs_cons (dg_name (pg_name sc_read_command.nd (i := 5) rfl (by first | exact Or.inl rfl | exact Or.inr rfl))) (dgs_cons (dg_name (pg_name sc_read_command.nd (i := 6) rfl (by first | exact Or.inl rfl | exact Or.inr rfl))) dgs_nil)))))
  (dss_one (ds_ret (de_mkO rfl (dk_Store z xi tbz rfl rfl rfl rfl rfl) (z.glo 56) hr (takes_of rfl rfl rfl rfl) (da_cons (de_var (pv 4)) (da_cons (de_var (pv 5)) (da_cons (de_var (pv 6)) da_nil)))))))
  dss_nil)
  (dss_cons (ds_if (DW.tt (dw_and (DC.tt (dc_eq (eqB0 (n := 0) (h := 20) (by decide)) (hr.mono (Nat.zero_le _)) (de_ix (de_var (pv 2)) de_int) de_str)) (dw_and1 (DC.tt (dc_eq (eqB0 (n := 0) (h := 20) (by decide)) (hr.mono (Nat.zero_le _)) (de_len (z.free 6) (da_cons (de_var (pv 3)) da_nil)) de_int)))))
  (dss_one (ds_ret (de_mkO rfl (dk_Flush z xi tbz rfl rfl rfl rfl rfl) (z.glo 57) hr (takes_of rfl rfl rfl rfl) (da_cons (de_ix (de_var (pv 3)) de_int) da_nil))))
  dss_nil)
  (dss_cons (ds_if (DC.tt (dc_eq (eqB0 (n := 0) (h := 20) (by decide)) (hr.mono (Nat.zero_le _)) (de_var (pv 0)) de_str))
  (dss_one (ds_ret (de_mk0 (z.mk0 4) rfl (z.glo 58))))
  dss_nil)
  (dss_one (ds_raise rfl (takes_of rfl rfl rfl rfl) (ex_BadText z xi) hr (z.glo 45) (da_cons (de_var (pv 1)) da_nil))))))))
theorem sc_read_program : FnScope ["memory", "text", "place", "part"] ["memory", "text"] (defScope st_read_program) := C8.fnScope_by (by decide +kernel)
theorem df_read_program (z : Kn fa fn fb K mg) (xi) (tbz : TBZ K mg base) : DF P w K mg base (TT K xi) 9 (He.fAd K ("read_program", none)) 2 F_read_program := by
  refine df_mk (z.fd 20 (d := dd_read_program) rfl rfl rfl) sc_read_program rfl rfl (fun _ _ _ _ _ _ us hl => match us, hl with | [_, _], _ => rfl) fun cdv A outer s H E hr => ?_
  exact (dss_cons (ds_if (DC.tt (dc_eq (eqB0 (n := 0) (h := 20) (by decide)) (hr.mono (Nat.zero_le _)) (de_var (pv 1)) (de_gstr rfl (z.str 46))))
  (dss_one (ds_ret (de_mkO rfl (dk_Program z xi tbz rfl rfl rfl rfl rfl) (z.glo 47) hr (takes_of rfl rfl rfl rfl) (da_cons (de_var (pv 0)) (da_cons (de_lst da_nil) da_nil)))))
  dss_nil)
  (dss_one (ds_ret (de_mkO rfl (dk_Program z xi tbz rfl rfl rfl rfl rfl) (z.glo 47) hr (takes_of rfl rfl rfl rfl) (da_cons (de_var (pv 0)) (da_cons (de_lc (de_lcR (own := [("place", 2), ("part", 3)]) (takes_of rfl rfl rfl rfl) rfl sc_read_program.nd (di_enumA (z.free 50) (da_cons (de_split (de_var (pv 1)) (de_gstr rfl (z.str 51))) da_nil)) (blk_by (by kernel_rfl)) (fun _ _ _ _ _ => (dgk_tup rfl (dgks_cons (dgk_name (pg_name sc_read_program.nd (i := 2) rfl (by first | exact Or.inl rfl | exact Or.inr rfl))) (dgks_cons (dgk_name (pg_name sc_read_program.nd (i := 3) rfl (by first | exact Or.inl rfl | exact Or.inr rfl))) dgks_nil)))) (fun _ _ _ _ _ => dts_nil) (fun _ _ _ _ _ _ tkq => (de_callP (df_read_command z xi tbz) (z.glo 59) hr tkq (da_cons (de_var (pv 3)) (da_cons (de_var (pv 2)) da_nil)))))) da_nil))))))
theorem sc_law_is_number : FnScope ["_law_text_here", "_law_digits", "_law_sign"] ["_law_text_here"] (defScope st_law_is_number) := C8.fnScope_by (by decide +kernel)
theorem df_law_is_number (z : Kn fa fn fb K mg) (xi) (tbz : TBZ K mg base) : DF P w K mg base (TT K xi) 1 (He.fAd K ("_law_is_number", none)) 1 F_law_is_number := by
  refine df_mk (z.fd 21 (d := dd_law_is_number) rfl rfl rfl) sc_law_is_number rfl rfl (fun _ _ _ _ _ _ us hl => match us, hl with | [_], _ => rfl) fun cdv A outer s H E hr => ?_
  exact (dss_cons (ds_set sc_law_is_number.nd (de_if (DC.tt (dc_eq (eqB0 (n := 0) (h := 20) (by decide)) (hr.mono (Nat.zero_le _)) (de_slice (de_var (pv 0)) do_none (do_some de_int)) de_str)) (de_slice (de_var (pv 0)) (do_some de_int) do_none) (de_var (pv 0))))
  (dss_cons (ds_if (DW.tt (dw_or (dt_not (dt_chain op_le op_le de_int (de_len (z.free 6) (da_cons (de_var (pv 1)) da_nil)) de_int)) (dw_or1 (DC.tt (dc_ne (eqB0 (n := 0) (h := 20) (by decide)) (hr.mono (Nat.zero_le _)) (de_lc (de_lcC (own := [("_law_sign", 2)]) rfl sc_law_is_number.nd (di_str (de_var (pv 1))) (blk_by (by kernel_rfl)) (fun _ _ _ _ _ => (dgk_name (pg_name sc_law_is_number.nd (i := 2) rfl (by first | exact Or.inl rfl | exact Or.inr rfl)))) (fun _ _ _ _ _ => (dts_one (DC.tt (dc_nin (eqB0 (n := 0) (h := 20) (by decide)) (hr.mono (Nat.zero_le _)) (de_var (pv 2)) de_str)))) (fun _ _ _ _ _ => (de_var (pv 2))))) (de_lst da_nil))))))
  (dss_one (ds_ret de_bl))
  dss_nil)
  (dss_one (ds_ret (de_or (DC.ex (dc_eq (eqB0 (n := 0) (h := 20) (by decide)) (hr.mono (Nat.zero_le _)) (de_var (pv 0)) de_str)) (de_one (DC.ex (dc_ne (eqB0 (n := 0) (h := 20) (by decide)) (hr.mono (Nat.zero_le _)) (de_ix (de_var (pv 1)) de_int) de_str))))))))
theorem sc_law_read : FnScope ["_law_part", "_law_words_so", "_law_numbers_so", "_law_one"] ["_law_part"] (defScope st_law_read) := C8.fnScope_by (by decide +kernel)
theorem df_law_read (z : Kn fa fn fb K mg) (xi) (tbz : TBZ K mg base) : DF P w K mg base (TT K xi) 3 (He.fAd K ("_law_read", none)) 1 F_law_read := by
  refine df_mk (z.fd 22 (d := dd_law_read) rfl rfl rfl) sc_law_read rfl rfl (fun _ _ _ _ _ _ us hl => match us, hl with | [_], _ => rfl) fun cdv A outer s H E hr => ?_
  exact (dss_cons (ds_set sc_law_read.nd (de_split (de_var (pv 0)) de_str))
  (dss_cons (ds_if (DC.tt (dc_eq (eqB0 (n := 0) (h := 20) (by decide)) (hr.mono (Nat.zero_le _)) (de_var (pv 1)) (de_lst (da_cons de_str da_nil))))
  (dss_one (ds_ret (de_mk0 (z.mk0 4) rfl (z.glo 58))))
  dss_nil)
  (dss_cons (ds_if (DC.tt (dc_ne (eqB0 (n := 0) (h := 20) (by decide)) (hr.mono (Nat.zero_le _)) (de_lc (de_lcC (own := [("_law_one", 3)]) rfl sc_law_read.nd (di_list (de_slice (de_var (pv 1)) (do_some de_int) do_none)) (blk_by (by kernel_rfl)) (fun _ _ _ _ _ => (dgk_name (pg_name sc_law_read.nd (i := 3) rfl (by first | exact Or.inl rfl | exact Or.inr rfl)))) (fun _ _ _ _ _ => (dts_one (dt_not (dt_val (de_call (df_law_is_number z xi tbz) (z.glo 62) hr takes_no (da_cons (de_var (pv 3)) da_nil)))))) (fun _ _ _ _ _ => (de_var (pv 3))))) (de_lst da_nil)))
  (dss_one (ds_ret de_non))
  dss_nil)
  (dss_cons (ds_setLc (own := [("_law_one", 3)]) rfl sc_law_read.nd (di_list (de_slice (de_var (pv 1)) (do_some de_int) do_none)) (blk_by (by kernel_rfl)) (fun _ _ _ _ _ => (dgk_name (pg_name sc_law_read.nd (i := 3) rfl (by first | exact Or.inl rfl | exact Or.inr rfl)))) (fun _ _ _ _ _ => dts_nil) (fun _ _ _ _ _ => (de_int1 (z.free 1) (da_cons (de_var (pv 3)) da_nil))))
  (dss_cons (ds_if (DW.tt (dw_and (DC.tt (dc_eq (eqB0 (n := 0) (h := 20) (by decide)) (hr.mono (Nat.zero_le _)) (de_ix (de_var (pv 1)) de_int) de_str)) (dw_and1 (DC.tt (dc_eq (eqB0 (n := 0) (h := 20) (by decide)) (hr.mono (Nat.zero_le _)) (de_len (z.free 6) (da_cons (de_var (pv 2)) da_nil)) de_int)))))
  (dss_one (ds_ret (de_mkO rfl (dk_Flush z xi tbz rfl rfl rfl rfl rfl) (z.glo 57) hr (takes_of rfl rfl rfl rfl) (da_cons (de_ix (de_var (pv 2)) de_int) da_nil))))
  dss_nil)
  (dss_cons (ds_if (DW.tt (dw_and (DC.tt (dc_eq (eqB0 (n := 0) (h := 20) (by decide)) (hr.mono (Nat.zero_le _)) (de_ix (de_var (pv 1)) de_int) de_str)) (dw_and1 (DC.tt (dc_eq (eqB0 (n := 0) (h := 20) (by decide)) (hr.mono (Nat.zero_le _)) (de_len (z.free 6) (da_cons (de_var (pv 2)) da_nil)) de_int)))))
  (dss_one (ds_ret (de_mkO rfl (dk_Store z xi tbz rfl rfl rfl rfl rfl) (z.glo 56) hr (takes_of rfl rfl rfl rfl) (da_cons (de_ix (de_var (pv 2)) de_int) (da_cons (de_ix (de_var (pv 2)) de_int) (da_cons (de_ix (de_var (pv 2)) de_int) da_nil))))))
  dss_nil)
  (dss_one (ds_ret de_non))))))))
theorem sc_Memory_kind : FnScope ["self"] ["self"] (defScope st_Memory_kind) := C8.fnScope_by (by decide +kernel)
theorem df_Memory_kind (z : Kn fa fn fb K mg) (xi) (tbz : TBZ K mg base) : DF P w K mg base (TT K xi) 1 (He.fAd K ("Memory", some "kind")) 1 F_Memory_kind := by
  refine df_mk (z.fd 23 (d := dd_Memory_kind) rfl rfl rfl) sc_Memory_kind rfl rfl (fun _ _ _ _ _ _ us hl => match us, hl with | [_], _ => rfl) fun cdv A outer s H E hr => ?_
  exact (dss_one (ds_ret de_str))
theorem sc_Store_kind : FnScope ["self"] ["self"] (defScope st_Store_kind) := C8.fnScope_by (by decide +kernel)
theorem df_Store_kind (z : Kn fa fn fb K mg) (xi) (tbz : TBZ K mg base) : DF P w K mg base (TT K xi) 1 (He.fAd K ("Store", some "kind")) 1 F_Store_kind := by
  refine df_mk (z.fd 24 (d := dd_Store_kind) rfl rfl rfl) sc_Store_kind rfl rfl (fun _ _ _ _ _ _ us hl => match us, hl with | [_], _ => rfl) fun cdv A outer s H E hr => ?_
  exact (dss_one (ds_ret de_str))
theorem sc_Flush_kind : FnScope ["self"] ["self"] (defScope st_Flush_kind) := C8.fnScope_by (by decide +kernel)
theorem df_Flush_kind (z : Kn fa fn fb K mg) (xi) (tbz : TBZ K mg base) : DF P w K mg base (TT K xi) 1 (He.fAd K ("Flush", some "kind")) 1 F_Flush_kind := by
  refine df_mk (z.fd 25 (d := dd_Flush_kind) rfl rfl rfl) sc_Flush_kind rfl rfl (fun _ _ _ _ _ _ us hl => match us, hl with | [_], _ => rfl) fun cdv A outer s H E hr => ?_
  exact (dss_one (ds_ret de_str))
theorem sc_Fence_kind : FnScope ["self"] ["self"] (defScope st_Fence_kind) := C8.fnScope_by (by decide +kernel)
theorem df_Fence_kind (z : Kn fa fn fb K mg) (xi) (tbz : TBZ K mg base) : DF P w K mg base (TT K xi) 1 (He.fAd K ("Fence", some "kind")) 1 F_Fence_kind := by
  refine df_mk (z.fd 26 (d := dd_Fence_kind) rfl rfl rfl) sc_Fence_kind rfl rfl (fun _ _ _ _ _ _ us hl => match us, hl with | [_], _ => rfl) fun cdv A outer s H E hr => ?_
  exact (dss_one (ds_ret de_str))
theorem sc_Program_kind : FnScope ["self"] ["self"] (defScope st_Program_kind) := C8.fnScope_by (by decide +kernel)
theorem df_Program_kind (z : Kn fa fn fb K mg) (xi) (tbz : TBZ K mg base) : DF P w K mg base (TT K xi) 1 (He.fAd K ("Program", some "kind")) 1 F_Program_kind := by
  refine df_mk (z.fd 27 (d := dd_Program_kind) rfl rfl rfl) sc_Program_kind rfl rfl (fun _ _ _ _ _ _ us hl => match us, hl with | [_], _ => rfl) fun cdv A outer s H E hr => ?_
  exact (dss_one (ds_ret de_str))
theorem dm_kind {X : Cx} (z : Kn fa fn fb K mg) (xi) (tbz : TBZ K mg base) (h1 : X.prog = P) (h2 : X.w = w) (h3 : X.K = K) (h4 : X.mg = mg) (h5 : X.base = base) : DM X (TT K xi) 1 "kind" 1 (fun c => disp_kind.lookup c) := by
  subst h1 h2 h3 h4 h5
  refine dm_of ?_
  intro p hp
  simp only [disp_kind, List.mem_cons, List.not_mem_nil, or_false] at hp
  rcases hp with rfl | rfl | rfl | rfl | rfl
  · exact ⟨(show ∀ i ∈ od 7, nm i ≠ "kind" from by decide +kernel), z.cls 72, _, z.meth 84, (df_Memory_kind z xi tbz).mono (by decide)⟩
  · exact ⟨(show ∀ i ∈ od 9, nm i ≠ "kind" from by decide +kernel), z.cls 75, _, z.meth 85, (df_Store_kind z xi tbz).mono (by decide)⟩
  · exact ⟨(show ∀ i ∈ od 10, nm i ≠ "kind" from by decide +kernel), z.cls 77, _, z.meth 86, (df_Flush_kind z xi tbz).mono (by decide)⟩
  · exact ⟨(show ∀ i ∈ od 11, nm i ≠ "kind" from by decide +kernel), z.cls 79, _, z.meth 87, (df_Fence_kind z xi tbz).mono (by decide)⟩
  · exact ⟨(show ∀ i ∈ od 12, nm i ≠ "kind" from by decide +kernel), z.cls 88, _, z.meth 89, (df_Program_kind z xi tbz).mono (by decide)⟩

theorem sc_Memory_facts : FnScope ["self"] ["self"] (defScope st_Memory_facts) := C8.fnScope_by (by decide +kernel)
theorem df_Memory_facts (z : Kn fa fn fb K mg) (xi) (tbz : TBZ K mg base) : DF P w K mg base (TT K xi) 1 (He.fAd K ("Memory", some "facts")) 1 F_Memory_facts := by
  refine df_mk (z.fd 28 (d := dd_Memory_facts) rfl rfl rfl) sc_Memory_facts rfl rfl (fun _ _ _ _ _ _ us hl => match us, hl with | [_], _ => rfl) fun cdv A outer s H E hr => ?_
  exact (dss_one (ds_ret (de_tup (da_cons (de_get (tabOk z xi) nm_inj rfl (k := 5) rfl (de_var (pv 0))) da_nil))))
theorem sc_Store_facts : FnScope ["self"] ["self"] (defScope st_Store_facts) := C8.fnScope_by (by decide +kernel)
theorem df_Store_facts (z : Kn fa fn fb K mg) (xi) (tbz : TBZ K mg base) : DF P w K mg base (TT K xi) 1 (He.fAd K ("Store", some "facts")) 1 F_Store_facts := by
  refine df_mk (z.fd 29 (d := dd_Store_facts) rfl rfl rfl) sc_Store_facts rfl rfl (fun _ _ _ _ _ _ us hl => match us, hl with | [_], _ => rfl) fun cdv A outer s H E hr => ?_
  exact (dss_one (ds_ret (de_tup (da_cons (de_get (tabOk z xi) nm_inj rfl (k := 2) rfl (de_var (pv 0))) (da_cons (de_get (tabOk z xi) nm_inj rfl (k := 3) rfl (de_var (pv 0))) (da_cons (de_get (tabOk z xi) nm_inj rfl (k := 6) rfl (de_var (pv 0))) da_nil))))))
theorem sc_Flush_facts : FnScope ["self"] ["self"] (defScope st_Flush_facts) := C8.fnScope_by (by decide +kernel)
theorem df_Flush_facts (z : Kn fa fn fb K mg) (xi) (tbz : TBZ K mg base) : DF P w K mg base (TT K xi) 1 (He.fAd K ("Flush", some "facts")) 1 F_Flush_facts := by
  refine df_mk (z.fd 30 (d := dd_Flush_facts) rfl rfl rfl) sc_Flush_facts rfl rfl (fun _ _ _ _ _ _ us hl => match us, hl with | [_], _ => rfl) fun cdv A outer s H E hr => ?_
  exact (dss_one (ds_ret (de_tup (da_cons (de_get (tabOk z xi) nm_inj rfl (k := 2) rfl (de_var (pv 0))) da_nil))))
theorem sc_Thing_facts : FnScope ["self"] ["self"] (defScope st_Thing_facts) := C8.fnScope_by (by decide +kernel)
theorem df_Thing_facts (z : Kn fa fn fb K mg) (xi) (tbz : TBZ K mg base) : DF P w K mg base (TT K xi) 1 (He.fAd K ("Thing", some "facts")) 1 F_Thing_facts := by
  refine df_mk (z.fd 31 (d := dd_Thing_facts) rfl rfl rfl) sc_Thing_facts rfl rfl (fun _ _ _ _ _ _ us hl => match us, hl with | [_], _ => rfl) fun cdv A outer s H E hr => ?_
  exact (dss_one (ds_ret (de_tup da_nil)))
theorem sc_Program_facts : FnScope ["self"] ["self"] (defScope st_Program_facts) := C8.fnScope_by (by decide +kernel)
theorem df_Program_facts (z : Kn fa fn fb K mg) (xi) (tbz : TBZ K mg base) : DF P w K mg base (TT K xi) 1 (He.fAd K ("Program", some "facts")) 1 F_Program_facts := by
  refine df_mk (z.fd 32 (d := dd_Program_facts) rfl rfl rfl) sc_Program_facts rfl rfl (fun _ _ _ _ _ _ us hl => match us, hl with | [_], _ => rfl) fun cdv A outer s H E hr => ?_
  exact (dss_one (ds_ret (de_tup (da_cons (de_get (tabOk z xi) nm_inj rfl (k := 7) rfl (de_var (pv 0))) (da_cons (de_get (tabOk z xi) nm_inj rfl (k := 8) rfl (de_var (pv 0))) da_nil)))))
theorem dm_facts {X : Cx} (z : Kn fa fn fb K mg) (xi) (tbz : TBZ K mg base) (h1 : X.prog = P) (h2 : X.w = w) (h3 : X.K = K) (h4 : X.mg = mg) (h5 : X.base = base) : DM X (TT K xi) 1 "facts" 1 (fun c => disp_facts.lookup c) := by
  subst h1 h2 h3 h4 h5
  refine dm_of ?_
  intro p hp
  simp only [disp_facts, List.mem_cons, List.not_mem_nil, or_false] at hp
  rcases hp with rfl | rfl | rfl | rfl | rfl
  · exact ⟨(show ∀ i ∈ od 7, nm i ≠ "facts" from by decide +kernel), z.cls 72, _, z.meth 90, (df_Memory_facts z xi tbz).mono (by decide)⟩
  · exact ⟨(show ∀ i ∈ od 9, nm i ≠ "facts" from by decide +kernel), z.cls 75, _, z.meth 91, (df_Store_facts z xi tbz).mono (by decide)⟩
  · exact ⟨(show ∀ i ∈ od 10, nm i ≠ "facts" from by decide +kernel), z.cls 77, _, z.meth 92, (df_Flush_facts z xi tbz).mono (by decide)⟩
  · have e := z.meq 6
    have d := (df_Thing_facts z xi tbz (P := X.prog) (w := X.w) (base := X.base)).mono (j := 1) (by decide)
    have d2 : DF X.prog X.w X.K X.mg X.base (TT X.K xi) 1 (He.ma X.K (He.ga X.K "Fence") "facts") 1 F_Thing_facts := by
      rw [e]; exact d
    exact ⟨(show ∀ i ∈ od 11, nm i ≠ "facts" from by decide +kernel), z.cls 79, _, z.meth 93, d2⟩
  · exact ⟨(show ∀ i ∈ od 12, nm i ≠ "facts" from by decide +kernel), z.cls 88, _, z.meth 94, (df_Program_facts z xi tbz).mono (by decide)⟩

theorem sc_Thing_eq : FnScope ["self", "other"] ["self", "other"] (defScope st_Thing_eq) := C8.fnScope_by (by decide +kernel)
theorem ownq_T (z : Kn fa fn fb K mg) (xi) : OwnQ (TT K xi) K (He.fAd K ("Thing", some "__eq__")) ownCS := z.ownq (cn := cn) 7
theorem eqb_1 {X : Cx} (z : Kn fa fn fb K mg) (xi) (tbz : TBZ K mg base) (h1 : X.prog = P) (h2 : X.w = w) (h3 : X.K = K) (h4 : X.mg = mg) (h5 : X.base = base) : EqB X (TT X.K xi) 0 ownCS 1 := EqB.base
theorem df_Thing_eq_1 (z : Kn fa fn fb K mg) (xi) (tbz : TBZ K mg base) : DF P w K mg base (TT K xi) 2 (He.fAd K ("Thing", some "__eq__")) 2 (F_Thing_eq 1) := by
  refine df_mk (z.fd 33 (d := dd_Thing_eq) rfl rfl rfl) sc_Thing_eq rfl rfl (fun _ _ _ _ _ _ us hl => match us, hl with | [_, _], _ => rfl) fun cdv A outer s H E hr => ?_
  exact (dss_cons (ds_if (DW.tt (dw_or (dt_not (dt_val (de_isi (ist_Thing z xi) (z.free 64) (z.glo 65) (de_var (pv 1))))) (dw_or1 (DC.tt (dc_ne (eqB0 (n := 0) (h := 20) (by decide)) (hr.mono (Nat.zero_le _)) (de_meth0 rfl (dm_kind z xi tbz rfl rfl rfl rfl rfl) hr (takes_of rfl rfl rfl rfl) (de_var (pv 0))) (de_meth0 rfl (dm_kind z xi tbz rfl rfl rfl rfl rfl) hr (takes_of rfl rfl rfl rfl) (de_var (pv 1))))))))
  (dss_one (ds_ret de_bl))
  dss_nil)
  (dss_one (ds_ret (DC.ex (dc_eq (eqb_1 z xi tbz rfl rfl rfl rfl rfl) (hr.mono (by decide)) (de_meth0 rfl (dm_facts z xi tbz rfl rfl rfl rfl rfl) hr (takes_of rfl rfl rfl rfl) (de_var (pv 0))) (de_meth0 rfl (dm_facts z xi tbz rfl rfl rfl rfl rfl) hr (takes_of rfl rfl rfl rfl) (de_var (pv 1))))))))
theorem eqb_2 {X : Cx} (z : Kn fa fn fb K mg) (xi) (tbz : TBZ K mg base) (h1 : X.prog = P) (h2 : X.w = w) (h3 : X.K = K) (h4 : X.mg = mg) (h5 : X.base = base) : EqB X (TT X.K xi) 4 ownCS 2 := by
  have B := eqb_1 z xi tbz h1 h2 h3 h4 h5
  subst h1 h2 h3 h4 h5
  exact B.step (df_Thing_eq_1 z xi tbz) (ownq_T z xi) (hden rfl 1) (hnon rfl 1)
theorem df_Thing_eq_2 (z : Kn fa fn fb K mg) (xi) (tbz : TBZ K mg base) : DF P w K mg base (TT K xi) 5 (He.fAd K ("Thing", some "__eq__")) 2 (F_Thing_eq 2) := by
  refine df_mk (z.fd 33 (d := dd_Thing_eq) rfl rfl rfl) sc_Thing_eq rfl rfl (fun _ _ _ _ _ _ us hl => match us, hl with | [_, _], _ => rfl) fun cdv A outer s H E hr => ?_
  exact (dss_cons (ds_if (DW.tt (dw_or (dt_not (dt_val (de_isi (ist_Thing z xi) (z.free 64) (z.glo 65) (de_var (pv 1))))) (dw_or1 (DC.tt (dc_ne (eqB0 (n := 0) (h := 20) (by decide)) (hr.mono (Nat.zero_le _)) (de_meth0 rfl (dm_kind z xi tbz rfl rfl rfl rfl rfl) hr (takes_of rfl rfl rfl rfl) (de_var (pv 0))) (de_meth0 rfl (dm_kind z xi tbz rfl rfl rfl rfl rfl) hr (takes_of rfl rfl rfl rfl) (de_var (pv 1))))))))
  (dss_one (ds_ret de_bl))
  dss_nil)
  (dss_one (ds_ret (DC.ex (dc_eq (eqb_2 z xi tbz rfl rfl rfl rfl rfl) (hr.mono (by decide)) (de_meth0 rfl (dm_facts z xi tbz rfl rfl rfl rfl rfl) hr (takes_of rfl rfl rfl rfl) (de_var (pv 0))) (de_meth0 rfl (dm_facts z xi tbz rfl rfl rfl rfl rfl) hr (takes_of rfl rfl rfl rfl) (de_var (pv 1))))))))
theorem eqb_3 {X : Cx} (z : Kn fa fn fb K mg) (xi) (tbz : TBZ K mg base) (h1 : X.prog = P) (h2 : X.w = w) (h3 : X.K = K) (h4 : X.mg = mg) (h5 : X.base = base) : EqB X (TT X.K xi) 7 ownCS 3 := by
  have B := eqb_2 z xi tbz h1 h2 h3 h4 h5
  subst h1 h2 h3 h4 h5
  exact B.step (df_Thing_eq_2 z xi tbz) (ownq_T z xi) (hden rfl 2) (hnon rfl 2)
theorem df_Thing_eq_3 (z : Kn fa fn fb K mg) (xi) (tbz : TBZ K mg base) : DF P w K mg base (TT K xi) 8 (He.fAd K ("Thing", some "__eq__")) 2 (F_Thing_eq 3) := by
  refine df_mk (z.fd 33 (d := dd_Thing_eq) rfl rfl rfl) sc_Thing_eq rfl rfl (fun _ _ _ _ _ _ us hl => match us, hl with | [_, _], _ => rfl) fun cdv A outer s H E hr => ?_
  exact (dss_cons (ds_if (DW.tt (dw_or (dt_not (dt_val (de_isi (ist_Thing z xi) (z.free 64) (z.glo 65) (de_var (pv 1))))) (dw_or1 (DC.tt (dc_ne (eqB0 (n := 0) (h := 20) (by decide)) (hr.mono (Nat.zero_le _)) (de_meth0 rfl (dm_kind z xi tbz rfl rfl rfl rfl rfl) hr (takes_of rfl rfl rfl rfl) (de_var (pv 0))) (de_meth0 rfl (dm_kind z xi tbz rfl rfl rfl rfl rfl) hr (takes_of rfl rfl rfl rfl) (de_var (pv 1))))))))
  (dss_one (ds_ret de_bl))
  dss_nil)
  (dss_one (ds_ret (DC.ex (dc_eq (eqb_3 z xi tbz rfl rfl rfl rfl rfl) (hr.mono (by decide)) (de_meth0 rfl (dm_facts z xi tbz rfl rfl rfl rfl rfl) hr (takes_of rfl rfl rfl rfl) (de_var (pv 0))) (de_meth0 rfl (dm_facts z xi tbz rfl rfl rfl rfl rfl) hr (takes_of rfl rfl rfl rfl) (de_var (pv 1))))))))
theorem eqb_4 {X : Cx} (z : Kn fa fn fb K mg) (xi) (tbz : TBZ K mg base) (h1 : X.prog = P) (h2 : X.w = w) (h3 : X.K = K) (h4 : X.mg = mg) (h5 : X.base = base) : EqB X (TT X.K xi) 10 ownCS 4 := by
  have B := eqb_3 z xi tbz h1 h2 h3 h4 h5
  subst h1 h2 h3 h4 h5
  exact B.step (df_Thing_eq_3 z xi tbz) (ownq_T z xi) (hden rfl 3) (hnon rfl 3)
theorem df_Thing_eq_4 (z : Kn fa fn fb K mg) (xi) (tbz : TBZ K mg base) : DF P w K mg base (TT K xi) 11 (He.fAd K ("Thing", some "__eq__")) 2 (F_Thing_eq 4) := by
  refine df_mk (z.fd 33 (d := dd_Thing_eq) rfl rfl rfl) sc_Thing_eq rfl rfl (fun _ _ _ _ _ _ us hl => match us, hl with | [_, _], _ => rfl) fun cdv A outer s H E hr => ?_
  exact (dss_cons (ds_if (DW.tt (dw_or (dt_not (dt_val (de_isi (ist_Thing z xi) (z.free 64) (z.glo 65) (de_var (pv 1))))) (dw_or1 (DC.tt (dc_ne (eqB0 (n := 0) (h := 20) (by decide)) (hr.mono (Nat.zero_le _)) (de_meth0 rfl (dm_kind z xi tbz rfl rfl rfl rfl rfl) hr (takes_of rfl rfl rfl rfl) (de_var (pv 0))) (de_meth0 rfl (dm_kind z xi tbz rfl rfl rfl rfl rfl) hr (takes_of rfl rfl rfl rfl) (de_var (pv 1))))))))
  (dss_one (ds_ret de_bl))
  dss_nil)
  (dss_one (ds_ret (DC.ex (dc_eq (eqb_4 z xi tbz rfl rfl rfl rfl rfl) (hr.mono (by decide)) (de_meth0 rfl (dm_facts z xi tbz rfl rfl rfl rfl rfl) hr (takes_of rfl rfl rfl rfl) (de_var (pv 0))) (de_meth0 rfl (dm_facts z xi tbz rfl rfl rfl rfl rfl) hr (takes_of rfl rfl rfl rfl) (de_var (pv 1))))))))
theorem eqb_5 {X : Cx} (z : Kn fa fn fb K mg) (xi) (tbz : TBZ K mg base) (h1 : X.prog = P) (h2 : X.w = w) (h3 : X.K = K) (h4 : X.mg = mg) (h5 : X.base = base) : EqB X (TT X.K xi) 13 ownCS 5 := by
  have B := eqb_4 z xi tbz h1 h2 h3 h4 h5
  subst h1 h2 h3 h4 h5
  exact B.step (df_Thing_eq_4 z xi tbz) (ownq_T z xi) (hden rfl 4) (hnon rfl 4)
theorem df_Thing_eq_5 (z : Kn fa fn fb K mg) (xi) (tbz : TBZ K mg base) : DF P w K mg base (TT K xi) 14 (He.fAd K ("Thing", some "__eq__")) 2 (F_Thing_eq 5) := by
  refine df_mk (z.fd 33 (d := dd_Thing_eq) rfl rfl rfl) sc_Thing_eq rfl rfl (fun _ _ _ _ _ _ us hl => match us, hl with | [_, _], _ => rfl) fun cdv A outer s H E hr => ?_
  exact (dss_cons (ds_if (DW.tt (dw_or (dt_not (dt_val (de_isi (ist_Thing z xi) (z.free 64) (z.glo 65) (de_var (pv 1))))) (dw_or1 (DC.tt (dc_ne (eqB0 (n := 0) (h := 20) (by decide)) (hr.mono (Nat.zero_le _)) (de_meth0 rfl (dm_kind z xi tbz rfl rfl rfl rfl rfl) hr (takes_of rfl rfl rfl rfl) (de_var (pv 0))) (de_meth0 rfl (dm_kind z xi tbz rfl rfl rfl rfl rfl) hr (takes_of rfl rfl rfl rfl) (de_var (pv 1))))))))
  (dss_one (ds_ret de_bl))
  dss_nil)
  (dss_one (ds_ret (DC.ex (dc_eq (eqb_5 z xi tbz rfl rfl rfl rfl rfl) (hr.mono (by decide)) (de_meth0 rfl (dm_facts z xi tbz rfl rfl rfl rfl rfl) hr (takes_of rfl rfl rfl rfl) (de_var (pv 0))) (de_meth0 rfl (dm_facts z xi tbz rfl rfl rfl rfl rfl) hr (takes_of rfl rfl rfl rfl) (de_var (pv 1))))))))
theorem eqb_6 {X : Cx} (z : Kn fa fn fb K mg) (xi) (tbz : TBZ K mg base) (h1 : X.prog = P) (h2 : X.w = w) (h3 : X.K = K) (h4 : X.mg = mg) (h5 : X.base = base) : EqB X (TT X.K xi) 16 ownCS 6 := by
  have B := eqb_5 z xi tbz h1 h2 h3 h4 h5
  subst h1 h2 h3 h4 h5
  exact B.step (df_Thing_eq_5 z xi tbz) (ownq_T z xi) (hden rfl 5) (hnon rfl 5)
theorem sc_law_shown : FnScope ["_law_told", "_law_found", "_law_one"] ["_law_told"] (defScope st_law_shown) := C8.fnScope_by (by decide +kernel)
theorem df_law_shown (z : Kn fa fn fb K mg) (xi) (tbz : TBZ K mg base) : DF P w K mg base (TT K xi) 1 (He.fAd K ("_law_shown", none)) 1 F_law_shown := by
  refine df_mk (z.fd 34 (d := dd_law_shown) rfl rfl rfl) sc_law_shown rfl rfl (fun _ _ _ _ _ _ us hl => match us, hl with | [_], _ => rfl) fun cdv A outer s H E hr => ?_
  exact (dss_cons (ds_if (DC.tt (dc_ne (eqB0 (n := 0) (h := 20) (by decide)) (hr.mono (Nat.zero_le _)) (de_ix (de_var (pv 0)) de_int) de_str))
  (dss_one (ds_ret (de_var (pv 0))))
  dss_nil)
  (dss_cons (ds_set sc_law_shown.nd (de_lstC da_nil))
  (dss_cons (ds_for (passes_of rfl) rfl (di_tup (de_get (tabOk z xi) nm_inj rfl (k := 8) rfl (de_ix (de_var (pv 0)) de_int))) (dg_name (pg_name sc_law_shown.nd (i := 2) rfl (by first | exact Or.inl rfl | exact Or.inr rfl)))
  (dss_one (ds_if (dt_val (de_isi (ist_Store z xi) (z.free 64) (z.glo 56) (de_var (pv 2))))
  (dss_one (ds_expr (de_append (de_var (pv 1)) (da_cons (de_tup (da_cons de_str (da_cons (de_get (tabOk z xi) nm_inj rfl (k := 2) rfl (de_var (pv 2))) (da_cons (de_get (tabOk z xi) nm_inj rfl (k := 3) rfl (de_var (pv 2))) (da_cons (de_get (tabOk z xi) nm_inj rfl (k := 6) rfl (de_var (pv 2))) da_nil))))) da_nil))))
  (dss_one (ds_expr (de_append (de_var (pv 1)) (da_cons (de_if (dt_val (de_isi (ist_Flush z xi) (z.free 64) (z.glo 57) (de_var (pv 2)))) (de_tup (da_cons de_str (da_cons (de_get (tabOk z xi) nm_inj rfl (k := 2) rfl (de_var (pv 2))) da_nil))) (de_tup (da_cons de_str (da_cons (de_isi (ist_Fence z xi) (z.free 64) (z.glo 58) (de_var (pv 2))) da_nil)))) da_nil)))))))
  (dss_one (ds_ret (de_frz (de_var (pv 1))))))))
theorem sc_law_text_right : FnScope ["_law_memory_so", "_law_line_so", "_law_told", "_law_some", "_law_due", "_law_part", "_law_one"] ["_law_memory_so", "_law_line_so"] (defScope st_law_text_right) := C8.fnScope_by (by decide +kernel)
theorem df_law_text_right (z : Kn fa fn fb K mg) (xi) (tbz : TBZ K mg base) : DF P w K mg base (TT K xi) 17 (He.fAd K ("_law_text_right", none)) 2 F_law_text_right := by
  refine df_mkL (pd := ("_law_text_right", none)) (z.fd 35 (d := dd_law_text_right) rfl rfl rfl) sc_law_text_right rfl rfl (fun _ _ _ _ _ _ us hl => match us, hl with | [_, _], _ => rfl) fun A outer s H E hr => ?_
  exact (dss_cons (ds_set sc_law_text_right.nd (de_lamcallK (k := 9) (z.fd 8 (d := dd_law_outcome) rfl rfl rfl) sc_law_outcome (z.glo 61) (fun cdv => gv_law_outcome z xi tbz rfl rfl rfl rfl rfl _ cdv) (tbz _ (List.mem_of_getElem? (i := 0) rfl)) rfl (tbnd z xi) (i := 0) rfl hr (LamX.lamS_by (sc := defScope st_law_text_right) (by decide +kernel)) (fun _ _ _ _ _ _ us hl => match us, hl with | [_], _ => rfl) (fun _ _ _ _ _ => rfl) (fun A outer s H E f c' hr => (de_call (df_read_program z xi tbz) (z.glo 60) hr (takes_of rfl rfl rfl rfl) (da_cons (de_var (pv 0)) (da_cons (de_var (pv 1)) da_nil))))))
  (dss_cons (ds_set sc_law_text_right.nd (de_if (DC.tt (dc_eq (eqB0 (n := 0) (h := 20) (by decide)) (hr.mono (Nat.zero_le _)) (de_var (pv 1)) de_str)) (de_lst da_nil) (de_lc (de_lcC (own := [("_law_part", 5)]) rfl sc_law_text_right.nd (di_list (de_split (de_var (pv 1)) de_str)) (blk_by (by kernel_rfl)) (fun _ _ _ _ _ => (dgk_name (pg_name sc_law_text_right.nd (i := 5) rfl (by first | exact Or.inl rfl | exact Or.inr rfl)))) (fun _ _ _ _ _ => dts_nil) (fun _ _ _ _ _ => (de_call (df_law_read z xi tbz) (z.glo 63) hr takes_no (da_cons (de_var (pv 5)) da_nil)))))))
  (dss_cons (ds_if (DC.tt (dc_in (eqB0 (n := 0) (h := 20) (by decide)) (hr.mono (Nat.zero_le _)) de_non (de_lc (de_lcC (own := [("_law_one", 6)]) rfl sc_law_text_right.nd (di_list (de_var (pv 3))) (blk_by (by kernel_rfl)) (fun _ _ _ _ _ => (dgk_name (pg_name sc_law_text_right.nd (i := 6) rfl (by first | exact Or.inl rfl | exact Or.inr rfl)))) (fun _ _ _ _ _ => dts_nil) (fun _ _ _ _ _ => (de_if (DC.tt (dc_isN (de_var (pv 6)))) (de_var (pv 6)) de_int))))))
  (dss_one (ds_ret (DC.ex (dc_eq (eqB0 (n := 0) (h := 20) (by decide)) (hr.mono (Nat.zero_le _)) (de_var (pv 2)) (de_tup (da_cons de_str (da_cons (de_indexB (de_lc (de_lcC (own := [("_law_one", 6)]) rfl sc_law_text_right.nd (di_list (de_var (pv 3))) (blk_by (by kernel_rfl)) (fun _ _ _ _ _ => (dgk_name (pg_name sc_law_text_right.nd (i := 6) rfl (by first | exact Or.inl rfl | exact Or.inr rfl)))) (fun _ _ _ _ _ => dts_nil) (fun _ _ _ _ _ => (DC.ex (dc_isN (de_var (pv 6))))))) (da_cons de_bl da_nil)) da_nil)))))))
  dss_nil)
  (dss_cons (ds_set sc_law_text_right.nd (de_lamcallK (k := 8) (z.fd 8 (d := dd_law_outcome) rfl rfl rfl) sc_law_outcome (z.glo 61) (fun cdv => gv_law_outcome z xi tbz rfl rfl rfl rfl rfl _ cdv) (tbz _ (List.mem_of_getElem? (i := 0) rfl)) rfl (tbnd z xi) (i := 0) rfl hr (LamX.lamS_by (sc := defScope st_law_text_right) (by decide +kernel)) (fun _ _ _ _ _ _ us hl => match us, hl with | [_], _ => rfl) (fun _ _ _ _ _ => rfl) (fun A outer s H E f c' hr => (de_mkO rfl (dk_Program z xi tbz rfl rfl rfl rfl rfl) (z.glo 47) hr (takes_of rfl rfl rfl rfl) (da_cons (de_mkO rfl (dk_Memory z xi tbz rfl rfl rfl rfl rfl) (z.glo 10) hr (takes_of rfl rfl rfl rfl) (da_cons (de_get (tabOk z xi) nm_inj rfl (k := 5) rfl (de_var (pv 0))) da_nil)) (da_cons (de_var (pv 3)) da_nil))))))
  (dss_one (ds_ret (de_and (DC.ex (dc_eq (eqb_6 z xi tbz rfl rfl rfl rfl rfl) (hr.mono (by decide)) (de_var (pv 2)) (de_var (pv 4)))) (de_one (DC.ex (dc_eq (eqB0 (n := 0) (h := 20) (by decide)) (hr.mono (Nat.zero_le _)) (de_call (df_law_shown z xi tbz) (z.glo 66) hr (takes_of rfl rfl rfl rfl) (da_cons (de_var (pv 2)) da_nil)) (de_call (df_law_shown z xi tbz) (z.glo 66) hr (takes_of rfl rfl rfl rfl) (da_cons (de_var (pv 4)) da_nil))))))))))))
theorem sc_law_signs : FnScope ["_law_signs_here"] [] (defScope st_law_signs) := C8.fnScope_by (by decide +kernel)
theorem df_law_signs (z : Kn fa fn fb K mg) (xi) (tbz : TBZ K mg base) : DF P w K mg base (TT K xi) 1 (He.fAd K ("_law_signs", none)) 0 F_law_signs := by
  refine df_mk (z.fd 36 (d := dd_law_signs) rfl rfl rfl) sc_law_signs rfl rfl (fun _ _ _ _ _ _ us hl => match us, hl with | [], _ => rfl) fun cdv A outer s H E hr => ?_
  exact (dss_cons (ds_set sc_law_signs.nd de_str)
  (dss_one (ds_ret (de_add (de_var (pv 0)) de_str))))
theorem sc_law_bent : FnScope ["_law_source_here", "_law_text_here", "_law_at", "_law_sign", "_law_way"] ["_law_source_here", "_law_text_here"] (defScope st_law_bent) := C8.fnScope_by (by decide +kernel)
theorem df_law_bent (z : Kn fa fn fb K mg) (xi) (tbz : TBZ K mg base) : DF P w K mg base (TT K xi) 3 (He.fAd K ("_law_bent", none)) 2 F_law_bent := by
  refine df_mk (z.fd 37 (d := dd_law_bent) rfl rfl rfl) sc_law_bent rfl rfl (fun _ _ _ _ _ _ us hl => match us, hl with | [_, _], _ => rfl) fun cdv A outer s H E hr => ?_
  exact (dss_cons (ds_set sc_law_bent.nd (de_call (df_law_draw z xi tbz) (z.glo 4) hr (takes_of rfl rfl rfl rfl) (da_cons (de_var (pv 0)) (da_cons (de_add (de_len (z.free 6) (da_cons (de_var (pv 1)) da_nil)) de_int) da_nil))))
  (dss_cons (ds_set sc_law_bent.nd (de_call (df_law_pick z xi tbz) (z.glo 7) hr (takes_of rfl rfl rfl rfl) (da_cons (de_var (pv 0)) (da_cons (de_call (df_law_pick z xi tbz) (z.glo 7) hr (takes_of rfl rfl rfl rfl) (da_cons (de_var (pv 0)) (da_cons (de_lst (da_cons (de_call0 (df_law_signs z xi tbz) (z.glo 67) hr (takes_of rfl rfl rfl rfl)) (da_cons de_str (da_cons de_str (da_cons de_str da_nil))))) da_nil))) da_nil))))
  (dss_cons (ds_set sc_law_bent.nd (de_call (df_law_draw z xi tbz) (z.glo 4) hr (takes_of rfl rfl rfl rfl) (da_cons (de_var (pv 0)) (da_cons de_int da_nil))))
  (dss_cons (ds_if (DC.tt (dc_eq (eqB0 (n := 0) (h := 20) (by decide)) (hr.mono (Nat.zero_le _)) (de_var (pv 4)) de_int))
  (dss_one (ds_ret (de_add (de_slice (de_var (pv 1)) do_none (do_some (de_var (pv 2)))) (de_slice (de_var (pv 1)) (do_some (de_add (de_var (pv 2)) de_int)) do_none))))
  dss_nil)
  (dss_one (ds_ret (de_add (de_add (de_slice (de_var (pv 1)) do_none (do_some (de_var (pv 2)))) (de_var (pv 3))) (de_slice (de_var (pv 1)) (do_some (de_sub (de_add (de_var (pv 2)) (de_var (pv 4))) de_int)) do_none))))))))
theorem sc_law_right : FnScope ["_law_source_here", "_law_sizes_so", "_law_specs_here", "_law_memory_so", "_law_parts", "_law_k", "_law_bad", "_law_good", "_law_at", "_law_part", "_law_bent_here", "_law_some", "_law_line_so", "_law_odd"] ["_law_source_here"] (defScope st_law_right) := C8.fnScope_by (by decide +kernel)
theorem df_law_right (z : Kn fa fn fb K mg) (xi) (tbz : TBZ K mg base) : DF P w K mg base (TT K xi) 18 (He.fAd K ("_law_right", none)) 1 F_law_right := by
  refine df_mk (z.fd 38 (d := dd_law_right) rfl rfl rfl) sc_law_right rfl rfl (fun _ _ _ _ _ _ us hl => match us, hl with | [_], _ => rfl) fun cdv A outer s H E hr => ?_
  exact (dss_cons (ds_set sc_law_right.nd (de_call (df_law_sizes z xi tbz) (z.glo 5) hr (takes_of rfl rfl rfl rfl) (da_cons (de_var (pv 0)) (da_cons de_int da_nil))))
  (dss_cons (ds_par (i := 2) (j := 3) rfl sc_law_right.nd (da_cons (de_call (df_law_specs z xi tbz) (z.glo 9) hr (takes_of rfl rfl rfl rfl) (da_cons (de_var (pv 0)) (da_cons (de_var (pv 1)) (da_cons de_int (da_cons de_int da_nil))))) (da_cons (de_mkO rfl (dk_Memory z xi tbz rfl rfl rfl rfl rfl) (z.glo 10) hr (takes_of rfl rfl rfl rfl) (da_cons (de_var (pv 1)) da_nil)) da_nil)))
  (dss_cons (ds_set sc_law_right.nd (de_split (de_call (df_law_text z xi tbz) (z.glo 16) hr (takes_of rfl rfl rfl rfl) (da_cons (de_var (pv 2)) da_nil)) de_str))
  (dss_cons (ds_for (passes_of rfl) rfl (di_range1 rfl (z.free 3) (da_cons de_int da_nil)) (dg_name (pg_name sc_law_right.nd (i := 5) rfl (by first | exact Or.inl rfl | exact Or.inr rfl)))
  (dss_one (ds_if (dt_not (dt_val (de_call (df_law_text_right z xi tbz) (z.glo 69) hr (takes_of rfl rfl rfl rfl) (da_cons (de_var (pv 3)) (da_cons (de_call (df_law_bent z xi tbz) (z.glo 68) hr (takes_of rfl rfl rfl rfl) (da_cons (de_var (pv 0)) (da_cons (de_call (df_law_text z xi tbz) (z.glo 16) hr (takes_of rfl rfl rfl rfl) (da_cons (de_var (pv 2)) da_nil)) da_nil))) da_nil)))))
  (dss_one (ds_ret de_bl))
  dss_nil)))
  (dss_cons (ds_set sc_law_right.nd (de_lst (da_cons de_str (da_cons de_str (da_cons de_str (da_cons de_str (da_cons de_str (da_cons de_str (da_cons de_str (da_cons de_str (da_cons de_str (da_cons de_str da_nil))))))))))))
  (dss_cons (ds_set sc_law_right.nd (de_add (de_var (pv 6)) (de_lst (da_cons de_str (da_cons de_str (da_cons de_str (da_cons (de_add de_str (de_mulS de_str de_int)) (da_cons (de_add de_str (de_mulS de_str de_int)) da_nil))))))))
  (dss_cons (ds_set sc_law_right.nd (de_add (de_var (pv 6)) (de_lst (da_cons (de_add de_str (de_mulS de_str de_int)) (da_cons (de_add de_str (de_mulS de_str de_int)) (da_cons (de_add (de_add de_str (de_mulS de_str de_int)) de_str) da_nil))))))
  (dss_cons (ds_set sc_law_right.nd (de_add (de_var (pv 6)) (de_lst (da_cons de_str (da_cons de_str (da_cons de_str (da_cons de_str (da_cons de_str (da_cons de_str (da_cons de_str da_nil))))))))))
  (dss_cons (ds_set sc_law_right.nd (de_lstC (da_cons (de_add de_str (de_mulS de_str de_int)) (da_cons (de_add de_str (de_mulS de_str de_int)) (da_cons de_str (da_cons de_str (da_cons de_str (da_cons de_str da_nil))))))))
  (dss_cons (ds_expr (de_append (de_var (pv 7)) (da_cons de_str da_nil)))
  (dss_cons (ds_set sc_law_right.nd (de_call (df_law_draw z xi tbz) (z.glo 4) hr (takes_of rfl rfl rfl rfl) (da_cons (de_var (pv 0)) (da_cons (de_add (de_len (z.free 6) (da_cons (de_var (pv 4)) da_nil)) de_int) da_nil))))
  (dss_cons (ds_for (passes_of rfl) rfl (di_list (de_add (de_var (pv 6)) (de_var (pv 7)))) (dg_name (pg_name sc_law_right.nd (i := 9) rfl (by first | exact Or.inl rfl | exact Or.inr rfl)))
  (dss_one (ds_for (passes_of rfl) rfl (di_list (de_lst (da_cons (de_join de_str (de_add (de_add (de_slice (de_var (pv 4)) do_none (do_some (de_var (pv 8)))) (de_lst (da_cons (de_var (pv 9)) da_nil))) (de_slice (de_var (pv 4)) (do_some (de_var (pv 8))) do_none))) (da_cons (de_var (pv 9)) (da_cons (de_join de_str (de_lst (da_cons (de_var (pv 9)) (da_cons (de_var (pv 9)) da_nil)))) da_nil))))) (dg_name (pg_name sc_law_right.nd (i := 12) rfl (by first | exact Or.inl rfl | exact Or.inr rfl)))
  (dss_one (ds_if (dt_not (dt_val (de_call (df_law_text_right z xi tbz) (z.glo 69) hr (takes_of rfl rfl rfl rfl) (da_cons (de_var (pv 3)) (da_cons (de_var (pv 12)) da_nil)))))
  (dss_one (ds_ret de_bl))
  dss_nil)))))
  (dss_cons (ds_for (passes_of rfl) rfl (di_list (de_var (pv 6))) (dg_name (pg_name sc_law_right.nd (i := 9) rfl (by first | exact Or.inl rfl | exact Or.inr rfl)))
  (dss_cons (ds_set sc_law_right.nd (de_call (df_law_pick z xi tbz) (z.glo 7) hr (takes_of rfl rfl rfl rfl) (da_cons (de_var (pv 0)) (da_cons (de_slice (de_var (pv 7)) (do_some de_int) do_none) da_nil))))
  (dss_one (ds_for (passes_of rfl) rfl (di_list (de_lst (da_cons (de_add (de_add (de_var (pv 13)) de_str) (de_var (pv 9))) (da_cons (de_add (de_add (de_var (pv 9)) de_str) (de_var (pv 13))) (da_cons (de_join de_str (de_lst (da_cons (de_var (pv 13)) (da_cons de_str (da_cons (de_var (pv 9)) (da_cons (de_var (pv 13)) (da_cons (de_var (pv 9)) da_nil))))))) da_nil))))) (dg_name (pg_name sc_law_right.nd (i := 12) rfl (by first | exact Or.inl rfl | exact Or.inr rfl)))
  (dss_one (ds_if (dt_not (dt_val (de_call (df_law_text_right z xi tbz) (z.glo 69) hr (takes_of rfl rfl rfl rfl) (da_cons (de_var (pv 3)) (da_cons (de_var (pv 12)) da_nil)))))
  (dss_one (ds_ret de_bl))
  dss_nil))))))
  (dss_cons (ds_set sc_law_right.nd (de_call (df_law_draw z xi tbz) (z.glo 4) hr (takes_of rfl rfl rfl rfl) (da_cons (de_var (pv 0)) (da_cons de_int da_nil))))
  (dss_cons (ds_set sc_law_right.nd (de_add (de_add (de_mul (de_lst (da_cons de_str da_nil)) (de_var (pv 8))) (de_lst (da_cons de_str da_nil))) (de_mul (de_lst (da_cons de_str da_nil)) (de_sub de_int (de_var (pv 8))))))
  (dss_cons (ds_for (passes_of rfl) rfl (di_list (de_lst (da_cons (de_mul (de_lst (da_cons de_str da_nil)) de_int) (da_cons (de_mul (de_lst (da_cons de_str da_nil)) de_int) (da_cons (de_var (pv 10)) (da_cons (de_mul (de_lst (da_cons de_str da_nil)) de_int) da_nil)))))) (dg_name (pg_name sc_law_right.nd (i := 11) rfl (by first | exact Or.inl rfl | exact Or.inr rfl)))
  (dss_one (ds_if (dt_not (dt_val (de_call (df_law_text_right z xi tbz) (z.glo 69) hr (takes_of rfl rfl rfl rfl) (da_cons (de_var (pv 3)) (da_cons (de_join de_str (de_var (pv 11))) da_nil)))))
  (dss_one (ds_ret de_bl))
  dss_nil)))
  (dss_one (ds_ret de_bl))))))))))))))))))
theorem sc_law : FnScope ["_law_script", "_law_cell", "_law_source_here"] ["_law_script"] (defScope st_law) := C8.fnScope_by (by decide +kernel)
theorem fn_law (z : Kn fa fn fb K mg) (xi) (tbz : TBZ K mg base) {fd : FuncData} (F : FunD K "law" "law" (defArgs st_law) (defBody st_law) (defScope st_law) [] [] (He.ga K "law") fd) : FnOk P w K mg base (L2.CX P w) 19 (He.ga K "law") fd ["_law_script"] (spD (TT K xi) K 1 F_law) := by
  refine fn_mk F sc_law rfl rfl fun cdv A outer s H E hr => ?_
  exact (dss_cons (ds_for (passes_of rfl) rfl (di_list (de_slice (de_add (de_var (pv 0)) (de_lst (da_cons de_int da_nil))) do_none (do_some de_int))) (dg_name (pg_name sc_law.nd (i := 1) rfl (by first | exact Or.inl rfl | exact Or.inr rfl)))
  (dss_cons (ds_set sc_law.nd (de_call (df_law_source z xi tbz) (z.glo 2) hr (takes_of rfl rfl rfl rfl) (da_cons (de_var (pv 1)) da_nil)))
  (dss_one (ds_if (dt_not (dt_val (de_call (df_law_right z xi tbz) (z.glo 70) hr (takes_of rfl rfl rfl rfl) (da_cons (de_var (pv 2)) da_nil))))
  (dss_one (ds_ret de_bl))
  dss_nil))))
  (dss_one (ds_ret de_bl)))
end
abbrev R : PySem.W.OpenRow := PySem.W.OpenLaw.row PySem.Challenge.rw_lateststore_k72_program_texts_refused
abbrev hk : PySem.W.Hook := He.hookX 5 fa fn [] TF (fun K => fb.all fun f => f.ok K)
def ob (s : PySem.W.SharedT) : He.AlX := He.obsX 5 fa fn [] TF (fun K => fb.all fun f => f.ok K) (HandSHeadRun.getT s)
theorem ob_eq (s : PySem.W.SharedT) : ob s = hk.obs s.abs := He.obsX_eq (HandSHeadRun.getT_eq s)
theorem headrun (w : World) : HandSHeadRun.RunEq R (PySem.W.view R.prog [45]) hk ob 30000 names w := by
  intro os
  kernel_rfl
end K72
open PySem PySem.W PySem.Calls PyProof.Rows
theorem PySem.Challenge.cw_lateststore_k72_program_texts_refused_holds : PySem.Challenge.rw_lateststore_k72_program_texts_refused.Holds := by
  w_on; o_law
  refine HandSHeadRun.head_any (r := OpenLaw.row PySem.Challenge.rw_lateststore_k72_program_texts_refused) (q := view (OpenLaw.row PySem.Challenge.rw_lateststore_k72_program_texts_refused).prog [45]) (H := K72.hk) (ob := K72.ob) (M := 30000) (loose := K72.names)
    (d := HandSHeadRun.topDef (OpenLaw.row PySem.Challenge.rw_lateststore_k72_program_texts_refused).prog 45) (kwd := []) K72.ob_eq
    (by kernel_rfl) (fun s => by kernel_rfl) K72.headrun (by kernel_rfl) (by kernel_rfl) (by kernel_rfl) (by rfl) (by first | assumption | decide +kernel) (by decide +kernel) ⟨rfl, rfl, rfl, rfl, rfl, by decide +kernel⟩ ?hw ?hc
  case hw => w_witness2
  case hc =>
    refine DL.walk_ofXT (l := PySem.Challenge.rw_lateststore_k72_program_texts_refused) (n := 63) (k := 19) (x := "_law_script") rfl (by decide) (by kernel_rfl) ⟨rfl, by decide, by decide⟩ ?F
    intro w mg fa h Y G hmg0
    obtain ⟨K, KX, c⟩ := Y
    have z : DL.Kn K72.fa K72.fn K72.fb K mg := ⟨⟨h, KX, G⟩, c.t.d, c.more⟩
    have hmg : mg ("law" : PySem.Str) = some (.ref fa) := by
      have e : (HandSHeadRun.topDef (OpenLaw.row PySem.Challenge.rw_lateststore_k72_program_texts_refused).prog 45).name = ("law" : PySem.Str) := by kernel_rfl
      rw [← e]
      exact hmg0
    have e := hmg.symm.trans (z.glo 102)
    cases e
    obtain ⟨fd, F⟩ := z.fd 39 (d := K72.dd_law) rfl rfl rfl
    have b := L2.FunD.bindsA (ps := ["_law_script"]) F fun _ _ _ _ _ _ us hl => match us, hl with | [_], _ => rfl
    refine ⟨K, fd, K72.TF.map (He.cT K), _, KX, (by intro p hp; obtain ⟨p0, h0, rfl⟩ := List.mem_map.mp hp; exact c.empty _ h0), (by intro p hp; obtain ⟨p0, h0, rfl⟩ := List.mem_map.mp hp; exact c.out _ h0), (by intro p hp; obtain ⟨p0, h0, rfl⟩ := List.mem_map.mp hp; exact PySem.W.codeHd_of_K KX (c.hd _ h0)), fun s v => b s [v] rfl, fun H a ns hl hbt hH hS => DL.law_spT hS ?ht (K72.law_true ns hl hbt), fun base _ _ hT => K72.fn_law z none (fun p hp => hT _ (List.mem_map_of_mem hp)) F⟩
    intro p hp
    have hp2 : ∃ d ∈ K72.TF, p.1 = (He.cT K d).2 := by
      simp only [K72.TB, List.mem_cons, List.not_mem_nil, or_false] at hp
      rcases hp with rfl
      · exact ⟨_, List.mem_of_getElem? (i := 0) rfl, rfl⟩
    obtain ⟨d, hd, e⟩ := hp2
    rw [e]
    exact LamX.TabS.nil (hH _ (List.mem_map_of_mem hd))
end
