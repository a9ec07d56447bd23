import PyProof.Rows.All
import Wide.All
import OpenK.AllK
import Wide.FinOn
import HandS.ForMost
import HandS.ForExc
import HandS.Flow
import HandS.More
import HandS.Wide
import HandS.TupAny
import HandS.TupMul
import HandS.Style
import HandS.OwnEq
import HandS.Zip
import HandS.FStr
import HandS.ExcInit
import HandS.TryMany
import HandS.Lambda
import HandS.Defaults
import HandS.Head0
import HandS.Head1
import HandS.Head2
import HandS.HeadEnd
import HandS.HeadHook1
import HandS.HeadHook2
import HandS.HeadHook4
import HandS.EndBits
import KE.KStateDown
import HandS.ExcField
import KE.DataEq
import PyProof.StrOps2
import HandS.Codes
import HandS.Text
import HandS.Dict
import HandS.RaiseMore
import PyProof.InstNe
import HandS.HeadWalk
import HandS.Conv
import KE.GoesEnum
import PySem.Challenge.RW_lateststore_k51_few_rounds_counted
section
set_option Elab.async false
set_option linter.all false
set_option maxRecDepth 100000
set_option maxHeartbeats 4000000
/-! DL0: pure data, mutable cells, outcomes, what they stand for in the abstract heap. -/
namespace DL
open PySem L2

/-- pure data; cell n: a mutable thing with identity; exc: a caught exception -/
inductive D where
  | non | bl (b : Bool) | int (i : Int) | str (s : PySem.Str)
  | tup (xs : List D) | lst (xs : List D) | obj (c : Nat) (fs : List D)
  | dic (ks : List Key) (vs : List D)
  | cell (n : Nat) | exc (c : Nat) (ks : List Nat) (fs : List D)
inductive Cell where
  | lst (xs : List D) | ins (c : Nat) (ks : List Nat) (fs : List D) | dic (ks : List Key) (vs : List D) | gone
/-- names of attributes, addresses of classes, the attributes of a frozen object in order; the exception that a suite holds -/
structure Tab where
  nm : Nat → PySem.Str
  ca : Nat → Addr
  od : Nat → List Nat
  xi : Option (Addr × Value × Option Addr) := none
  tb : List (Addr × PySem.Str) := []

/-- a list that is read, its object known to the slots -/
def SqX (K : PySem.W.Frag) (H : Hp) (a : Addr) (xs : List V) : Prop :=
  Rd H a (.lst xs) ∨ ∃ (its : Array Value) (n : Nat), K.lookup a = some { cls := .type "list", data := .seq its n } ∧ its.size ≤ sizeLine ∧ Vals xs its.toList
theorem SqX.l {K : PySem.W.Frag} {H : Hp} {a : Addr} {xs : List V} (h : SqX K H a xs) : SqL K H a xs := by
  rcases h with h | ⟨its, n, h1, h2, h3⟩
  · exact .inl h
  · exact .inr ⟨_, its, n, h1, rfl, rfl, rfl, h2, h3⟩
theorem SqX.of {K : PySem.W.Frag} {H : Hp} {a : Addr} {xs : List V} (h : H a = some (.lst xs)) : SqX K H a xs := .inl (.inl h)
theorem SqX.same {K : PySem.W.Frag} {I I' : Hp} {a : Addr} {vs : List V} (s : Same I I') (h : SqX K I a vs) : SqX K I' a vs := by
  rcases h with (h | ⟨o, h⟩) | h
  · exact .inl (.inl (s _ _ h))
  · exact .inl (.inr ⟨o, s _ _ h⟩)
  · exact .inr h
theorem SqX.lst {X : Cx} {pins : List (Addr × Obj)} {σ : St} {H : Hp} {s : Shared} {a : Addr} {xs : List V} (I : Inv X pins σ H s) (h : SqX X.K H a xs) :
    xs.length ≤ sizeLine ∧ ∃ (its : List Value) (n : Nat), Vals xs its ∧ xs.length = its.length ∧ s.heap.get? a = some { cls := .type "list", data := .seq its.toArray n } := by
  rcases h with h | ⟨its, n, h1, h2, h3⟩
  · obtain ⟨z, its, n, r, e⟩ := h.ok I.hok
    exact ⟨z, its, n, r, r.length, e⟩
  · refine ⟨?_, its.toList, n, h3, h3.length, ?_⟩
    · have e := h3.length
      simp only [Array.length_toList] at e
      omega
    · have e := I.kIn a _ h1
      simpa using e

mutual
def Rp (T : Tab) (K : PySem.W.Frag) (I : Hp) (m : List Addr) : D → V → Prop
  | .non, v => v = .non
  | .bl b, v => v = .bl b
  | .int i, v => v = .int i
  | .str s, v => v = .str s
  | .tup ds, v => ∃ a vs, v = .ref a ∧ SqT K I a vs ∧ RpL T K I m ds vs
  | .lst ds, v => ∃ a vs, v = .ref a ∧ SqX K I a vs ∧ RpL T K I m ds vs
  | .obj c ds, v => ∃ (a dx : Addr) (gs : List (PySem.Str × V)), v = .ref a ∧ I a = some (.ins (T.ca c) dx gs) ∧ gs.map (·.1) = (T.od c).map T.nm ∧ RpL T K I m ds (gs.map (·.2))
  | .dic ks ds, v => ∃ (a : Addr) (kvs : List (Key × V)), v = .ref a ∧ Rd I a (.dK kvs) ∧ kvs.map (·.1) = ks ∧ RpL T K I m ds (kvs.map (·.2))
  | .cell n, v => ∃ a, m[n]? = some a ∧ v = .ref a
  | .exc c ks ds, v => ∃ (a : Addr) (od : Option Addr), T.xi = some (a, .ref (T.ca c), od) ∧ v = .ref a ∧
      ((od = none ∧ ks = [] ∧ ds = []) ∨ ∃ (d : Addr) (gs : List (PySem.Str × V)), od = some d ∧ I d = some (.xd gs) ∧ gs.map (·.1) = ks.map T.nm ∧ RpL T K I m ds (gs.map (·.2)))
def RpL (T : Tab) (K : PySem.W.Frag) (I : Hp) (m : List Addr) : List D → List V → Prop
  | [], vs => vs = []
  | d :: ds, vs => ∃ v r, vs = v :: r ∧ Rp T K I m d v ∧ RpL T K I m ds r
end

/-! ### limits, as words that nothing computes -/
def fits (n : Nat) : Prop := n ≤ sizeLine
def fitsL (n : Nat) : Prop := n < sizeLine
def in63 (k : Int) : Prop := -(2 ^ 63) ≤ k ∧ k < 2 ^ 63
def in63F (k : Int) (n : Nat) : Prop := -(2 ^ 63) ≤ k ∧ k < 2 ^ 63 ∧ n ≤ sizeLine
def in62 (i : Int) : Prop := -(2 ^ 62) ≤ i ∧ i < 2 ^ 62
def lo63 (k : Int) : Prop := -(2 ^ 63) ≤ k
def hi63 (k : Int) : Prop := k < 2 ^ 63
def hi63F (k : Int) (n : Nat) : Prop := k < 2 ^ 63 ∧ n ≤ sizeLine
def repOk (xs : List D) (k : Int) : Prop := xs ≠ [] ∧ 2 ≤ k ∧ k ≤ 1000 ∧ xs.length ≤ 1000
def few (n : Nat) : Prop := n < 1000
def le640 (n : Nat) : Prop := n ≤ 640
theorem limBig : (sizeLine : Nat) = 16777216 := by decide
theorem fits_of {n : Nat} (h : n ≤ 1000000) : fits n := by unfold fits; rw [limBig]; omega
theorem fitsL_of {n : Nat} (h : n ≤ 1000000) : fitsL n := by unfold fitsL; rw [limBig]; omega
theorem in63_of {k : Int} (h1 : -1000000000000 ≤ k) (h2 : k ≤ 1000000000000) : in63 k := by unfold in63; omega
theorem in63F_of {k : Int} {n : Nat} (h1 : -1000000000000 ≤ k) (h2 : k ≤ 1000000000000) (h3 : n ≤ 1000000) : in63F k n := by unfold in63F; rw [limBig]; omega
theorem in62_of {k : Int} (h1 : -1000000000000 ≤ k) (h2 : k ≤ 1000000000000) : in62 k := by unfold in62; omega
theorem lo63_of {k : Int} (h1 : -1000000000000 ≤ k) : lo63 k := by unfold lo63; omega
theorem hi63_of {k : Int} (h1 : k ≤ 1000000000000) : hi63 k := by unfold hi63; omega
theorem hi63F_of {k : Int} {n : Nat} (h1 : k ≤ 1000000000000) (h3 : n ≤ 1000000) : hi63F k n := by unfold hi63F; rw [limBig]; omega
theorem few_of {n : Nat} (h : n ≤ 900) : few n := by unfold few; omega
theorem le640_of {n : Nat} (h : n ≤ 640) : le640 n := h
section
variable {T : Tab} {K : PySem.W.Frag} {I I' H H' : Hp} {m m' : List Addr}
theorem SqT.same {a : Addr} {vs : List V} (s : Same I I') (h : SqT K I a vs) : SqT K I' a vs := by
  rcases h with (h | ⟨o, h⟩) | h
  · exact .inl (.inl (s _ _ h))
  · exact .inl (.inr ⟨o, s _ _ h⟩)
  · exact .inr h
theorem Rd.same {a : Addr} {u : HO} (s : Same I I') (h : Rd I a u) : Rd I' a u := by
  rcases h with h | ⟨o, h⟩
  · exact .inl (s _ _ h)
  · exact .inr ⟨o, s _ _ h⟩
theorem pre_get {m m' : List Addr} {n : Nat} {a : Addr} (p : m <+: m') (h : m[n]? = some a) : m'[n]? = some a := by
  obtain ⟨r, rfl⟩ := p
  have hn : n < m.length := (List.getElem?_eq_some_iff.mp h).1
  rw [List.getElem?_append_left hn]; exact h
mutual
theorem Rp.mono (s : Same I I') (p : m <+: m') : ∀ {d : D} {v : V}, Rp T K I m d v → Rp T K I' m' d v
  | .non, _, h => h
  | .bl _, _, h => h
  | .int _, _, h => h
  | .str _, _, h => h
  | .tup ds, v, h => by
    unfold Rp at h ⊢
    obtain ⟨a, vs, e, q, r⟩ := h
    exact ⟨a, vs, e, SqT.same s q, RpL.mono s p r⟩
  | .lst ds, v, h => by
    unfold Rp at h ⊢
    obtain ⟨a, vs, e, q, r⟩ := h
    exact ⟨a, vs, e, SqX.same s q, RpL.mono s p r⟩
  | .obj c ds, v, h => by
    unfold Rp at h ⊢
    obtain ⟨a, dx, gs, e, q, k, r⟩ := h
    exact ⟨a, dx, gs, e, s _ _ q, k, RpL.mono s p r⟩
  | .dic ks ds, v, h => by
    unfold Rp at h ⊢
    obtain ⟨a, gs, e, q, k, r⟩ := h
    exact ⟨a, gs, e, Rd.same s q, k, RpL.mono s p r⟩
  | .cell n, v, h => by
    unfold Rp at h ⊢
    obtain ⟨a, e, q⟩ := h
    exact ⟨a, pre_get p e, q⟩
  | .exc c ks ds, v, h => by
    unfold Rp at h ⊢
    obtain ⟨a, od, e, q, r⟩ := h
    refine ⟨a, od, e, q, ?_⟩
    rcases r with r | ⟨d, gs, r1, r2, r3, r4⟩
    · exact .inl r
    · exact .inr ⟨d, gs, r1, s _ _ r2, r3, RpL.mono s p r4⟩
theorem RpL.mono (s : Same I I') (p : m <+: m') : ∀ {ds : List D} {vs : List V}, RpL T K I m ds vs → RpL T K I' m' ds vs
  | [], _, h => h
  | d :: ds, vs, h => by
    unfold RpL at h ⊢
    obtain ⟨v, r, e, q, k⟩ := h
    exact ⟨v, r, e, Rp.mono s p q, RpL.mono s p k⟩
end
end
end DL
end

section
set_option Elab.async false
set_option linter.all false
set_option maxRecDepth 100000
set_option maxHeartbeats 4000000
namespace DL
open PySem L2

section
variable {T : Tab} {K : PySem.W.Frag} {I I' H H' : Hp} {m m' : List Addr}
/-! ### lists of data -/
theorem RpL.length : ∀ {ds : List D} {vs : List V}, RpL T K I m ds vs → ds.length = vs.length
  | [], _, h => by unfold RpL at h; subst h; rfl
  | d :: ds, vs, h => by
    unfold RpL at h
    obtain ⟨v, r, rfl, _, k⟩ := h
    simp [RpL.length k]
theorem RpL.nil : RpL T K I m [] [] := by unfold RpL; rfl
theorem RpL.cons {d : D} {v : V} {ds : List D} {vs : List V} (h : Rp T K I m d v) (r : RpL T K I m ds vs) : RpL T K I m (d :: ds) (v :: vs) := by
  unfold RpL; exact ⟨v, vs, rfl, h, r⟩
theorem RpL.inv {d : D} {ds : List D} {vs : List V} (h : RpL T K I m (d :: ds) vs) : ∃ v r, vs = v :: r ∧ Rp T K I m d v ∧ RpL T K I m ds r := by
  unfold RpL at h; exact h
theorem RpL.inil {vs : List V} (h : RpL T K I m [] vs) : vs = [] := by unfold RpL at h; exact h
theorem RpL.get : ∀ {ds : List D} {vs : List V} {i : Nat} {d : D}, RpL T K I m ds vs → ds[i]? = some d → ∃ v, vs[i]? = some v ∧ Rp T K I m d v
  | [], _, _, _, _, e => by simp at e
  | d :: ds, vs, 0, x, h, e => by
    obtain ⟨v, r, rfl, q, k⟩ := h.inv
    simp at e; subst e
    exact ⟨v, rfl, q⟩
  | d :: ds, vs, i + 1, x, h, e => by
    obtain ⟨v, r, rfl, q, k⟩ := h.inv
    simpa using RpL.get (i := i) k (by simpa using e)
theorem RpL.getV {ds : List D} {vs : List V} {i : Nat} {v : V} (h : RpL T K I m ds vs) (e : vs[i]? = some v) : ∃ d, ds[i]? = some d ∧ Rp T K I m d v := by
  have hl := h.length
  have hi : i < vs.length := (List.getElem?_eq_some_iff.mp e).1
  have hd : ds[i]? = some (ds[i]'(by omega)) := by simp [hl, hi]
  obtain ⟨v', e', r⟩ := h.get hd
  rw [e] at e'; cases e'
  exact ⟨_, hd, r⟩
theorem RpL.append : ∀ {ds es : List D} {vs ws : List V}, RpL T K I m ds vs → RpL T K I m es ws → RpL T K I m (ds ++ es) (vs ++ ws)
  | [], _, _, _, h, k => by have e := h.inil; subst e; exact k
  | d :: ds, _, vs, _, h, k => by
    obtain ⟨v, r, rfl, q, h'⟩ := h.inv
    exact RpL.cons q (RpL.append h' k)
theorem RpL.one {d : D} {v : V} (h : Rp T K I m d v) : RpL T K I m [d] [v] := RpL.cons h RpL.nil
theorem RpL.set : ∀ {ds : List D} {vs : List V} {i : Nat} {d : D} {v : V}, RpL T K I m ds vs → Rp T K I m d v → RpL T K I m (ds.set i d) (vs.set i v)
  | [], _, _, _, _, h, _ => by have e := h.inil; subst e; exact h
  | x :: ds, vs, 0, d, v, h, k => by
    obtain ⟨w, r, rfl, q, h'⟩ := h.inv
    exact RpL.cons k h'
  | x :: ds, vs, i + 1, d, v, h, k => by
    obtain ⟨w, r, rfl, q, h'⟩ := h.inv
    exact RpL.cons q (RpL.set h' k)
theorem RpL.take : ∀ {ds : List D} {vs : List V} {n : Nat}, RpL T K I m ds vs → RpL T K I m (ds.take n) (vs.take n)
  | [], vs, n, h => by have e := h.inil; subst e; simp; exact h
  | x :: ds, vs, 0, h => by simp; exact RpL.nil
  | x :: ds, vs, n + 1, h => by
    obtain ⟨w, r, rfl, q, h'⟩ := h.inv
    exact RpL.cons q (RpL.take h')
theorem RpL.drop : ∀ {ds : List D} {vs : List V} {n : Nat}, RpL T K I m ds vs → RpL T K I m (ds.drop n) (vs.drop n)
  | [], vs, n, h => by have e := h.inil; subst e; simp; exact h
  | x :: ds, vs, 0, h => by simp; exact h
  | x :: ds, vs, n + 1, h => by
    obtain ⟨w, r, rfl, q, h'⟩ := h.inv
    simpa using RpL.drop (n := n) h'
theorem RpL.reverse {ds : List D} : ∀ {vs : List V}, RpL T K I m ds vs → RpL T K I m ds.reverse vs.reverse := by
  induction ds with
  | nil => intro vs h; have e := h.inil; subst e; exact h
  | cons d ds ih =>
    intro vs h
    obtain ⟨w, r, rfl, q, h'⟩ := h.inv
    simp only [List.reverse_cons]
    exact (ih h').append (RpL.one q)

/-! ### cells and states -/
def CellR (T : Tab) (K : PySem.W.Frag) (I : Hp) (m : List Addr) : Cell → HO → Prop
  | .lst ds, .lst vs => RpL T K I m ds vs
  | .ins c ks ds, .ins C _ gs => C = T.ca c ∧ gs.map (·.1) = ks.map T.nm ∧ RpL T K I m ds (gs.map (·.2))
  | .dic ks ds, .dK kvs => kvs.map (·.1) = ks ∧ RpL T K I m ds (kvs.map (·.2))
  | _, _ => False
theorem CellR.mono (s : Same I I') (p : m <+: m') {c : Cell} {o : HO} (h : CellR T K I m c o) : CellR T K I' m' c o := by
  cases c <;> cases o <;> first | exact h.elim | exact RpL.mono s p h | exact ⟨h.1, h.2.1, RpL.mono s p h.2.2⟩ | exact ⟨h.1, RpL.mono s p h.2⟩

/-- the state: I, the part that stays; m, where the cells stand -/
structure SR (T : Tab) (K : PySem.W.Frag) (I : Hp) (m : List Addr) (cs : List Cell) (H : Hp) : Prop where
  same : Same I H
  len : m.length = cs.length
  at_ : ∀ (n : Nat) (c : Cell), cs[n]? = some c → c ≠ .gone → ∃ a o, m[n]? = some a ∧ I a = none ∧ H a = some o ∧ CellR T K I m c o
  inj : ∀ (n n' : Nat) (c c' : Cell) (a : Addr), cs[n]? = some c → c ≠ .gone → cs[n']? = some c' → c' ≠ .gone → m[n]? = some a → m[n']? = some a → n = n'
  tabs : LamX.Tabs T.tb H
  ntb : T.tb ≠ [] → ∀ (a : Addr) (ps : Array Value), I a ≠ some (.tbl ps)
theorem CellR.plain {c : Cell} {o : HO} (h : CellR T K I m c o) : (∀ ps, o ≠ .tbl ps) ∧ ∀ f, o ≠ .ext f := by
  cases c <;> cases o <;> first | exact h.elim | exact ⟨(fun _ z => nomatch z), (fun _ z => nomatch z)⟩
theorem tabs_upd {tb : List (Addr × PySem.Str)} {p : Addr} {o o0 : HO} (t : LamX.Tabs tb H) (e : H p = some o0) (h1 : ∀ ps, o0 ≠ .tbl ps) (h2 : ∀ f, o0 ≠ .ext f) : LamX.Tabs tb (L2.upd H p o) := fun q hq => by
  obtain ⟨ps, a1, a2, a3⟩ := t q hq
  have ne : ∀ {b : Addr} {u : HO}, H b = some u → u ≠ o0 → b ≠ p := fun {b u} eb d z => by
    rw [z, e] at eb
    exact d (Option.some.inj eb).symm
  refine ⟨ps, by rw [upd_ne (ne a1 fun z => h1 ps z.symm)]; exact a1, a2, fun pos cv hc => ?_⟩
  obtain ⟨c, e1, e2⟩ := a3 pos cv hc
  exact ⟨c, e1, by rw [upd_ne (ne e2 fun z => h2 _ z.symm)]; exact e2⟩
/-- the slots -/
structure ER (T : Tab) (K : PySem.W.Frag) (I : Hp) (m : List Addr) (env : List (Option D)) (σ : St) : Prop where
  len : env.length = σ.length
  at_ : ∀ (i : Nat) (d : D), env[i]? = some (some d) → ∃ v, σ[i]? = some (some v) ∧ Rp T K I m d v
theorem ER.mono (s : Same I I') (p : m <+: m') {env : List (Option D)} {σ : St} (h : ER T K I m env σ) : ER T K I' m' env σ :=
  ⟨h.len, fun i d e => let ⟨v, e', r⟩ := h.at_ i d e; ⟨v, e', r.mono s p⟩⟩
theorem ER.set {env : List (Option D)} {σ : St} (h : ER T K I m env σ) {i : Nat} {d : D} {v : V} (r : Rp T K I m d v) : ER T K I m (env.set i (some d)) (σ.set i (some v)) := by
  refine ⟨by simp [h.len], fun j x e => ?_⟩
  by_cases hj : i = j
  · subst hj
    by_cases hi : i < env.length
    · rw [List.getElem?_set_self hi] at e
      cases e
      exact ⟨v, List.getElem?_set_self (by rw [← h.len]; exact hi), r⟩
    · rw [List.getElem?_eq_none (by simpa using hi)] at e; cases e
  · rw [List.getElem?_set_ne hj] at e
    rw [List.getElem?_set_ne hj]
    exact h.at_ j x e
theorem ER.forget {env : List (Option D)} {σ : St} (h : ER T K I m env σ) {i : Nat} : ER T K I m (env.set i none) σ := by
  refine ⟨by simp [h.len], fun j x e => ?_⟩
  by_cases hj : i = j
  · subst hj
    by_cases hi : i < env.length
    · rw [List.getElem?_set_self hi] at e; cases e
    · rw [List.getElem?_eq_none (by simpa using hi)] at e; cases e
  · rw [List.getElem?_set_ne hj] at e
    exact h.at_ j x e
theorem ER.setN {env : List (Option D)} {σ : St} (h : ER T K I m env σ) {i : Nat} {w : Option V} : ER T K I m (env.set i none) (σ.set i w) := by
  refine ⟨by simp [h.len], fun j x e => ?_⟩
  by_cases hj : i = j
  · subst hj
    by_cases hi : i < env.length
    · rw [List.getElem?_set_self hi] at e; cases e
    · rw [List.getElem?_eq_none (by simpa using hi)] at e; cases e
  · rw [List.getElem?_set_ne hj] at e
    rw [List.getElem?_set_ne hj]
    exact h.at_ j x e

theorem Same.upd {p : Addr} {o : HO} (s : Same I H) (h : H p = none) : Same (upd I p o) (upd H p o) := fun b u e => by
  by_cases hb : b = p
  · subst hb; rw [upd_same] at e ⊢; exact e
  · rw [upd_ne hb] at e ⊢; exact s b u e
theorem Same.updR {p : Addr} {o : HO} (s : Same I H) (h : I p = none) : Same I (L2.upd H p o) := fun b u e => by
  have hb : b ≠ p := ne_of_none e h
  rw [upd_ne hb]; exact s b u e
theorem Same.updI {p : Addr} {o : HO} (h : I p = none) : Same I (L2.upd I p o) := fun b u e => by
  have hb : b ≠ p := ne_of_none e h
  rw [upd_ne hb]; exact e
/-- a new thing that stays -/
theorem SR.newI {cs : List Cell} {p : Addr} {o : HO} (s : SR T K I m cs H) (h : H p = none) (ho : ∀ ps, o ≠ .tbl ps := by intro _ z; cases z) : SR T K (L2.upd I p o) m cs (L2.upd H p o) ∧ Same I (L2.upd I p o) := by
  have hI : I p = none := s.same.free h
  refine ⟨⟨Same.upd s.same h, s.len, fun n c e l => ?_, s.inj, s.tabs.ext fun b u e => by rw [upd_ne (ne_of_none e h)]; exact e, fun ht b ps e => ?_⟩, Same.updI hI⟩
  rotate_left
  · by_cases hb : b = p
    · subst hb; rw [upd_same] at e; exact ho ps (Option.some.inj e)
    · rw [upd_ne hb] at e; exact s.ntb ht b ps e
  obtain ⟨a, u, e1, e2, e3, e4⟩ := s.at_ n c e l
  have hb : a ≠ p := ne_of_none e3 h
  exact ⟨a, u, e1, by rw [upd_ne hb]; exact e2, by rw [upd_ne hb]; exact e3, e4.mono (Same.updI hI) (List.prefix_refl _)⟩
theorem live_len {cs : List Cell} {n : Nat} {c : Cell} (e : cs[n]? = some c) : n < cs.length := (List.getElem?_eq_some_iff.mp e).1
/-- a new cell -/
theorem SR.newC {cs : List Cell} {p : Addr} {o : HO} {c : Cell} (s : SR T K I m cs H) (h : H p = none) (r : CellR T K I m c o) : SR T K I (m ++ [p]) (cs ++ [c]) (L2.upd H p o) := by
  have hI : I p = none := s.same.free h
  have old : ∀ {n : Nat} {x : Cell}, (cs ++ [c])[n]? = some x → n < cs.length → cs[n]? = some x := fun {n x} e hn => by rw [List.getElem?_append_left hn] at e; exact e
  have notP : ∀ {n : Nat} {x : Cell} {a : Addr}, cs[n]? = some x → x ≠ .gone → m[n]? = some a → a ≠ p := fun {n x a} e l ea q => by
    obtain ⟨a', u, e1, e2, e3, e4⟩ := s.at_ n x e l
    rw [ea] at e1; cases e1
    rw [q, h] at e3; cases e3
  have mold : ∀ {n : Nat}, n < cs.length → (m ++ [p])[n]? = m[n]? := fun {n} hn => List.getElem?_append_left (by rw [s.len]; exact hn)
  have mnew : (m ++ [p])[cs.length]? = some p := by rw [← s.len]; simp
  have new : ∀ {n : Nat} {x : Cell}, (cs ++ [c])[n]? = some x → ¬ n < cs.length → n = cs.length ∧ x = c := fun {n x} e hn => by
    have hn' := live_len e
    simp at hn'
    have : n = cs.length := by omega
    subst this
    simp at e
    exact ⟨rfl, e.symm⟩
  refine ⟨Same.updR s.same hI, by simp [s.len], fun n x e l => ?_, fun n n' x x' a e l e' l' ea ea' => ?_, s.tabs.ext fun b u e => by rw [upd_ne (ne_of_none e h)]; exact e, s.ntb⟩
  · by_cases hn : n < cs.length
    · obtain ⟨a, u, e1, e2, e3, e4⟩ := s.at_ n x (old e hn) l
      have hb : a ≠ p := notP (old e hn) l e1
      exact ⟨a, u, by rw [mold hn]; exact e1, e2, by rw [upd_ne hb]; exact e3, e4.mono (Same.refl I) (List.prefix_append _ _)⟩
    · obtain ⟨rfl, rfl⟩ := new e hn
      exact ⟨p, o, mnew, hI, upd_same, r.mono (Same.refl I) (List.prefix_append _ _)⟩
  · by_cases hn : n < cs.length
    · by_cases hn' : n' < cs.length
      · rw [mold hn] at ea; rw [mold hn'] at ea'
        exact s.inj n n' x x' a (old e hn) l (old e' hn') l' ea ea'
      · obtain ⟨rfl, rfl⟩ := new e' hn'
        rw [mold hn] at ea
        rw [mnew] at ea'
        cases ea'
        exact absurd rfl (notP (old e hn) l ea)
    · obtain ⟨rfl, rfl⟩ := new e hn
      by_cases hn' : n' < cs.length
      · rw [mold hn'] at ea'
        rw [mnew] at ea
        cases ea
        exact absurd rfl (notP (old e' hn') l' ea')
      · exact (new e' hn').1.symm
/-- a cell is written -/
theorem SR.setC {cs : List Cell} {n : Nat} {p : Addr} {o : HO} {c c0 : Cell} (s : SR T K I m cs H) (e0 : cs[n]? = some c0) (l0 : c0 ≠ .gone) (hp : m[n]? = some p) (r : CellR T K I m c o) : SR T K I m (cs.set n c) (L2.upd H p o) := by
  obtain ⟨p', u0, q1, q2, q3, q4⟩ := s.at_ n c0 e0 l0
  rw [hp] at q1; cases q1
  have hn : n < cs.length := live_len e0
  have at' : ∀ {k : Nat} {x : Cell}, (cs.set n c)[k]? = some x → (k = n ∧ x = c) ∨ (k ≠ n ∧ cs[k]? = some x) := fun {k x} e => by
    by_cases hk : n = k
    · subst hk
      rw [List.getElem?_set_self hn] at e; cases e
      exact .inl ⟨rfl, rfl⟩
    · rw [List.getElem?_set_ne hk] at e
      exact .inr ⟨fun q => hk q.symm, e⟩
  refine ⟨Same.updR s.same q2, by simp [s.len], fun k x e l => ?_, fun k k' x x' a e l e' l' ea ea' => ?_, tabs_upd s.tabs q3 q4.plain.1 q4.plain.2, s.ntb⟩
  · rcases at' e with ⟨rfl, rfl⟩ | ⟨hk, e⟩
    · exact ⟨p, o, hp, q2, upd_same, r⟩
    · obtain ⟨a, u, e1, e2, e3, e4⟩ := s.at_ k x e l
      have hb : a ≠ p := fun q => hk (s.inj k n x c0 p e l e0 l0 (q ▸ e1) hp)
      exact ⟨a, u, e1, e2, by rw [upd_ne hb]; exact e3, e4⟩
  · have liv : ∀ {k : Nat} {x : Cell}, (cs.set n c)[k]? = some x → x ≠ .gone → ∃ y, cs[k]? = some y ∧ y ≠ .gone := fun {k x} e l => by
      rcases at' e with ⟨rfl, rfl⟩ | ⟨_, e⟩
      · exact ⟨_, e0, l0⟩
      · exact ⟨_, e, l⟩
    obtain ⟨y, h1, h2⟩ := liv e l
    obtain ⟨y', h3, h4⟩ := liv e' l'
    exact s.inj k k' y y' a h1 h2 h3 h4 ea ea'
/-- a cell is frozen: its object joins what stays -/
theorem SR.frz {cs : List Cell} {n : Nat} {p : Addr} {o : HO} {c0 : Cell} (s : SR T K I m cs H) (e0 : cs[n]? = some c0) (l0 : c0 ≠ .gone) (hp : m[n]? = some p) (ho : H p = some o) : SR T K (L2.upd I p o) m (cs.set n .gone) H ∧ Same I (L2.upd I p o) := by
  obtain ⟨p', u0, q1, q2, q3, q4⟩ := s.at_ n c0 e0 l0
  rw [hp] at q1; cases q1
  have hn : n < cs.length := live_len e0
  have at' : ∀ {k : Nat} {x : Cell}, (cs.set n .gone)[k]? = some x → x ≠ .gone → k ≠ n ∧ cs[k]? = some x := fun {k x} e l => by
    by_cases hk : n = k
    · subst hk
      rw [List.getElem?_set_self hn] at e; cases e
      exact absurd rfl l
    · rw [List.getElem?_set_ne hk] at e
      exact ⟨fun q => hk q.symm, e⟩
  refine ⟨⟨fun b u e => ?_, by simp [s.len], fun k x e l => ?_, fun k k' x x' a e l e' l' ea ea' => ?_, s.tabs, fun ht b ps e => ?_⟩, Same.updI q2⟩
  rotate_left 3
  · by_cases hb : b = p
    · subst hb; rw [upd_same] at e
      rw [q3] at ho
      cases ho
      exact q4.plain.1 ps (Option.some.inj e)
    · rw [upd_ne hb] at e; exact s.ntb ht b ps e
  · by_cases hb : b = p
    · subst hb; rw [upd_same] at e; rw [← e]; exact ho
    · rw [upd_ne hb] at e; exact s.same b u e
  · obtain ⟨hk, e⟩ := at' e l
    obtain ⟨a, u, e1, e2, e3, e4⟩ := s.at_ k x e l
    have hb : a ≠ p := fun q => hk (s.inj k n x c0 p e l e0 l0 (q ▸ e1) hp)
    exact ⟨a, u, e1, by rw [upd_ne hb]; exact e2, e3, e4.mono (Same.updI q2) (List.prefix_refl _)⟩
  · obtain ⟨hk, e⟩ := at' e l
    obtain ⟨hk', e'⟩ := at' e' l'
    exact s.inj k k' x x' a e l e' l' ea ea'
/-- a cell is let go -/
theorem SR.drop1 {cs : List Cell} {n : Nat} (s : SR T K I m cs H) : SR T K I m (cs.set n .gone) H := by
  have at' : ∀ {k : Nat} {x : Cell}, (cs.set n .gone)[k]? = some x → x ≠ .gone → cs[k]? = some x := fun {k x} e l => by
    by_cases hk : n = k
    · subst hk
      by_cases hn : n < cs.length
      · rw [List.getElem?_set_self hn] at e; cases e
        exact absurd rfl l
      · rw [List.getElem?_eq_none (by simpa using hn)] at e; cases e
    · rw [List.getElem?_set_ne hk] at e
      exact e
  exact ⟨s.same, by simp [s.len], fun k x e l => s.at_ k x (at' e l) l, fun k k' x x' a e l e' l' ea ea' => s.inj k k' x x' a (at' e l) l (at' e' l') l' ea ea', s.tabs, s.ntb⟩

/-! ### data without cells from n on; cells let go at a call's end -/
mutual
def D.lt (n : Nat) : D → Bool
  | .tup ds => D.ltL n ds
  | .lst ds => D.ltL n ds
  | .obj _ ds => D.ltL n ds
  | .dic _ ds => D.ltL n ds
  | .cell k => decide (k < n)
  | .exc _ _ ds => D.ltL n ds
  | _ => true
def D.ltL (n : Nat) : List D → Bool
  | [] => true
  | d :: ds => D.lt n d && D.ltL n ds
end
mutual
theorem Rp.cut {n : Nat} : ∀ {d : D} {v : V}, D.lt n d = true → Rp T K I m d v → Rp T K I (m.take n) d v
  | .non, _, _, h => h
  | .bl _, _, _, h => h
  | .int _, _, _, h => h
  | .str _, _, _, h => h
  | .tup ds, v, l, h => by
    unfold Rp at h ⊢; unfold D.lt at l
    obtain ⟨a, vs, e, q, r⟩ := h
    exact ⟨a, vs, e, q, RpL.cut l r⟩
  | .lst ds, v, l, h => by
    unfold Rp at h ⊢; unfold D.lt at l
    obtain ⟨a, vs, e, q, r⟩ := h
    exact ⟨a, vs, e, q, RpL.cut l r⟩
  | .obj c ds, v, l, h => by
    unfold Rp at h ⊢; unfold D.lt at l
    obtain ⟨a, dx, gs, e, q, k, r⟩ := h
    exact ⟨a, dx, gs, e, q, k, RpL.cut l r⟩
  | .dic ks ds, v, l, h => by
    unfold Rp at h ⊢; unfold D.lt at l
    obtain ⟨a, gs, e, q, k, r⟩ := h
    exact ⟨a, gs, e, q, k, RpL.cut l r⟩
  | .cell k, v, l, h => by
    unfold Rp at h ⊢
    obtain ⟨a, e, q⟩ := h
    unfold D.lt at l
    have hk : k < n := of_decide_eq_true l
    exact ⟨a, by rw [List.getElem?_take_of_lt hk]; exact e, q⟩
  | .exc c ks ds, v, l, h => by
    unfold Rp at h ⊢; unfold D.lt at l
    obtain ⟨a, od, e, q, r⟩ := h
    refine ⟨a, od, e, q, ?_⟩
    rcases r with r | ⟨d, gs, r1, r2, r3, r4⟩
    · exact .inl r
    · exact .inr ⟨d, gs, r1, r2, r3, RpL.cut l r4⟩
theorem RpL.cut {n : Nat} : ∀ {ds : List D} {vs : List V}, D.ltL n ds = true → RpL T K I m ds vs → RpL T K I (m.take n) ds vs
  | [], _, _, h => by have e := h.inil; subst e; exact RpL.nil
  | d :: ds, vs, l, h => by
    unfold D.ltL at l
    obtain ⟨l1, l2⟩ := Bool.and_eq_true_iff.mp l
    obtain ⟨v, r, rfl, q, k⟩ := h.inv
    exact RpL.cons (Rp.cut l1 q) (RpL.cut l2 k)
end
/-- every live cell below n speaks of cells below n alone -/
def Cell.lt (n : Nat) : Cell → Bool
  | .lst ds => D.ltL n ds
  | .ins _ _ ds => D.ltL n ds
  | .dic _ ds => D.ltL n ds
  | .gone => true
theorem CellR.cut {n : Nat} {c : Cell} {o : HO} (l : c.lt n = true) (h : CellR T K I m c o) : CellR T K I (m.take n) c o := by
  cases c <;> cases o <;> first | exact h.elim | exact RpL.cut l h | exact ⟨h.1, h.2.1, RpL.cut l h.2.2⟩ | exact ⟨h.1, RpL.cut l h.2⟩
theorem SR.cut {cs : List Cell} {n : Nat} (s : SR T K I m cs H) (l : ((cs.take n).all (Cell.lt n)) = true) : SR T K I (m.take n) (cs.take n) H := by
  have at' : ∀ {k : Nat} {x : Cell}, (cs.take n)[k]? = some x → k < n ∧ cs[k]? = some x := fun {k x} e => by
    have hk := live_len e
    rw [List.length_take] at hk
    have hk : k < n := by omega
    rw [List.getElem?_take_of_lt hk] at e
    exact ⟨hk, e⟩
  refine ⟨s.same, by simp [s.len], fun k x e l' => ?_, fun k k' x x' a e l1 e' l2 ea ea' => ?_, s.tabs, s.ntb⟩
  · obtain ⟨hk, e'⟩ := at' e
    obtain ⟨a, u, e1, e2, e3, e4⟩ := s.at_ k x e' l'
    exact ⟨a, u, by rw [List.getElem?_take_of_lt hk]; exact e1, e2, e3, e4.cut (List.all_eq_true.mp l x (List.mem_of_getElem? e))⟩
  · obtain ⟨hk, e1⟩ := at' e
    obtain ⟨hk', e2⟩ := at' e'
    rw [List.getElem?_take_of_lt hk] at ea
    rw [List.getElem?_take_of_lt hk'] at ea'
    exact s.inj k k' x x' a e1 l1 e2 l2 ea ea'
end

/-! ### outcomes -/
inductive Out (α : Type) where
  | ok (a : α) (cs : List Cell)
  | exn (c : Nat) (ks : List Nat) (fs : List D) (cs : List Cell)
  | no
def Out.bind {α β : Type} (x : Out α) (k : α → List Cell → Out β) : Out β := match x with
  | .ok a cs => k a cs
  | .exn c ks fs cs => .exn c ks fs cs
  | .no => .no
def ExR (T : Tab) (K : PySem.W.Frag) (I : Hp) (m : List Addr) (c : Nat) (ks : List Nat) (fs : List D) (cls : Value) (od : Option Addr) : Prop :=
  cls = .ref (T.ca c) ∧ ((od = none ∧ ks = [] ∧ fs = []) ∨ ∃ (d : Addr) (gs : List (PySem.Str × V)), od = some d ∧ I d = some (.xd gs) ∧ gs.map (·.1) = ks.map T.nm ∧ RpL T K I m fs (gs.map (·.2)))
theorem ExR.mono {T : Tab} {K : PySem.W.Frag} {I I' : Hp} {m m' : List Addr} (s : Same I I') (p : m <+: m') {c : Nat} {ks : List Nat} {fs : List D} {cls : Value} {od : Option Addr} (h : ExR T K I m c ks fs cls od) : ExR T K I' m' c ks fs cls od := by
  refine ⟨h.1, ?_⟩
  rcases h.2 with r | ⟨d, gs, r1, r2, r3, r4⟩
  · exact .inl r
  · exact .inr ⟨d, gs, r1, s _ _ r2, r3, RpL.mono s p r4⟩
/-- what is wanted of an outcome -/
def OutG {α β : Type} (T : Tab) (K : PySem.W.Frag) (R : Hp → List Addr → α → β → Prop) (I : Hp) (m : List Addr) (o : Out α) (Q : β → Hp → Prop) (E : XK) : Prop := match o with
  | .ok d cs => ∀ v H' I' m', Same I I' → m <+: m' → SR T K I' m' cs H' → R I' m' d v → Q v H'
  | .exn c ks fs cs => ∀ cls od H' I' m', Same I I' → m <+: m' → SR T K I' m' cs H' → ExR T K I' m' c ks fs cls od → E cls od H'
  | .no => False
section
variable {T : Tab} {K : PySem.W.Frag} {I I' H H' : Hp} {m m' : List Addr} {α β γ δ : Type} {R : Hp → List Addr → α → β → Prop} {R2 : Hp → List Addr → γ → δ → Prop} {Q : δ → Hp → Prop} {E : XK}
theorem OutG.up {o : Out γ} (s : Same I I') (p : m <+: m') (h : OutG T K R2 I m o Q E) : OutG T K R2 I' m' o Q E := by
  cases o with
  | ok d cs => exact fun v H' I2 m2 s2 p2 => h v H' I2 m2 (s.trans s2) (p.trans p2)
  | exn c ks fs cs => exact fun cls od H' I2 m2 s2 p2 => h cls od H' I2 m2 (s.trans s2) (p.trans p2)
  | no => exact h
/-- the first of two steps -/
theorem OutG.bindI {x : Out α} {k : α → List Cell → Out γ} {Q1 : β → Hp → Prop} (h : OutG T K R2 I m (x.bind k) Q E)
    (hk : ∀ a cs v H1 I1 m1, Same I I1 → m <+: m1 → SR T K I1 m1 cs H1 → R I1 m1 a v → OutG T K R2 I1 m1 (k a cs) Q E → Q1 v H1) : OutG T K R I m x Q1 E := by
  cases x with
  | ok d cs => exact fun v H' I2 m2 s2 p2 sr r => hk d cs v H' I2 m2 s2 p2 sr r (OutG.up s2 p2 h)
  | exn c ks fs cs => exact h
  | no => exact h
/-- the last step -/
theorem OutG.okI {a : γ} {cs : List Cell} {v : δ} (h : OutG T K R2 I m (.ok a cs) Q E) (sr : SR T K I m cs H) (r : R2 I m a v) : Q v H := h v H I m (Same.refl I) (List.prefix_refl _) sr r
theorem OutG.ok1 {a : γ} {cs : List Cell} {v : δ} (h : OutG T K R2 I m (.ok a cs) Q E) (s : Same I I') (sr : SR T K I' m cs H) (r : R2 I' m a v) : Q v H := h v H I' m s (List.prefix_refl _) sr r
end
abbrev Env := List (Option D)
abbrev Den (α : Type) := Env → List Cell → Out α
/-- the one reading -/
def tG {α β : Type} (T : Tab) (K : PySem.W.Frag) (W : WX) (R : Hp → List Addr → α → β → Prop) (f : Den α) : St → Hp → (β → Hp → Prop) → Prop := fun σ H Q =>
  ∃ I m cs env, ER T K I m env σ ∧ SR T K I m cs H ∧ OutG T K R I m (f env cs) Q (fun cls od H' => W cls od σ H')
abbrev RD (T : Tab) (K : PySem.W.Frag) : Hp → List Addr → D → V → Prop := fun I m => Rp T K I m
abbrev RL (T : Tab) (K : PySem.W.Frag) : Hp → List Addr → List D → List V → Prop := fun I m => RpL T K I m
abbrev RB : Hp → List Addr → Bool → Bool → Prop := fun _ _ a b => a = b
def DE (X : Cx) (T : Tab) (W : WX) (e : Expr) (f : Den D) : Prop := PE X e (tG T X.K W (RD T X.K) f)
def DA (X : Cx) (T : Tab) (W : WX) (es : List Expr) (f : Den (List D)) : Prop := PA X es (tG T X.K W (RL T X.K) f)
def DT (X : Cx) (T : Tab) (W : WX) (e : Expr) (f : Den Bool) : Prop := PT X e (tG T X.K W RB f)
def DW (X : Cx) (T : Tab) (W : WX) (e : Expr) (f : Den Bool) : Prop := PW X e (tG T X.K W RB f)

theorem PE.imp {X : Cx} {e : Expr} {t t' : TE} (h : PE X e t) (i : ∀ σ H Q, t' σ H Q → t σ H Q) : PE X e t' := ⟨fun pins s σ H Q I q => h.run pins s σ H Q I (i σ H Q q)⟩
theorem PT.imp {X : Cx} {e : Expr} {t t' : TT} (h : PT X e t) (i : ∀ σ H Q, t' σ H Q → t σ H Q) : PT X e t' := ⟨fun pins s σ H Q I q => h.run pins s σ H Q I (i σ H Q q)⟩
theorem PW.imp {X : Cx} {e : Expr} {t t' : TT} (h : PW X e t) (i : ∀ σ H Q, t' σ H Q → t σ H Q) : PW X e t' := ⟨fun wh pins s σ H Q I q => h.run wh pins s σ H Q I (i σ H Q q)⟩
theorem PA.imp {X : Cx} {es : List Expr} {t t' : TA} (h : PA X es t) (i : ∀ σ H Q, t' σ H Q → t σ H Q) : PA X es t' := ⟨fun pos pins s σ H Q I q => h.run pos pins s σ H Q I (i σ H Q q)⟩
theorem PS.imp {X : Cx} {st : Stmt} {t t' : TS} (h : PS X st t) (i : ∀ D σ H, t' D σ H → t D σ H) : PS X st t' := ⟨fun pins s σ H D I q => h.run pins s σ H D I (i D σ H q)⟩
theorem PSs.imp {X : Cx} {st : List Stmt} {t t' : TS} (h : PSs X st t) (i : ∀ D σ H, t' D σ H → t D σ H) : PSs X st t' := ⟨fun pins s σ H D I q => h.run pins s σ H D I (i D σ H q)⟩
end DL
end

section
set_option Elab.async false
set_option linter.all false
set_option maxRecDepth 100000
set_option maxHeartbeats 4000000
namespace DL
open PySem L2
open Classical
noncomputable section

/-! ### ints whose size an operation minds -/
def smallI (i : Int) : Prop := -(2 ^ 64) < i ∧ i < 2 ^ 64
def CMulX (i j : Int) : Prop := CMul i j ∨ CMulW i j
theorem op_mulX {X : Cx} : OpR X (binaryOp .Mult) (fun x y H Q => ∃ i j, x = .int i ∧ y = .int j ∧ CMulX i j ∧ Q (.int (i * j)) H) := by
  intro pins s σ H x y v u Q I rx ry h
  obtain ⟨i, j, rfl, rfl, hc, q⟩ := h
  rcases hc with hc | hc
  · exact op_mul pins s σ H _ _ v u Q I rx ry ⟨i, j, rfl, rfl, hc, q⟩
  · exact op_mulW pins s σ H _ _ v u Q I rx ry ⟨i, j, rfl, rfl, hc, q⟩
def CDivX (i j : Int) : Prop := CDiv i j ∨ CDivW i j
theorem op_fdivX {X : Cx} : OpR X (binaryOp .FloorDiv) (fun x y H Q => ∃ i j, x = .int i ∧ y = .int j ∧ CDivX i j ∧ Q (.int (i / j)) H) := by
  intro pins s σ H x y v u Q I rx ry h
  obtain ⟨i, j, rfl, rfl, hc, q⟩ := h
  rcases hc with hc | hc
  · exact op_fdiv pins s σ H _ _ v u Q I rx ry ⟨i, j, rfl, rfl, hc, q⟩
  · exact op_fdivW pins s σ H _ _ v u Q I rx ry ⟨i, j, rfl, rfl, hc, q⟩

section
variable {X : Cx} {T : Tab} {W : WX} {a b c e : Expr} {es : List Expr} {pos : Pos}

/-! ### names, constants -/
def dVar (i : Nat) : Den D := fun env cs => match env[i]? with
  | some (some d) => .ok d cs
  | _ => .no
theorem de_var {i : Nat} {x : Str} (h : PE X (.Name x pos) (tVar i)) : DE X T W (.Name x pos) (dVar i) := by
  refine PE.imp h fun σ H Q ⟨I, m, cs, env, er, sr, h⟩ => ?_
  unfold dVar at h
  cases he : env[i]? with
  | none => rw [he] at h; exact h.elim
  | some o =>
    cases o with
    | none => rw [he] at h; exact h.elim
    | some d =>
      rw [he] at h
      obtain ⟨v, e, r⟩ := er.at_ i d he
      exact ⟨v, e, OutG.okI h sr r⟩
def dC (d : D) : Den D := fun _ cs => .ok d cs
theorem de_c {e : Expr} {v : V} {d : D} (h : PE X e (tC v)) (r : ∀ I m, Rp T X.K I m d v) : DE X T W e (dC d) :=
  PE.imp h fun σ H Q ⟨I, m, cs, env, er, sr, h⟩ => OutG.okI h sr (r I m)
theorem de_int {i : Int} {j} : DE X T W (.Constant (.int i) j pos) (dC (.int i)) := de_c pe_int fun I m => by unfold Rp; rfl
theorem de_bl {i : Bool} {j} : DE X T W (.Constant (.bool i) j pos) (dC (.bl i)) := de_c pe_bl fun I m => by unfold Rp; rfl
theorem de_str {i : Str} {j} : DE X T W (.Constant (.str i) j pos) (dC (.str i)) := de_c pe_str fun I m => by unfold Rp; rfl
theorem de_non {j} : DE X T W (.Constant .none j pos) (dC .non) := de_c pe_non fun I m => by unfold Rp; rfl
/-- a module's constant -/
theorem de_gint {x : Str} {i : Int} (hg : Gl X x) (hm : ∃ t, X.mg x = some (.int i t)) (hd : (x == ("__debug__" : Str)) = false := by decide) : DE X T W (.Name x pos) (dC (.int i)) := by
  obtain ⟨t, hm⟩ := hm
  exact de_c (pe_glob hg hm (v := .int i) ⟨t, rfl⟩ hd) fun I m => by unfold Rp; rfl
theorem de_gstr {x : Str} {i : Str} (hg : Gl X x) (hm : ∃ t, X.mg x = some (.str i t)) (hd : (x == ("__debug__" : Str)) = false := by decide) : DE X T W (.Name x pos) (dC (.str i)) := by
  obtain ⟨t, hm⟩ := hm
  exact de_c (pe_glob hg hm (v := .str i) ⟨t, rfl⟩ hd) fun I m => by unfold Rp; rfl

/-! ### operators -/
def d2 (f g : Den D) (k : D → D → List Cell → Out D) : Den D := fun env cs => (f env cs).bind fun x cs => (g env cs).bind fun y cs => k x y cs
def d1 (f : Den D) (k : D → List Cell → Out D) : Den D := fun env cs => (f env cs).bind fun x cs => k x cs
/-- what an operation on data promises -/
abbrev Hk2 (T : Tab) (K : PySem.W.Frag) (r : R2) (k : D → D → List Cell → Out D) : Prop :=
  ∀ (I : Hp) (m : List Addr) (cs : List Cell) (H : Hp) (x y : D) (v u : V) (Q : VK) (E : XK), SR T K I m cs H → Rp T K I m x v → Rp T K I m y u → OutG T K (RD T K) I m (k x y cs) Q E → r v u H Q
theorem tOp_of {f g : Den D} {k : D → D → List Cell → Out D} {r : R2} (hk : Hk2 T X.K r k) {ta tb : TE} (ha : ta = tG T X.K W (RD T X.K) f) (hb : tb = tG T X.K W (RD T X.K) g) :
    ∀ σ H Q, tG T X.K W (RD T X.K) (d2 f g k) σ H Q → tOp r ta tb σ H Q := by
  subst ha hb
  rintro σ H Q ⟨I, m, cs, env, er, sr, h⟩
  refine ⟨I, m, cs, env, er, sr, OutG.bindI h fun x cs1 v H1 I1 m1 s1 p1 sr1 r1 h1 => ?_⟩
  refine ⟨I1, m1, cs1, env, er.mono s1 p1, sr1, OutG.bindI h1 fun y cs2 u H2 I2 m2 s2 p2 sr2 r2 h2 => ?_⟩
  exact hk I2 m2 cs2 H2 x y v u Q _ sr2 (r1.mono s2 p2) r2 h2
theorem de_op {op : Operator} {r : R2} {f g : Den D} {k : D → D → List Cell → Out D} (ho : OpR X (binaryOp op) r) (hk : Hk2 T X.K r k) (ha : DE X T W a f) (hb : DE X T W b g) : DE X T W (.BinOp a op b pos) (d2 f g k) :=
  PE.imp (pe_op ho ha hb) (tOp_of hk rfl rfl)
/-- a comparison: as a value (DC.e), as a test (DC.t) -/
def DC (X : Cx) (T : Tab) (W : WX) (op : CmpOp) (a b : Expr) (f : Den D) : Prop := PC X op a b (tG T X.K W (RD T X.K) f)
theorem PC.imp {op : CmpOp} {t t' : TE} (h : PC X op a b t) (i : ∀ σ H Q, t' σ H Q → t σ H Q) : PC X op a b t' := ⟨fun pins s σ H Q I q => h.run pins s σ H Q I (i σ H Q q)⟩
theorem dc_op {op : CmpOp} {r : R2} {f g : Den D} {k : D → D → List Cell → Out D} (ho : OpR X (compareOp op) r) (hk : Hk2 T X.K r k) (ha : DE X T W a f) (hb : DE X T W b g) : DC X T W op a b (d2 f g k) := by
  refine ⟨fun pins s σ H Q J h => ?_⟩
  exact bin (R := fun x y H2 => r x y H2 Q) ha hb J (tOp_of hk rfl rfl σ H Q h) fun v u s2 x y H2 I2 rx ry q => ho pins s2 σ H2 x y v u Q I2 rx ry q
theorem DC.ex {op : CmpOp} {f : Den D} (h : DC X T W op a b f) (hm : behindInMarks op b = false := by first | exact nomark _ | rfl) : DE X T W (.Compare a [op] [b] pos) f := pe_cmp h hm
def qB (f : Den D) : Den Bool := fun env cs => (f env cs).bind fun x cs => match x with
  | .bl b => .ok b cs
  | _ => .no
theorem rp_int {K : PySem.W.Frag} {I : Hp} {m : List Addr} {i : Int} {v : V} : Rp T K I m (.int i) v ↔ v = .int i := by unfold Rp; exact Iff.rfl
theorem rp_bl {K : PySem.W.Frag} {I : Hp} {m : List Addr} {i : Bool} {v : V} : Rp T K I m (.bl i) v ↔ v = .bl i := by unfold Rp; exact Iff.rfl
theorem rp_str {K : PySem.W.Frag} {I : Hp} {m : List Addr} {i : Str} {v : V} : Rp T K I m (.str i) v ↔ v = .str i := by unfold Rp; exact Iff.rfl
theorem rp_non {K : PySem.W.Frag} {I : Hp} {m : List Addr} {v : V} : Rp T K I m .non v ↔ v = .non := by unfold Rp; exact Iff.rfl
theorem rp_tup {K : PySem.W.Frag} {I : Hp} {m : List Addr} {ds : List D} {v : V} : Rp T K I m (.tup ds) v ↔ ∃ a vs, v = .ref a ∧ SqT K I a vs ∧ RpL T K I m ds vs := by unfold Rp; exact Iff.rfl
theorem rp_lst {K : PySem.W.Frag} {I : Hp} {m : List Addr} {ds : List D} {v : V} : Rp T K I m (.lst ds) v ↔ ∃ a vs, v = .ref a ∧ SqX K I a vs ∧ RpL T K I m ds vs := by unfold Rp; exact Iff.rfl
theorem rp_cell {K : PySem.W.Frag} {I : Hp} {m : List Addr} {n : Nat} {v : V} : Rp T K I m (.cell n) v ↔ ∃ a, m[n]? = some a ∧ v = .ref a := by unfold Rp; exact Iff.rfl

theorem DC.tt {op : CmpOp} {f : Den D} (h : DC X T W op a b f) (hm : behindInMarks op b = false := by first | exact nomark _ | rfl) : DT X T W (.Compare a [op] [b] pos) (qB f) := by
  refine PT.imp (pt_cmp h hm) ?_
  rintro σ H Q ⟨I, m, cs, env, er, sr, h⟩
  refine ⟨I, m, cs, env, er, sr, OutG.bindI h fun x cs1 v H1 I1 m1 s1 p1 sr1 r1 h1 => ?_⟩
  cases x with
  | bl b => exact ⟨b, rp_bl.mp r1, OutG.okI h1 sr1 rfl⟩
  | _ => exact h1.elim

/-- the items of a list or a tuple: of data, of a cell -/
def itemsL (cs : List Cell) : D → Option (List D)
  | .lst xs => some xs
  | .cell n => match cs[n]? with
    | some (.lst xs) => some xs
    | _ => none
  | _ => none
theorem itemsL_ok {K : PySem.W.Frag} {I H : Hp} {m : List Addr} {cs : List Cell} {d : D} {xs : List D} {v : V} (sr : SR T K I m cs H) (r : Rp T K I m d v) (h : itemsL cs d = some xs) : ∃ a vs, v = .ref a ∧ SqX K H a vs ∧ RpL T K I m xs vs := by
  cases d with
  | lst ds =>
    have e : ds = xs := Option.some.inj h
    subst e
    obtain ⟨a, vs, e, q, rl⟩ := rp_lst.mp r
    exact ⟨a, vs, e, SqX.same sr.same q, rl⟩
  | cell n =>
    obtain ⟨a, e1, e2⟩ := rp_cell.mp r
    unfold itemsL at h
    cases hc : cs[n]? with
    | none => simp [hc] at h
    | some c =>
      cases c with
      | lst ys =>
        simp only [hc] at h
        have e : ys = xs := Option.some.inj h
        subst e
        obtain ⟨a', o, q1, q2, q3, q4⟩ := sr.at_ n _ hc (by intro z; cases z)
        rw [e1] at q1; cases q1
        cases o with
        | lst vs => exact ⟨a, vs, e2, SqX.of q3, q4⟩
        | _ => exact q4.elim
      | _ => simp [hc] at h
  | _ => cases h
def itemsT : D → Option (List D)
  | .tup xs => some xs
  | _ => none
def itemsS (cs : List Cell) (d : D) : Option (List D) := match d with
  | .tup xs => some xs
  | d => itemsL cs d
theorem itemsS_ok {K : PySem.W.Frag} {I H : Hp} {m : List Addr} {cs : List Cell} {d : D} {xs : List D} {v : V} (sr : SR T K I m cs H) (r : Rp T K I m d v) (h : itemsS cs d = some xs) : ∃ a vs, v = .ref a ∧ (SqX K H a vs ∨ SqT K H a vs) ∧ RpL T K I m xs vs := by
  cases d with
  | tup ds =>
    have e : ds = xs := Option.some.inj h
    subst e
    obtain ⟨a, vs, e, q, rl⟩ := rp_tup.mp r
    exact ⟨a, vs, e, .inr (SqT.same sr.same q), rl⟩
  | _ =>
    obtain ⟨a, vs, e, q, rl⟩ := itemsL_ok sr r h
    exact ⟨a, vs, e, .inl q, rl⟩
theorem itemsL_S {cs : List Cell} {d : D} {xs : List D} (h : itemsL cs d = some xs) : itemsS cs d = some xs := by
  cases d <;> first | exact h | cases h

def asI : D → Option Int
  | .int i => some i
  | _ => none
def asS : D → Option Str
  | .str i => some i
  | _ => none
def asB : D → Option Bool
  | .bl i => some i
  | _ => none
theorem asI_ok {d : D} {i : Int} (h : asI d = some i) : d = .int i := by cases d <;> cases h; rfl
theorem asS_ok {d : D} {i : Str} (h : asS d = some i) : d = .str i := by cases d <;> cases h; rfl
theorem asB_ok {d : D} {i : Bool} (h : asB d = some i) : d = .bl i := by cases d <;> cases h; rfl
theorem itemsT_eq {d : D} {i : List D} (h : itemsT d = some i) : d = .tup i := by cases d <;> cases h; rfl
def both {α β : Type} (a : Option α) (b : Option β) : Option (α × β) := match a, b with
  | some x, some y => some (x, y)
  | _, _ => none
theorem both_ok {α β : Type} {a : Option α} {b : Option β} {p : α × β} (h : both a b = some p) : a = some p.1 ∧ b = some p.2 := by
  cases a <;> cases b <;> cases h
  exact ⟨rfl, rfl⟩
/-- + -/
def addD (x y : D) (cs : List Cell) : Out D := match both (asI x) (asI y) with
  | some (i, j) => .ok (.int (i + j)) cs
  | none => match both (asS x) (asS y) with
    | some (i, j) => if fits (i.length + j.length) then .ok (.str (i ++ j)) cs else .no
    | none => match both (itemsT x) (itemsT y) with
      | some (i, j) => if fits (i.length + j.length) then .ok (.tup (i ++ j)) cs else .no
      | none => match both (itemsL cs x) (itemsL cs y) with
        | some (i, j) => if fits (i.length + j.length) then .ok (.lst (i ++ j)) cs else .no
        | none => .no
end

/-- list + list, whatever kind of list may be read -/
theorem op_catL {X : Cx} : OpR X (binaryOp .Add) (fun x y H Q => ∃ l b xs zs, x = .ref l ∧ y = .ref b ∧ SqX X.K H l xs ∧ SqX X.K H b zs ∧ xs.length + zs.length ≤ sizeLine ∧ ∀ p, H p = none → Q (.ref p) (upd H p (.lst (xs ++ zs)))) := by
  intro pins s σ H x y v u Q I rx ry h
  obtain ⟨l, b, xs, zs, rfl, rfl, hH, hB, hz, q⟩ := h
  cases rx
  cases ry
  obtain ⟨z, its, n, r, hl, e⟩ := SqX.lst I hH
  obtain ⟨z2, its2, n2, r2, hl2, e2⟩ := SqX.lst I hB
  refine PySem.P.add_list e e2 ?_ (by rw [List.size_toArray, List.size_toArray]; omega)
  have ea : its.toArray ++ its2.toArray = (its ++ its2).toArray := by simp
  rw [ea]
  exact ⟨.ref _, _, I.lnew (t' := s.toks) (r.append r2) (by rw [List.length_append]; omega), rfl, q _ I.fresh⟩
section
variable {X : Cx} {T : Tab} {W : WX} {a b c e : Expr} {es : List Expr} {pos : Pos}
theorem rp_newL {K : PySem.W.Frag} {I H : Hp} {m : List Addr} {cs : List Cell} {ds : List D} {vs : List V} {p : Addr} {Q : VK} {E : XK} (sr : SR T K I m cs H) (hp : H p = none) (r : RpL T K I m ds vs) (h : OutG T K (RD T K) I m (.ok (.lst ds) cs) Q E) : Q (.ref p) (upd H p (.lst vs)) := by
  obtain ⟨s1, s2⟩ := sr.newI (o := .lst vs) hp
  exact h.ok1 s2 s1 (rp_lst.mpr ⟨p, vs, rfl, SqX.of upd_same, RpL.mono s2 (List.prefix_refl _) r⟩)
theorem rp_newT {K : PySem.W.Frag} {I H : Hp} {m : List Addr} {cs : List Cell} {ds : List D} {vs : List V} {p : Addr} {Q : VK} {E : XK} (sr : SR T K I m cs H) (hp : H p = none) (r : RpL T K I m ds vs) (h : OutG T K (RD T K) I m (.ok (.tup ds) cs) Q E) : Q (.ref p) (upd H p (.tup vs)) := by
  obtain ⟨s1, s2⟩ := sr.newI (o := .tup vs) hp
  exact h.ok1 s2 s1 (rp_tup.mpr ⟨p, vs, rfl, SqT.of upd_same, RpL.mono s2 (List.prefix_refl _) r⟩)
/-- the reading of + -/
def rAddX (K : PySem.W.Frag) : R2 := fun x y H Q => (∃ i j, x = .int i ∧ y = .int j ∧ Q (.int (i + j)) H) ∨ (∃ i j, x = .str i ∧ y = .str j ∧ i.length + j.length ≤ sizeLine ∧ Q (.str (i ++ j)) H) ∨ rCatA K x y H Q ∨
  (∃ l b xs zs, x = .ref l ∧ y = .ref b ∧ SqX K H l xs ∧ SqX K H b zs ∧ xs.length + zs.length ≤ sizeLine ∧ ∀ p, H p = none → Q (.ref p) (upd H p (.lst (xs ++ zs))))
theorem op_addX : OpR X (binaryOp .Add) (rAddX X.K) := op_add.or (op_add_str.or (op_catA.or op_catL))
theorem hk_add {K : PySem.W.Frag} : Hk2 T K (rAddX K) addD := by
  intro I m cs H x y v u Q E sr rx ry h
  unfold addD at h
  cases e1 : both (asI x) (asI y) with
  | some p =>
    obtain ⟨h1, h2⟩ := both_ok e1
    have e := asI_ok h1; subst e; have e := asI_ok h2; subst e
    simp only [e1] at h
    exact .inl ⟨_, _, rp_int.mp rx, rp_int.mp ry, h.okI sr (rp_int.mpr rfl)⟩
  | none =>
    simp only [e1] at h
    cases e2 : both (asS x) (asS y) with
    | some p =>
      obtain ⟨h1, h2⟩ := both_ok e2
      have e := asS_ok h1; subst e; have e := asS_ok h2; subst e
      simp only [e2] at h
      split at h
      · rename_i hz
        exact .inr (.inl ⟨_, _, rp_str.mp rx, rp_str.mp ry, hz, h.okI sr (rp_str.mpr rfl)⟩)
      · exact h.elim
    | none =>
      simp only [e2] at h
      cases e3 : both (itemsT x) (itemsT y) with
      | some p =>
        obtain ⟨xs, ys⟩ := p
        obtain ⟨h1, h2⟩ := both_ok e3
        have e := itemsT_eq h1; subst e; have e := itemsT_eq h2; subst e
        simp only [e3] at h
        split at h
        · rename_i hz
          obtain ⟨a1, vs, rfl, q1, r1⟩ := rp_tup.mp rx
          obtain ⟨b1, ws, rfl, q2, r2⟩ := rp_tup.mp ry
          have q1' := SqT.same sr.same q1
          have q2' := SqT.same sr.same q2
          have l1 := r1.length
          have l2 := r2.length
          simp only at hz l1 l2
          refine .inr (.inr (.inl ⟨a1, b1, vs, ws, rfl, rfl, q1', q2', by rw [← l1, ← l2]; exact hz, fun e0 => ?_, fun _ e0 => ?_, fun _ _ p hp => rp_newT sr hp (r1.append r2) h⟩))
          · subst e0
            have : xs = [] := List.eq_nil_of_length_eq_zero l1
            subst this
            exact h.okI sr ry
          · subst e0
            have : ys = [] := List.eq_nil_of_length_eq_zero l2
            subst this
            simp only [List.append_nil] at h
            exact h.okI sr rx
        · exact h.elim
      | none =>
        simp only [e3] at h
        cases e4 : both (itemsL cs x) (itemsL cs y) with
        | some p =>
          obtain ⟨xs, ys⟩ := p
          obtain ⟨h1, h2⟩ := both_ok e4
          simp only [e4] at h
          split at h
          · rename_i hz
            obtain ⟨a1, vs, rfl, q1, r1⟩ := itemsL_ok sr rx h1
            obtain ⟨b1, ws, rfl, q2, r2⟩ := itemsL_ok sr ry h2
            have l1 := r1.length
            have l2 := r2.length
            simp only at hz l1 l2
            exact .inr (.inr (.inr ⟨a1, b1, vs, ws, rfl, rfl, q1, q2, by rw [← l1, ← l2]; exact hz, fun p hp => rp_newL sr hp (r1.append r2) h⟩))
          · exact h.elim
        | none => simp only [e4] at h; exact h.elim
theorem de_add {f g : Den D} (ha : DE X T W a f) (hb : DE X T W b g) : DE X T W (.BinOp a .Add b pos) (d2 f g addD) := de_op op_addX hk_add ha hb
end
end
end DL
end

section
set_option Elab.async false
set_option linter.all false
set_option maxRecDepth 100000
set_option maxHeartbeats 4000000
namespace L2
open PySem PySem.Spec PyProof.Rows
theorem tuple_mulOne (l : Addr) (items : Array Value) (n : Nat) (dd : Option Addr) (sl : Array (Option Value)) (u : Tok) :
    Meets (Builtin.«tuple.__mul__» ⟨[.ref l, .int 1 u], []⟩) (fun _ R s => s.heap.get? l = some { cls := .type "tuple", dict := dd, data := .seq items n, slots := sl } ∧ R (.ok (.ret (Value.ref l))) s) :=
  .of_wp fun prog w A R s h => by
    obtain ⟨hp, g, d, tk, os⟩ := s
    obtain ⟨hl, h⟩ := h
    have f1 := AutoSeq1.idx_int
    have c0 : (decide ((1 : Int) < -(2 ^ 63)) || decide ((1 : Int) ≥ 2 ^ 63)) = false := by decide
    have c1 : (items.isEmpty || (1 : Int) == 1) = true := by simp
    wp_walk using wpAny_loadPart' hl
    repeat (first
      | (refine wpAny_ite_false (decide_eq_false (by rw [c0]; exact Bool.false_ne_true)) ?_; wp_walk using wpAny_loadPart' hl)
      | (refine wpAny_ite_true (decide_eq_true (by rw [c1])) ?_; wp_walk using wpAny_loadPart' hl))
    all_goals first | exact ⟨_, rfl, h⟩ | exact h
section
variable {X : Cx}
theorem op_repT1 : OpR X (binaryOp .Mult) (fun x y H Q => ∃ l xs, x = .ref l ∧ y = .int 1 ∧ SqT X.K H l xs ∧ Q (.ref l) H) := by
  intro pins s σ H x y v u Q I rx ry h
  obtain ⟨l, xs, rfl, rfl, hT, q⟩ := h
  cases rx
  obtain ⟨t, rfl⟩ := ry
  obtain ⟨its, r, ⟨⟨cls, dd, data, sl⟩, ho, hc, n, hd⟩, hs⟩ := I.tuple hT
  simp only at hc hd
  subst hc hd
  exact wpAny_binaryOp_repeat_ref (T := "tuple") (U := "int") (by decide) ⟨_, ho, rfl⟩ (fun s' => typeIs_int s' 1 t) noFill_tuple_mul F.fills_int_mul F.slot_int_rmul repeat_tuple F.slot_int_index.lookup
    (call_meets F.slot_int_rmul (typeIs_int s 1 t) F.entry_int_rmul (F.args_int_rmul_2 _ _) (int_rmul_tuple 1 t l its.toArray n dd sl)
      ⟨ho, rfl, ⟨_, ho, rfl⟩, call_meets F.slot_tuple_mul ⟨_, ho, rfl⟩ F.entry_tuple_mul (F.args_tuple_mul_2 _ _) (tuple_mulOne l its.toArray n dd sl t) ⟨ho, ⟨.ref l, H, I, rfl, q⟩⟩⟩)
theorem op_repX : OpR X (binaryOp .Mult) (fun x y H Q => ∃ l k xs, x = .ref l ∧ y = .int k ∧ DL.SqX X.K H l xs ∧ -(2 ^ 63) ≤ k ∧ k < 2 ^ 63 ∧ xs.length * k.toNat ≤ sizeLine ∧ ∀ p, H p = none → Q (.ref p) (upd H p (.lst (List.replicate k.toNat xs).flatten))) := by
  intro pins s σ H x y v u Q I rx ry h
  obtain ⟨l, k, xs, rfl, rfl, hH, h1, h2, hz, q⟩ := h
  cases rx
  obtain ⟨t, rfl⟩ := ry
  obtain ⟨z, its, n, r, hl, e⟩ := DL.SqX.lst I hH
  have hlen : its.toArray.size * k.toNat ≤ sizeLine := by rw [List.size_toArray, ← hl]; exact hz
  have hcap : ¬ its.toArray.size * k.toNat > (2 ^ 63 - 1) / 8 := by
    have : (sizeLine : Nat) ≤ (2 ^ 63 - 1) / 8 := by decide
    omega
  have hfit : ¬ (!Builtin.List.listFitsIndex k) = true := by
    rw [fitsIndex_both h1 h2]
    exact Bool.false_ne_true
  have hlong : ¬ Builtin.List.listTooLong (its.toArray.size * k.toNat) = true := by
    rw [notLongL hlen]
    exact Bool.false_ne_true
  have hnew : List.foldl (fun x1 x2 => x1 ++ x2) #[] (List.replicate (if its.toArray.isEmpty = true then 0 else k.toNat) its.toArray) = (List.replicate k.toNat its).flatten.toArray := by
    have f0 : ∀ m : Nat, List.foldl (fun x1 x2 => x1 ++ x2) #[] (List.replicate m its.toArray) = (List.replicate m its).flatten.toArray := fun m => by
      have := foldl_rep its m []
      rw [List.nil_append] at this
      exact this
    rw [f0]
    cases its with
    | nil => simp
    | cons a r' => rw [if_neg (by simp)]
  refine wpAny_binaryOp_repeat_ref (T := "list") (U := "int") (by decide) ⟨_, e, rfl⟩ (fun s' => typeIs_int s' k t) noFill_list_mul F.fills_int_mul F.slot_int_rmul repeat_list F.slot_int_index.lookup
    (call_meets F.slot_int_rmul (typeIs_int s k t) F.entry_int_rmul (F.args_int_rmul_2 _ _) (int___rmul___int_list k t l its.toArray n)
      ⟨e, rfl, ⟨_, e, rfl⟩, call_meets F.slot_list_mul ⟨_, e, rfl⟩ F.entry_list_mul (F.args_list_mul_2 _ _) (AutoListH.list___mul___list_int_3 l its.toArray n k t hfit hcap hlong) ⟨e, ?_⟩⟩)
  rw [hnew]
  exact ⟨.ref _, _, I.lnew (t' := s.toks) (r.rep k.toNat) (by rw [PyProof.Rows.lm_len_rep_flat, Nat.mul_comm]; exact hz), rfl, q _ I.fresh⟩
end
end L2
namespace DL
open PySem L2
open Classical
noncomputable section
theorem RpL.rep {T : Tab} {K : PySem.W.Frag} {I : Hp} {m : List Addr} {ds : List D} {vs : List V} (r : RpL T K I m ds vs) : ∀ k : Nat, RpL T K I m (List.replicate k ds).flatten (List.replicate k vs).flatten
  | 0 => by simp; exact RpL.nil
  | k + 1 => by simp only [List.replicate_succ, List.flatten_cons]; exact r.append (RpL.rep r k)
section
variable {X : Cx} {T : Tab} {W : WX} {a b c e : Expr} {es : List Expr} {pos : Pos} {f g : Den D}
def subD (x y : D) (cs : List Cell) : Out D := match both (asI x) (asI y) with
  | some (i, j) => .ok (.int (i - j)) cs
  | none => .no
theorem hk_sub {K : PySem.W.Frag} : Hk2 T K (rI0 fun i j => .int (i - j)) subD := by
  intro I m cs H x y v u Q E sr rx ry h
  unfold subD at h
  cases e1 : both (asI x) (asI y) with
  | some p =>
    obtain ⟨h1, h2⟩ := both_ok e1
    have e := asI_ok h1; subst e; have e := asI_ok h2; subst e
    simp only [e1] at h
    exact ⟨_, _, rp_int.mp rx, rp_int.mp ry, h.okI sr (rp_int.mpr rfl)⟩
  | none => simp only [e1] at h; exact h.elim
theorem de_sub (ha : DE X T W a f) (hb : DE X T W b g) : DE X T W (.BinOp a .Sub b pos) (d2 f g subD) := de_op op_sub hk_sub ha hb
/-- * : ints, list * int, tuple * int -/
def mulD (x y : D) (cs : List Cell) : Out D := match both (asI x) (asI y) with
  | some (i, j) => if CMulX i j then .ok (.int (i * j)) cs else .no
  | none => match both (itemsT x) (asI y) with
    | some (xs, k) => if k = 1 then .ok (.tup xs) cs else if repOk xs k then .ok (.tup (List.replicate k.toNat xs).flatten) cs else .no
    | none => match both (itemsL cs x) (asI y) with
      | some (xs, k) => if in63F k (xs.length * k.toNat) then .ok (.lst (List.replicate k.toNat xs).flatten) cs else .no
      | none => .no
def rMulX (K : PySem.W.Frag) : R2 := fun x y H Q => (∃ i j, x = .int i ∧ y = .int j ∧ CMulX i j ∧ Q (.int (i * j)) H) ∨ (∃ l xs, x = .ref l ∧ y = .int 1 ∧ SqT K H l xs ∧ Q (.ref l) H) ∨ rRepT K x y H Q ∨
  (∃ l k xs, x = .ref l ∧ y = .int k ∧ SqX K H l xs ∧ -(2 ^ 63) ≤ k ∧ k < 2 ^ 63 ∧ xs.length * k.toNat ≤ sizeLine ∧ ∀ p, H p = none → Q (.ref p) (upd H p (.lst (List.replicate k.toNat xs).flatten)))
theorem op_mulAll : OpR X (binaryOp .Mult) (rMulX X.K) := op_mulX.or (op_repT1.or (op_repT.or op_repX))
theorem hk_mul {K : PySem.W.Frag} : Hk2 T K (rMulX K) mulD := by
  intro I m cs H x y v u Q E sr rx ry h
  unfold mulD at h
  cases e1 : both (asI x) (asI y) with
  | some p =>
    obtain ⟨h1, h2⟩ := both_ok e1
    have e := asI_ok h1; subst e; have e := asI_ok h2; subst e
    simp only [e1] at h
    split at h
    · rename_i hc
      exact .inl ⟨_, _, rp_int.mp rx, rp_int.mp ry, hc, h.okI sr (rp_int.mpr rfl)⟩
    · exact h.elim
  | none =>
    simp only [e1] at h
    cases e2 : both (itemsT x) (asI y) with
    | some p =>
      obtain ⟨xs, k⟩ := p
      obtain ⟨h1, h2⟩ := both_ok e2
      have e := itemsT_eq h1; subst e; have e := asI_ok h2; subst e
      simp only [e2] at h
      obtain ⟨a1, vs, rfl, q1, r1⟩ := rp_tup.mp rx
      have q1' := SqT.same sr.same q1
      have l1 := r1.length
      split at h
      · rename_i hk
        subst hk
        exact .inr (.inl ⟨a1, vs, rfl, rp_int.mp ry, q1', h.okI sr rx⟩)
      · split at h
        · rename_i hk
          obtain ⟨k1, k2, k3, k4⟩ := hk
          refine .inr (.inr (.inl ⟨a1, k, vs, rfl, rp_int.mp ry, q1', fun z => k1 ?_, k2, k3, by rw [← l1]; exact k4, fun p hp => rp_newT sr hp (r1.rep _) h⟩))
          subst z
          exact List.eq_nil_of_length_eq_zero l1
        · exact h.elim
    | none =>
      simp only [e2] at h
      cases e3 : both (itemsL cs x) (asI y) with
      | some p =>
        obtain ⟨xs, k⟩ := p
        obtain ⟨h1, h2⟩ := both_ok e3
        have e := asI_ok h2; subst e
        simp only [e3] at h
        split at h
        · rename_i hk
          obtain ⟨k1, k2, k3⟩ := hk
          obtain ⟨a1, vs, rfl, q1, r1⟩ := itemsL_ok sr rx h1
          have l1 := r1.length
          exact .inr (.inr (.inr ⟨a1, k, vs, rfl, rp_int.mp ry, q1, k1, k2, by rw [← l1]; exact k3, fun p hp => rp_newL sr hp (r1.rep _) h⟩))
        · exact h.elim
      | none => simp only [e3] at h; exact h.elim
theorem de_mul (ha : DE X T W a f) (hb : DE X T W b g) : DE X T W (.BinOp a .Mult b pos) (d2 f g mulD) := de_op op_mulAll hk_mul ha hb
def fdivD (x y : D) (cs : List Cell) : Out D := match both (asI x) (asI y) with
  | some (i, j) => if CDivX i j then .ok (.int (i / j)) cs else .no
  | none => .no
theorem hk_fdiv {K : PySem.W.Frag} : Hk2 T K (fun x y H Q => ∃ i j, x = .int i ∧ y = .int j ∧ CDivX i j ∧ Q (.int (i / j)) H) fdivD := by
  intro I m cs H x y v u Q E sr rx ry h
  unfold fdivD at h
  cases e1 : both (asI x) (asI y) with
  | some p =>
    obtain ⟨h1, h2⟩ := both_ok e1
    have e := asI_ok h1; subst e; have e := asI_ok h2; subst e
    simp only [e1] at h
    split at h
    · rename_i hc
      exact ⟨_, _, rp_int.mp rx, rp_int.mp ry, hc, h.okI sr (rp_int.mpr rfl)⟩
    · exact h.elim
  | none => simp only [e1] at h; exact h.elim
theorem de_fdiv (ha : DE X T W a f) (hb : DE X T W b g) : DE X T W (.BinOp a .FloorDiv b pos) (d2 f g fdivD) := de_op op_fdivX hk_fdiv ha hb
def modD (x y : D) (cs : List Cell) : Out D := match both (asI x) (asI y) with
  | some (i, j) => if 0 < j then .ok (.int (i % j)) cs else .no
  | none => .no
theorem hk_mod {K : PySem.W.Frag} : Hk2 T K (rI (fun _ j => 0 < j) fun i j => .int (i % j)) modD := by
  intro I m cs H x y v u Q E sr rx ry h
  unfold modD at h
  cases e1 : both (asI x) (asI y) with
  | some p =>
    obtain ⟨h1, h2⟩ := both_ok e1
    have e := asI_ok h1; subst e; have e := asI_ok h2; subst e
    simp only [e1] at h
    split at h
    · rename_i hc
      exact ⟨_, _, rp_int.mp rx, rp_int.mp ry, hc, h.okI sr (rp_int.mpr rfl)⟩
    · exact h.elim
  | none => simp only [e1] at h; exact h.elim
theorem de_mod (ha : DE X T W a f) (hb : DE X T W b g) : DE X T W (.BinOp a .Mod b pos) (d2 f g modD) := de_op op_mod hk_mod ha hb
def powD (x y : D) (cs : List Cell) : Out D := match both (asI x) (asI y) with
  | some (i, j) => if CPow i j then .ok (.int (i ^ j.toNat)) cs else .no
  | none => .no
theorem hk_pow {K : PySem.W.Frag} : Hk2 T K (rI CPow fun i j => .int (i ^ j.toNat)) powD := by
  intro I m cs H x y v u Q E sr rx ry h
  unfold powD at h
  cases e1 : both (asI x) (asI y) with
  | some p =>
    obtain ⟨h1, h2⟩ := both_ok e1
    have e := asI_ok h1; subst e; have e := asI_ok h2; subst e
    simp only [e1] at h
    split at h
    · rename_i hc
      exact ⟨_, _, rp_int.mp rx, rp_int.mp ry, hc, h.okI sr (rp_int.mpr rfl)⟩
    · exact h.elim
  | none => simp only [e1] at h; exact h.elim
theorem de_pow (ha : DE X T W a f) (hb : DE X T W b g) : DE X T W (.BinOp a .Pow b pos) (d2 f g powD) := de_op op_pow hk_pow ha hb
/-- -x -/
def negD (x : D) (cs : List Cell) : Out D := match asI x with
  | some i => .ok (.int (-i)) cs
  | none => .no
theorem de_neg (ha : DE X T W a f) : DE X T W (.UnaryOp .USub a pos) (d1 f negD) := by
  refine PE.imp (pe_un un_neg ha) ?_
  rintro σ H Q ⟨I, m, cs, env, er, sr, h⟩
  refine ⟨I, m, cs, env, er, sr, OutG.bindI h fun x cs1 v H1 I1 m1 s1 p1 sr1 r1 h1 => ?_⟩
  unfold negD at h1
  cases e1 : asI x with
  | some i =>
    have e := asI_ok e1; subst e
    simp only [e1] at h1
    exact ⟨i, rp_int.mp r1, h1.okI sr1 (rp_int.mpr rfl)⟩
  | none => simp only [e1] at h1; exact h1.elim

/-! ### comparisons of ints -/
def cmpD (p : Int → Int → Bool) (x y : D) (cs : List Cell) : Out D := match both (asI x) (asI y) with
  | some (i, j) => .ok (.bl (p i j)) cs
  | none => .no
theorem hk_cmp {K : PySem.W.Frag} {p : Int → Int → Bool} : Hk2 T K (rI0 fun i j => .bl (p i j)) (cmpD p) := by
  intro I m cs H x y v u Q E sr rx ry h
  unfold cmpD at h
  cases e1 : both (asI x) (asI y) with
  | some p =>
    obtain ⟨h1, h2⟩ := both_ok e1
    have e := asI_ok h1; subst e; have e := asI_ok h2; subst e
    simp only [e1] at h
    exact ⟨_, _, rp_int.mp rx, rp_int.mp ry, h.okI sr (rp_bl.mpr rfl)⟩
  | none => simp only [e1] at h; exact h.elim
abbrev ltD := cmpD fun i j => decide (i < j)
abbrev leD := cmpD fun i j => decide (i ≤ j)
abbrev gtD := cmpD fun i j => decide (j < i)
abbrev geD := cmpD fun i j => decide (j ≤ i)
theorem dc_lt (ha : DE X T W a f) (hb : DE X T W b g) : DC X T W .Lt a b (d2 f g ltD) := dc_op op_lt hk_cmp ha hb
theorem dc_le (ha : DE X T W a f) (hb : DE X T W b g) : DC X T W .LtE a b (d2 f g leD) := dc_op op_le hk_cmp ha hb
theorem dc_gt (ha : DE X T W a f) (hb : DE X T W b g) : DC X T W .Gt a b (d2 f g gtD) := dc_op op_gt hk_cmp ha hb
theorem dc_ge (ha : DE X T W a f) (hb : DE X T W b g) : DC X T W .GtE a b (d2 f g geD) := dc_op op_ge hk_cmp ha hb
/-- a < b < c and its like, on ints -/
def chainD (f g k : Den D) (p q : Int → Int → Bool) : Den D := fun env cs => (f env cs).bind fun x cs => (g env cs).bind fun y cs => match both (asI x) (asI y) with
  | some (i, j) => if p i j = true then (k env cs).bind fun z cs => cmpD q y z cs else .ok (.bl false) cs
  | none => .no
theorem chain_rd {p q : Int → Int → Bool} {k : Den D} {ta tb tc : TE} (e1 : ta = tG T X.K W (RD T X.K) f) (e2 : tb = tG T X.K W (RD T X.K) g) (e3 : tc = tG T X.K W (RD T X.K) k) :
    ∀ σ H Q, tG T X.K W (RD T X.K) (chainD f g k p q) σ H Q → tChain (rI0 fun i j => .bl (p i j)) (rI0 fun i j => .bl (q i j)) ta tb tc σ H Q := by
  subst e1 e2 e3
  rintro σ H Q ⟨I, m, cs, env, er, sr, h⟩
  refine ⟨I, m, cs, env, er, sr, OutG.bindI h fun x cs1 v H1 I1 m1 s1 p1 sr1 r1 h1 => ?_⟩
  refine ⟨I1, m1, cs1, env, er.mono s1 p1, sr1, OutG.bindI h1 fun y cs2 u H2 I2 m2 s2 p2 sr2 r2 h2 => ?_⟩
  cases e1 : both (asI x) (asI y) with
  | none => simp only [e1] at h2; exact h2.elim
  | some w =>
    obtain ⟨i, j⟩ := w
    obtain ⟨g1, g2⟩ := both_ok e1
    have e := asI_ok g1; subst e; have e := asI_ok g2; subst e
    simp only [e1] at h2
    refine ⟨i, j, rp_int.mp r1, rp_int.mp r2, p i j, rfl, ?_⟩
    split at h2
    · rename_i hp
      rw [if_pos hp]
      refine ⟨I2, m2, cs2, env, (er.mono s1 p1).mono s2 p2, sr2, OutG.bindI h2 fun z cs3 w H3 I3 m3 s3 p3 sr3 r3 h3 => ?_⟩
      exact hk_cmp I3 m3 cs3 H3 _ _ _ _ _ _ sr3 (r2.mono s3 p3) r3 h3
    · rename_i hp
      rw [if_neg hp]
      exact h2.okI sr2 (rp_bl.mpr rfl)
theorem de_chain {op op' : CmpOp} {p q : Int → Int → Bool} {k : Den D} (ho : OpR X (compareOp op) (rI0 fun i j => .bl (p i j))) (ho' : OpR X (compareOp op') (rI0 fun i j => .bl (q i j))) (ha : DE X T W a f) (hb : DE X T W b g) (hc : DE X T W c k)
    (hm : lastMarks [op, op'] [b, c] = false := by with_unfolding_all rfl) : DE X T W (.Compare a [op, op'] [b, c] pos) (chainD f g k p q) :=
  PE.imp (pe_chain ho ho' ha hb hc hm) (chain_rd rfl rfl rfl)
theorem dt_chain {op op' : CmpOp} {p q : Int → Int → Bool} {k : Den D} (ho : OpR X (compareOp op) (rI0 fun i j => .bl (p i j))) (ho' : OpR X (compareOp op') (rI0 fun i j => .bl (q i j))) (ha : DE X T W a f) (hb : DE X T W b g) (hc : DE X T W c k)
    (hm : lastMarks [op, op'] [b, c] = false := by with_unfolding_all rfl) : DT X T W (.Compare a [op, op'] [b, c] pos) (qB (chainD f g k p q)) := by
  refine PT.imp (pt_chain ho ho' ha hb hc hm) ?_
  rintro σ H Q ⟨I, m, cs, env, er, sr, h⟩
  refine chain_rd rfl rfl rfl σ H _ ⟨I, m, cs, env, er, sr, OutG.bindI h fun x cs1 v H1 I1 m1 s1 p1 sr1 r1 h1 => ?_⟩
  cases x with
  | bl b => exact ⟨b, rp_bl.mp r1, OutG.okI h1 sr1 rfl⟩
  | _ => exact h1.elim
end
end
end DL
end

section
set_option Elab.async false
set_option linter.all false
set_option maxRecDepth 100000
set_option maxHeartbeats 4000000
namespace DL
open PySem L2
open Classical
noncomputable section

/-! ### == of data -/
mutual
/-- data that == is said of: n levels at most; ob: objects too -/
def D.okE (ob : Bool) : D → Nat → Bool
  | .non, _ => true
  | .bl _, _ => true
  | .int _, _ => true
  | .str _, _ => true
  | .tup xs, n + 1 => D.okL ob xs n
  | .lst xs, n + 1 => D.okL ob xs n
  | .obj _ xs, n + 2 => ob && D.okL ob xs n
  | _, _ => false
def D.okL (ob : Bool) : List D → Nat → Bool
  | [], _ => true
  | x :: xs, n => D.okE ob x n && D.okL ob xs n
end
mutual
/-- structural equality; none: nothing is said -/
def eqD : D → D → Option Bool
  | .non, b => match b with
    | .non => some true
    | .bl _ => some false
    | .int _ => some false
    | .str _ => some false
    | .tup _ => some false
    | .lst _ => some false
    | _ => none
  | .bl a, b => match b with
    | .bl b => some (a == b)
    | .non => some false
    | .str _ => some false
    | .tup _ => some false
    | .lst _ => some false
    | _ => none
  | .int a, b => match b with
    | .int b => some (a == b)
    | .non => some false
    | .str _ => some false
    | .tup _ => some false
    | .lst _ => some false
    | _ => none
  | .str a, b => match b with
    | .str b => some (a == b)
    | .non => some false
    | .bl _ => some false
    | .int _ => some false
    | .tup _ => some false
    | .lst _ => some false
    | _ => none
  | .tup xs, b => match b with
    | .tup ys => eqL xs ys
    | .non => some false
    | .bl _ => some false
    | .int _ => some false
    | .str _ => some false
    | .lst _ => some false
    | _ => none
  | .lst xs, b => match b with
    | .lst ys => eqL xs ys
    | .non => some false
    | .bl _ => some false
    | .int _ => some false
    | .str _ => some false
    | .tup _ => some false
    | _ => none
  | .obj c xs, b => match b with
    | .obj c' ys => if c = c' then eqL xs ys else some false
    | .non => some false
    | _ => none
  | _, _ => none
/-- item by item, up to the first that differ; other lengths: unlike -/
def eqL : List D → List D → Option Bool
  | [], [] => some true
  | [], _ :: _ => some false
  | _ :: _, [] => some false
  | x :: xs, y :: ys => match eqD x y, eqL xs ys with
    | some a, some b => some (a && b)
    | _, _ => none
end
/-- == on data, somewhere below the running body X, with room n -/
structure EqB (X : Cx) (T : Tab) (n : Nat) (ob : Bool) (h : Nat) : Prop where
  eqb : ∀ (A : Around) (pins : List (Addr × Obj)) (s : Shared) (σ : St) (H : Hp) (x y : V) (v u : Value) (I : Hp) (m : List Addr) (a b : D) (r : Bool), Sub X n A → Inv X pins σ H s → Same I H → Rp T X.K I m a x → Rp T X.K I m b y → RelV x v → RelV y u → a.okE ob h = true → b.okE ob h = true → eqD a b = some r →
    wpAny (model X.prog X.w) A (eqBool v u) (fun r' s' => r' = r ∧ ∃ H', Inv X pins σ H' s' ∧ Ext H H') X.xe s
  rce : ∀ (A : Around) (pins : List (Addr × Obj)) (s : Shared) (σ : St) (H : Hp) (x y : V) (v u : Value) (I : Hp) (m : List Addr) (a b : D) (r : Bool), Sub X n A → Inv X pins σ H s → Same I H → Rp T X.K I m a x → Rp T X.K I m b y → RelV x v → RelV y u → a.okE ob h = true → b.okE ob h = true → eqD a b = some r →
    wpAny (model X.prog X.w) A (richCompare .Eq v u) (fun r' s' => r' = .bool r ∧ ∃ H', Inv X pins σ H' s' ∧ Ext H H') X.xe s
  rcn : ∀ (A : Around) (pins : List (Addr × Obj)) (s : Shared) (σ : St) (H : Hp) (x y : V) (v u : Value) (I : Hp) (m : List Addr) (a b : D) (r : Bool), Sub X n A → Inv X pins σ H s → Same I H → Rp T X.K I m a x → Rp T X.K I m b y → RelV x v → RelV y u → a.okE ob h = true → b.okE ob h = true → eqD a b = some r →
    wpAny (model X.prog X.w) A (richCompare .NotEq v u) (fun r' s' => r' = .bool (!r) ∧ ∃ H', Inv X pins σ H' s' ∧ Ext H H') X.xe s
  inl : ∀ (A : Around) (pins : List (Addr × Obj)) (s : Shared) (σ : St) (H : Hp) (x y : V) (v u : Value) (I : Hp) (m : List Addr) (a : D) (bs : List D) (r : Bool) (p : Addr) (ys : List V), Sub X n A → Inv X pins σ H s → Same I H → Rp T X.K I m a x → y = .ref p → (SqX X.K H p ys ∨ SqT X.K H p ys) → RpL T X.K I m bs ys → RelV x v → RelV y u →
    a.okE ob h = true → (∀ b ∈ bs, b.okE ob h = true ∧ ∃ r', eqD b a = some r') → (r = bs.any fun b => eqD b a == some true) →
    wpAny (model X.prog X.w) A (compareOp .In v u) (fun r' s' => r' = .bool r ∧ ∃ H', Inv X pins σ H' s' ∧ Ext H H') X.xe s ∧
    wpAny (model X.prog X.w) A (compareOp .NotIn v u) (fun r' s' => r' = .bool (!r) ∧ ∃ H', Inv X pins σ H' s' ∧ Ext H H') X.xe s
theorem SR.ext {T : Tab} {K : PySem.W.Frag} {I H H' : Hp} {m : List Addr} {cs : List Cell} (s : SR T K I m cs H) (e : Ext H H') : SR T K I m cs H' :=
  ⟨fun b o q => e b o (s.same b o q), s.len, fun n c h l => let ⟨a, o, q1, q2, q3, q4⟩ := s.at_ n c h l; ⟨a, o, q1, q2, e a o q3, q4⟩, s.inj, s.tabs.ext e, s.ntb⟩
/-- a cell's list read as data -/
def resL (cs : List Cell) (d : D) : D := match d with
  | .cell n => match cs[n]? with
    | some (.lst xs) => .lst xs
    | _ => d
  | _ => d
theorem resL_ok {T : Tab} {K : PySem.W.Frag} {I H : Hp} {m : List Addr} {cs : List Cell} {d : D} {v : V} (sr : SR T K I m cs H) (r : Rp T K I m d v) : ∃ I', Same I I' ∧ Same I' H ∧ Rp T K I' m (resL cs d) v := by
  cases d with
  | cell n =>
    unfold resL
    simp only
    cases hc : cs[n]? with
    | none => exact ⟨I, Same.refl I, sr.same, r⟩
    | some c =>
      cases c with
      | lst xs =>
        obtain ⟨a, e1, e2⟩ := rp_cell.mp r
        obtain ⟨a', o, q1, q2, q3, q4⟩ := sr.at_ n _ hc (by intro z; cases z)
        rw [e1] at q1; cases q1
        cases o with
        | lst vs =>
          refine ⟨L2.upd I a (.lst vs), Same.updI q2, fun b u e => ?_, rp_lst.mpr ⟨a, vs, e2, SqX.of upd_same, RpL.mono (Same.updI q2) (List.prefix_refl _) q4⟩⟩
          by_cases hb : b = a
          · subst hb; rw [upd_same] at e; rw [← e]; exact q3
          · rw [upd_ne hb] at e; exact sr.same b u e
        | _ => exact q4.elim
      | _ => exact ⟨I, Same.refl I, sr.same, r⟩
  | _ => exact ⟨I, Same.refl I, sr.same, r⟩
def eqC (ob : Bool) (h : Nat) (x y : D) (cs : List Cell) : Out D := if ((resL cs x).okE ob h && (resL cs y).okE ob h) = true then (match eqD (resL cs x) (resL cs y) with
  | some r => .ok (.bl r) cs
  | none => .no) else .no
def neC (ob : Bool) (h : Nat) (x y : D) (cs : List Cell) : Out D := if ((resL cs x).okE ob h && (resL cs y).okE ob h) = true then (match eqD (resL cs x) (resL cs y) with
  | some r => .ok (.bl (!r)) cs
  | none => .no) else .no
/-- two data, read in one heap -/
theorem res2_ok {T : Tab} {K : PySem.W.Frag} {I H : Hp} {m : List Addr} {cs : List Cell} {d e : D} {v u : V} (sr : SR T K I m cs H) (r : Rp T K I m d v) (q : Rp T K I m e u) : ∃ I', Same I I' ∧ Same I' H ∧ Rp T K I' m (resL cs d) v ∧ Rp T K I' m (resL cs e) u := by
  obtain ⟨I1, a1, a2, a3⟩ := resL_ok sr r
  obtain ⟨I2, b1, b2, b3⟩ := resL_ok sr q
  -- both are below H: their union
  refine ⟨fun a => match I1 a with | some o => some o | none => I2 a, fun a o h => ?_, fun a o h => ?_, Rp.mono (fun a o h => ?_) (List.prefix_refl _) a3, Rp.mono (fun a o h => ?_) (List.prefix_refl _) b3⟩
  · simp only [a1 a o h]
  · cases h1 : I1 a with
    | some o' => simp only [h1] at h; cases h; exact a2 a _ h1
    | none => simp only [h1] at h; exact b2 a o h
  · simp only [h]
  · cases h1 : I1 a with
    | some o' =>
      have := a2 a _ h1
      rw [b2 a o h] at this
      cases this
      rfl
    | none => simpa using h
section
variable {X : Cx} {T : Tab} {W : WX} {a b c e : Expr} {es : List Expr} {pos : Pos} {f g : Den D} {n h : Nat} {ob : Bool}
theorem dc_cmp2 {op : CmpOp} {k : D → D → List Cell → Out D} (ha : DE X T W a f) (hb : DE X T W b g)
    (hk : ∀ (pins : List (Addr × Obj)) (s : Shared) (σ : St) (I : Hp) (m : List Addr) (cs : List Cell) (H : Hp) (x y : D) (v u : V) (v' u' : Value) (Q : VK) (E : XK), Inv X pins σ H s → RelV v v' → RelV u u' → SR T X.K I m cs H → Rp T X.K I m x v → Rp T X.K I m y u → OutG T X.K (RD T X.K) I m (k x y cs) Q E → wpAny (model X.prog X.w) X.A (compareOp op v' u') (EP X pins σ Q) X.xe s) :
    DC X T W op a b (d2 f g k) := by
  refine ⟨fun pins s σ H Q J ⟨I, m, cs, env, er, sr, h⟩ => ?_⟩
  refine bin (R := fun v u H2 => ∃ I m cs x y, SR T X.K I m cs H2 ∧ Rp T X.K I m x v ∧ Rp T X.K I m y u ∧ OutG T X.K (RD T X.K) I m (k x y cs) Q fun cls od H' => W cls od σ H') ha hb J ?_ fun v u s2 x y H2 I2 rx ry q => ?_
  · refine ⟨I, m, cs, env, er, sr, OutG.bindI h fun x cs1 v H1 I1 m1 s1 p1 sr1 r1 h1 => ?_⟩
    refine ⟨I1, m1, cs1, env, er.mono s1 p1, sr1, OutG.bindI h1 fun y cs2 u H2 I2 m2 s2 p2 sr2 r2 h2 => ?_⟩
    exact ⟨I2, m2, cs2, x, y, sr2, r1.mono s2 p2, r2, h2⟩
  · obtain ⟨I', m', cs', x', y', q1, q2, q3, q4⟩ := q
    exact hk pins s2 σ I' m' cs' H2 x' y' x y v u Q _ I2 rx ry q1 q2 q3 q4
theorem dc_eq (B : EqB X T n ob h) (hr : Room n X.A) (ha : DE X T W a f) (hb : DE X T W b g) : DC X T W .Eq a b (d2 f g (eqC ob h)) :=
  dc_cmp2 ha hb fun pins s σ I m cs H x y v u v' u' Q E J rv ru sr rx ry h => by
    unfold eqC at h
    split at h
    case isFalse => exact h.elim
    rename_i hok
    obtain ⟨hok1, hok2⟩ := Bool.and_eq_true_iff.mp hok
    obtain ⟨I', a1, a2, a3, a4⟩ := res2_ok sr rx ry
    cases hq : eqD (resL cs x) (resL cs y) with
    | none => simp only [hq] at h; exact h.elim
    | some r =>
      simp only [hq] at h
      refine wpAny_mono (B.rce X.A pins s σ H v u v' u' I' m _ _ r ⟨hr, rfl⟩ J a2 a3 a4 rv ru hok1 hok2 hq) (fun z s' q => ?_) fun _ _ x => x
      obtain ⟨rfl, H', J', ex⟩ := q
      exact ⟨.bl r, H', J', rfl, h.okI (sr.ext ex) (rp_bl.mpr rfl)⟩
theorem dc_ne (B : EqB X T n ob h) (hr : Room n X.A) (ha : DE X T W a f) (hb : DE X T W b g) : DC X T W .NotEq a b (d2 f g (neC ob h)) :=
  dc_cmp2 ha hb fun pins s σ I m cs H x y v u v' u' Q E J rv ru sr rx ry h => by
    unfold neC at h
    split at h
    case isFalse => exact h.elim
    rename_i hok
    obtain ⟨hok1, hok2⟩ := Bool.and_eq_true_iff.mp hok
    obtain ⟨I', a1, a2, a3, a4⟩ := res2_ok sr rx ry
    cases hq : eqD (resL cs x) (resL cs y) with
    | none => simp only [hq] at h; exact h.elim
    | some r =>
      simp only [hq] at h
      refine wpAny_mono (B.rcn X.A pins s σ H v u v' u' I' m _ _ r ⟨hr, rfl⟩ J a2 a3 a4 rv ru hok1 hok2 hq) (fun z s' q => ?_) fun _ _ x => x
      obtain ⟨rfl, H', J', ex⟩ := q
      exact ⟨.bl (!r), H', J', rfl, h.okI (sr.ext ex) (rp_bl.mpr rfl)⟩
/-- is None -/
def isNonD (d : D) : Option Bool := match d with
  | .non => some true
  | .exc _ _ _ => none
  | _ => some false
def isC (neg : Bool) (x : D) (cs : List Cell) : Out D := match isNonD x with
  | some r => .ok (.bl (if neg then !r else r)) cs
  | none => .no
theorem isNonD_ok {K : PySem.W.Frag} {I : Hp} {m : List Addr} {d : D} {v : V} {r : Bool} (h : Rp T K I m d v) (e : isNonD d = some r) : decide (v = .non) = r := by
  cases d <;> unfold Rp at h <;> cases e
  case non => simp [h]
  case bl => simp [h]
  case int => simp [h]
  case str => simp [h]
  case tup => obtain ⟨_, _, rfl, _⟩ := h; simp
  case lst => obtain ⟨_, _, rfl, _⟩ := h; simp
  case obj => obtain ⟨_, _, _, rfl, _⟩ := h; simp
  case dic => obtain ⟨_, _, rfl, _⟩ := h; simp
  case cell => obtain ⟨_, _, rfl⟩ := h; simp
theorem dc_isN {j p2} (ha : DE X T W a f) : DC X T W .Is a (.Constant .none j p2) (d1 f (isC false)) := by
  refine PC.imp (pc_isN ha) ?_
  rintro σ H Q ⟨I, m, cs, env, er, sr, h⟩
  refine ⟨I, m, cs, env, er, sr, OutG.bindI h fun x cs1 v H1 I1 m1 s1 p1 sr1 r1 h1 => ?_⟩
  unfold isC at h1
  cases e1 : isNonD x with
  | none => simp only [e1] at h1; exact h1.elim
  | some r =>
    simp only [e1] at h1
    rw [isNonD_ok r1 e1]
    exact h1.okI sr1 (rp_bl.mpr rfl)
theorem dc_notN {j p2} (ha : DE X T W a f) : DC X T W .IsNot a (.Constant .none j p2) (d1 f (isC true)) := by
  refine PC.imp (pc_notN ha) ?_
  rintro σ H Q ⟨I, m, cs, env, er, sr, h⟩
  refine ⟨I, m, cs, env, er, sr, OutG.bindI h fun x cs1 v H1 I1 m1 s1 p1 sr1 r1 h1 => ?_⟩
  unfold isC at h1
  cases e1 : isNonD x with
  | none => simp only [e1] at h1; exact h1.elim
  | some r =>
    simp only [e1] at h1
    rw [isNonD_ok r1 e1]
    exact h1.okI sr1 (rp_bl.mpr rfl)
/-- x in xs (a list, a tuple); one sign in a text -/
def inC (ob : Bool) (h : Nat) (neg : Bool) (x y : D) (cs : List Cell) : Out D := match y with
  | .str z => match x with
    | .str ⟨⟨[c]⟩⟩ => .ok (.bl (if neg then !decide (c ∈ z.cps.toList) else decide (c ∈ z.cps.toList))) cs
    | _ => .no
  | y => match itemsS cs y with
    | some bs => if (D.okE ob (resL cs x) h && bs.all fun b => D.okE ob b h && (eqD b (resL cs x)).isSome) = true then .ok (.bl (if neg then !(bs.any fun b => eqD b (resL cs x) == some true) else bs.any fun b => eqD b (resL cs x) == some true)) cs else .no
    | none => .no
theorem rp_strc {K : PySem.W.Frag} {I : Hp} {m : List Addr} {ob : Bool} {hh : Nat} {y : D} (h : ∀ z, y ≠ .str z) (neg : Bool) (x : D) (cs : List Cell) : inC ob hh neg x y cs = match itemsS cs y with
    | some bs => if (D.okE ob (resL cs x) hh && bs.all fun b => D.okE ob b hh && (eqD b (resL cs x)).isSome) = true then .ok (.bl (if neg then !(bs.any fun b => eqD b (resL cs x) == some true) else bs.any fun b => eqD b (resL cs x) == some true)) cs else .no
    | none => .no := by
  cases y <;> first | rfl | exact absurd rfl (h _)
theorem in_hk (B : EqB X T n ob h) (hr : Room n X.A) (neg : Bool) (op : CmpOp) (ho : op = if neg then .NotIn else .In) :
    ∀ (pins : List (Addr × Obj)) (s : Shared) (σ : St) (I : Hp) (m : List Addr) (cs : List Cell) (H : Hp) (x y : D) (v u : V) (v' u' : Value) (Q : VK) (E : XK), Inv X pins σ H s → RelV v v' → RelV u u' → SR T X.K I m cs H → Rp T X.K I m x v → Rp T X.K I m y u → OutG T X.K (RD T X.K) I m (inC ob h neg x y cs) Q E → wpAny (model X.prog X.w) X.A (compareOp op v' u') (EP X pins σ Q) X.xe s := by
  intro pins s σ I m cs H x y v u v' u' Q E J rv ru sr rx ry hh
  by_cases hy : ∃ z, y = .str z
  · obtain ⟨z, rfl⟩ := hy
    unfold inC at hh
    simp only at hh
    split at hh
    · rename_i c
      have e1 := rp_str.mp rx
      have e2 := rp_str.mp ry
      cases neg with
      | false =>
        subst ho
        exact op_in_sign pins s σ H v u v' u' Q J rv ru ⟨c, z, e1, e2, hh.okI sr (rp_bl.mpr rfl)⟩
      | true =>
        subst ho
        exact op_notIn_sign pins s σ H v u v' u' Q J rv ru ⟨c, z, e1, e2, hh.okI sr (rp_bl.mpr rfl)⟩
    · exact hh.elim
  · rw [rp_strc (K := X.K) (I := I) (m := m) (fun z e => hy ⟨z, e⟩)] at hh
    cases hb : itemsS cs y with
    | none => simp only [hb] at hh; exact hh.elim
    | some bs =>
      simp only [hb] at hh
      split at hh
      · rename_i hall
        obtain ⟨hall0, hall⟩ := Bool.and_eq_true_iff.mp hall
        obtain ⟨I', a1, a2, a3⟩ := resL_ok sr rx
        obtain ⟨p, ys, e, q1, q2⟩ := itemsS_ok sr ry hb


        have hB := B.inl X.A pins s σ H v u v' u' I' m (resL cs x) bs _ p ys ⟨hr, rfl⟩ J a2 a3 e q1 (RpL.mono a1 (List.prefix_refl _) q2) rv ru hall0 (fun b hb' => ⟨(Bool.and_eq_true_iff.mp (List.all_eq_true.mp hall b hb')).1, Option.isSome_iff_exists.mp (Bool.and_eq_true_iff.mp (List.all_eq_true.mp hall b hb')).2⟩) rfl
        cases neg with
        | false =>
          subst ho
          refine wpAny_mono hB.1 (fun z s' q => ?_) fun _ _ x => x
          obtain ⟨rfl, H', J', ex⟩ := q
          exact ⟨.bl _, H', J', rfl, hh.okI (sr.ext ex) (rp_bl.mpr rfl)⟩
        | true =>
          subst ho
          refine wpAny_mono hB.2 (fun z s' q => ?_) fun _ _ x => x
          obtain ⟨rfl, H', J', ex⟩ := q
          exact ⟨.bl _, H', J', rfl, hh.okI (sr.ext ex) (rp_bl.mpr rfl)⟩
      · exact hh.elim
theorem dc_in (B : EqB X T n ob h) (hr : Room n X.A) (ha : DE X T W a f) (hb : DE X T W b g) : DC X T W .In a b (d2 f g (inC ob h false)) :=
  dc_cmp2 ha hb (in_hk B hr false .In rfl)
theorem dc_nin (B : EqB X T n ob h) (hr : Room n X.A) (ha : DE X T W a f) (hb : DE X T W b g) : DC X T W .NotIn a b (d2 f g (inC ob h true)) :=
  dc_cmp2 ha hb (in_hk B hr true .NotIn rfl)
end
end
end DL
end

section
set_option Elab.async false
set_option linter.all false
set_option maxRecDepth 100000
set_option maxHeartbeats 4000000
namespace DL
open PySem L2
open Classical
noncomputable section
section
variable {X : Cx} {T : Tab} {W : WX} {a b c e : Expr} {es rest : List Expr} {pos : Pos} {f g k : Den D} {p q r : Den Bool} {n : Nat}

/-! ### tests -/
theorem dt_val (h : DE X T W e f) (he : ∀ whole, isTrue e X.env whole = (do let v ← whole; standAt e.pos; holding [v] (truthy v)) := by intro _; rfl) : DT X T W e (qB f) := by
  refine PT.imp (pt_val h he) ?_
  rintro σ H Q ⟨I, m, cs, env, er, sr, h⟩
  refine ⟨I, m, cs, env, er, sr, OutG.bindI h fun x cs1 v H1 I1 m1 s1 p1 sr1 r1 h1 => ?_⟩
  cases x with
  | bl b => exact ⟨b, rp_bl.mp r1, OutG.okI h1 sr1 rfl⟩
  | _ => exact h1.elim
/-- truth of a text, a list, a tuple, an int -/
def truD (cs : List Cell) (d : D) : Option Bool := match d with
  | .bl b => some b
  | .non => some false
  | .int i => some (i != 0)
  | .str s => if fits s.length then some ((s.length : Int) != 0) else none
  | d => (itemsS cs d).map fun xs => !xs.isEmpty
def qTru (f : Den D) : Den Bool := fun env cs => (f env cs).bind fun x cs => match truD cs x with
  | some b => .ok b cs
  | none => .no
theorem truD_ok {K : PySem.W.Frag} {I H : Hp} {m : List Addr} {cs : List Cell} {d : D} {v : V} {r : Bool} (sr : SR T K I m cs H) (h : Rp T K I m d v) (e : truD cs d = some r) : TruV K v H r := by
  have seq : (itemsS cs d).map (fun xs => !xs.isEmpty) = some r → TruV K v H r := fun e => by
    cases hi : itemsS cs d with
    | none => rw [hi] at e; cases e
    | some xs =>
      rw [hi] at e
      have e' : (!xs.isEmpty) = r := Option.some.inj e
      obtain ⟨a, vs, rfl, q1, q2⟩ := itemsS_ok sr h hi
      have l := q2.length
      have ee : r = !vs.isEmpty := by
        rw [← e']
        cases xs <;> cases vs <;> simp_all
      rcases q1 with q1 | q1
      · exact .inl ⟨vs, q1.l, ee⟩
      · exact .inr (.inl ⟨vs, q1, ee⟩)
  cases d with
  | non => cases e; rw [rp_non.mp h]; rfl
  | bl b => cases e; rw [rp_bl.mp h]; rfl
  | int i => cases e; rw [rp_int.mp h]; rfl
  | str s =>
    rw [rp_str.mp h]
    unfold truD at e
    simp only at e
    split at e
    · rename_i hz
      cases e
      exact ⟨hz, rfl⟩
    · cases e
  | _ => exact seq e
theorem dt_tru (h : DE X T W e f) (he : ∀ whole, isTrue e X.env whole = (do let v ← whole; standAt e.pos; holding [v] (truthy v)) := by intro _; rfl) : DT X T W e (qTru f) := by
  refine PT.imp (pt_truth h he) ?_
  rintro σ H Q ⟨I, m, cs, env, er, sr, h⟩
  refine ⟨I, m, cs, env, er, sr, OutG.bindI h fun x cs1 v H1 I1 m1 s1 p1 sr1 r1 h1 => ?_⟩
  cases e1 : truD cs1 x with
  | none => simp only [e1] at h1; exact h1.elim
  | some b =>
    simp only [e1] at h1
    exact ⟨b, truD_ok sr1 r1 e1, h1.okI sr1 rfl⟩
def qNot (p : Den Bool) : Den Bool := fun env cs => (p env cs).bind fun b cs => .ok (!b) cs
theorem dt_not (h : DT X T W e p) : DT X T W (.UnaryOp .Not e pos) (qNot p) := by
  refine PT.imp (pt_not h) ?_
  rintro σ H Q ⟨I, m, cs, env, er, sr, h⟩
  refine ⟨I, m, cs, env, er, sr, OutG.bindI h fun x cs1 v H1 I1 m1 s1 p1 sr1 r1 h1 => ?_⟩
  have e : x = v := r1
  subst e
  exact h1.okI sr1 rfl
def qAnd (p q : Den Bool) : Den Bool := fun env cs => (p env cs).bind fun b cs => if b = true then q env cs else .ok false cs
def qOr (p q : Den Bool) : Den Bool := fun env cs => (p env cs).bind fun b cs => if b = true then .ok true cs else q env cs
theorem dw_and1 (h : DT X T W e p) : DW X T W (.BoolOp .And [e] pos) p := PW.imp (pw_and1 h) fun _ _ _ q => q
theorem dw_or1 (h : DT X T W e p) : DW X T W (.BoolOp .Or [e] pos) p := PW.imp (pw_or1 h) fun _ _ _ q => q
theorem dw_and (ha : DT X T W a p) (hb : DW X T W (.BoolOp .And (b :: rest) pos) q) : DW X T W (.BoolOp .And (a :: b :: rest) pos) (qAnd p q) := by
  refine PW.imp (pw_and ha hb) ?_
  rintro σ H Q ⟨I, m, cs, env, er, sr, h⟩
  refine ⟨I, m, cs, env, er, sr, OutG.bindI h fun x cs1 v H1 I1 m1 s1 p1 sr1 r1 h1 => ?_⟩
  have e : x = v := r1
  subst e
  cases x with
  | true => exact ⟨I1, m1, cs1, env, er.mono s1 p1, sr1, h1⟩
  | false => exact h1.okI sr1 rfl
theorem dw_or (ha : DT X T W a p) (hb : DW X T W (.BoolOp .Or (b :: rest) pos) q) : DW X T W (.BoolOp .Or (a :: b :: rest) pos) (qOr p q) := by
  refine PW.imp (pw_or ha hb) ?_
  rintro σ H Q ⟨I, m, cs, env, er, sr, h⟩
  refine ⟨I, m, cs, env, er, sr, OutG.bindI h fun x cs1 v H1 I1 m1 s1 p1 sr1 r1 h1 => ?_⟩
  have e : x = v := r1
  subst e
  cases x with
  | false => exact ⟨I1, m1, cs1, env, er.mono s1 p1, sr1, h1⟩
  | true => exact h1.okI sr1 rfl
theorem DW.tt (h : DW X T W e p) : DT X T W e p := PW.pt h
/-- .. as values -/
def eAnd (f g : Den D) : Den D := fun env cs => (f env cs).bind fun x cs => match asB x with
  | some b => if b = true then g env cs else .ok (.bl false) cs
  | none => .no
def eOr (f g : Den D) : Den D := fun env cs => (f env cs).bind fun x cs => match asB x with
  | some b => if b = true then .ok (.bl true) cs else g env cs
  | none => .no
def eNot (f : Den D) : Den D := fun env cs => (f env cs).bind fun x cs => match asB x with
  | some b => .ok (.bl (!b)) cs
  | none => .no
theorem de_one {op} (h : DE X T W a f) : DE X T W (.BoolOp op [a] pos) f := PE.imp (pe_one h) fun _ _ _ q => q
theorem de_and (ha : DE X T W a f) (hb : DE X T W (.BoolOp .And (b :: rest) pos) g) : DE X T W (.BoolOp .And (a :: b :: rest) pos) (eAnd f g) := by
  refine PE.imp (pe_and ha hb) ?_
  rintro σ H Q ⟨I, m, cs, env, er, sr, h⟩
  refine ⟨I, m, cs, env, er, sr, OutG.bindI h fun x cs1 v H1 I1 m1 s1 p1 sr1 r1 h1 => ?_⟩
  cases e1 : asB x with
  | none => simp only [e1] at h1; exact h1.elim
  | some b =>
    have e := asB_ok e1; subst e
    simp only [e1] at h1
    refine ⟨b, rp_bl.mp r1, ?_⟩
    cases b with
    | true => exact ⟨I1, m1, cs1, env, er.mono s1 p1, sr1, h1⟩
    | false => exact h1.okI sr1 (rp_bl.mpr rfl)
theorem de_or (ha : DE X T W a f) (hb : DE X T W (.BoolOp .Or (b :: rest) pos) g) : DE X T W (.BoolOp .Or (a :: b :: rest) pos) (eOr f g) := by
  refine PE.imp (pe_or ha hb) ?_
  rintro σ H Q ⟨I, m, cs, env, er, sr, h⟩
  refine ⟨I, m, cs, env, er, sr, OutG.bindI h fun x cs1 v H1 I1 m1 s1 p1 sr1 r1 h1 => ?_⟩
  cases e1 : asB x with
  | none => simp only [e1] at h1; exact h1.elim
  | some b =>
    have e := asB_ok e1; subst e
    simp only [e1] at h1
    refine ⟨b, rp_bl.mp r1, ?_⟩
    cases b with
    | false => exact ⟨I1, m1, cs1, env, er.mono s1 p1, sr1, h1⟩
    | true => exact h1.okI sr1 (rp_bl.mpr rfl)
theorem de_not (ha : DE X T W a f) : DE X T W (.UnaryOp .Not a pos) (eNot f) := by
  refine PE.imp (pe_not ha) ?_
  rintro σ H Q ⟨I, m, cs, env, er, sr, h⟩
  refine ⟨I, m, cs, env, er, sr, OutG.bindI h fun x cs1 v H1 I1 m1 s1 p1 sr1 r1 h1 => ?_⟩
  cases e1 : asB x with
  | none => simp only [e1] at h1; exact h1.elim
  | some b =>
    have e := asB_ok e1; subst e
    simp only [e1] at h1
    exact ⟨b, rp_bl.mp r1, h1.okI sr1 (rp_bl.mpr rfl)⟩
/-- or by truth -/
def eOrT (f g : Den D) : Den D := fun env cs => (f env cs).bind fun x cs => match truD cs x with
  | some b => if b = true then .ok x cs else g env cs
  | none => .no
theorem de_orT (ha : DE X T W a f) (hb : DE X T W (.BoolOp .Or (b :: rest) pos) g) : DE X T W (.BoolOp .Or (a :: b :: rest) pos) (eOrT f g) := by
  refine PE.imp (pe_orT ha hb) ?_
  rintro σ H Q ⟨I, m, cs, env, er, sr, h⟩
  refine ⟨I, m, cs, env, er, sr, OutG.bindI h fun x cs1 v H1 I1 m1 s1 p1 sr1 r1 h1 => ?_⟩
  cases e1 : truD cs1 x with
  | none => simp only [e1] at h1; exact h1.elim
  | some b =>
    simp only [e1] at h1
    refine ⟨b, truD_ok sr1 r1 e1, ?_⟩
    cases b with
    | false => exact ⟨I1, m1, cs1, env, er.mono s1 p1, sr1, h1⟩
    | true => exact h1.okI sr1 r1
def dIf (p : Den Bool) (f g : Den D) : Den D := fun env cs => (p env cs).bind fun b cs => if b = true then f env cs else g env cs
theorem de_if (hc : DT X T W c p) (ha : DE X T W a f) (hb : DE X T W b g) : DE X T W (.IfExp c a b pos) (dIf p f g) := by
  refine PE.imp (pe_ifExp hc ha hb) ?_
  rintro σ H Q ⟨I, m, cs, env, er, sr, h⟩
  refine ⟨I, m, cs, env, er, sr, OutG.bindI h fun x cs1 v H1 I1 m1 s1 p1 sr1 r1 h1 => ?_⟩
  have e : x = v := r1
  subst e
  split at h1
  · rename_i hx
    rw [if_pos hx]
    exact ⟨I1, m1, cs1, env, er.mono s1 p1, sr1, h1⟩
  · rename_i hx
    rw [if_neg hx]
    exact ⟨I1, m1, cs1, env, er.mono s1 p1, sr1, h1⟩

/-! ### lists of expressions, displays -/
def dNil : Den (List D) := fun _ cs => .ok [] cs
def dCons (f : Den D) (g : Den (List D)) : Den (List D) := fun env cs => (f env cs).bind fun x cs => (g env cs).bind fun xs cs => .ok (x :: xs) cs
theorem da_nil : DA X T W [] dNil := PA.imp pa_nil fun σ H Q ⟨I, m, cs, env, er, sr, h⟩ => OutG.okI h sr RpL.nil
theorem da_cons {g : Den (List D)} (ha : DE X T W e f) (hb : DA X T W es g) (hs : starEach (e :: es) X.env = (false, eval e X.env) :: starEach es X.env := by rfl) : DA X T W (e :: es) (dCons f g) := by
  refine PA.imp (pa_cons ha hb hs) ?_
  rintro σ H Q ⟨I, m, cs, env, er, sr, h⟩
  refine ⟨I, m, cs, env, er, sr, OutG.bindI h fun x cs1 v H1 I1 m1 s1 p1 sr1 r1 h1 => ?_⟩
  refine ⟨I1, m1, cs1, env, er.mono s1 p1, sr1, OutG.bindI h1 fun y cs2 u H2 I2 m2 s2 p2 sr2 r2 h2 => ?_⟩
  exact h2.okI sr2 (RpL.cons (r1.mono s2 p2) r2)
def dTup (f : Den (List D)) : Den D := fun env cs => (f env cs).bind fun xs cs => if fits xs.length then .ok (.tup xs) cs else .no
/-- a list that is not changed any more -/
def dLst (f : Den (List D)) : Den D := fun env cs => (f env cs).bind fun xs cs => if fits xs.length then .ok (.lst xs) cs else .no
/-- a list that may be changed: a new cell -/
def dLstC (f : Den (List D)) : Den D := fun env cs => (f env cs).bind fun xs cs => if fits xs.length then .ok (.cell cs.length) (cs ++ [.lst xs]) else .no
theorem de_tup {g : Den (List D)} {j} (h : DA X T W es g) : DE X T W (.Tuple es j pos) (dTup g) := by
  refine PE.imp (pe_tup h) ?_
  rintro σ H Q ⟨I, m, cs, env, er, sr, h⟩
  refine ⟨I, m, cs, env, er, sr, OutG.bindI h fun x cs1 v H1 I1 m1 s1 p1 sr1 r1 h1 => ?_⟩
  split at h1
  · rename_i hz
    exact ⟨by rw [← RpL.length r1]; exact hz, fun p hp => rp_newT sr1 hp r1 h1⟩
  · exact h1.elim
theorem de_lst {g : Den (List D)} (h : DA X T W es g) : DE X T W (.List es pos) (dLst g) := by
  refine PE.imp (pe_lst h) ?_
  rintro σ H Q ⟨I, m, cs, env, er, sr, h⟩
  refine ⟨I, m, cs, env, er, sr, OutG.bindI h fun x cs1 v H1 I1 m1 s1 p1 sr1 r1 h1 => ?_⟩
  split at h1
  · rename_i hz
    exact ⟨by rw [← RpL.length r1]; exact hz, fun p hp => rp_newL sr1 hp r1 h1⟩
  · exact h1.elim
theorem rp_newC {K : PySem.W.Frag} {I H : Hp} {m : List Addr} {cs : List Cell} {c : Cell} {o : HO} {p : Addr} {Q : VK} {E : XK} (sr : SR T K I m cs H) (hp : H p = none) (r : CellR T K I m c o) (h : OutG T K (RD T K) I m (.ok (.cell cs.length) (cs ++ [c])) Q E) : Q (.ref p) (upd H p o) := by
  have s1 := sr.newC hp r
  exact h (.ref p) _ I (m ++ [p]) (Same.refl I) (List.prefix_append _ _) s1 (rp_cell.mpr ⟨p, by rw [← sr.len]; simp, rfl⟩)
theorem de_lstC {g : Den (List D)} (h : DA X T W es g) : DE X T W (.List es pos) (dLstC g) := by
  refine PE.imp (pe_lst h) ?_
  rintro σ H Q ⟨I, m, cs, env, er, sr, h⟩
  refine ⟨I, m, cs, env, er, sr, OutG.bindI h fun x cs1 v H1 I1 m1 s1 p1 sr1 r1 h1 => ?_⟩
  split at h1
  · rename_i hz
    exact ⟨by rw [← RpL.length r1]; exact hz, fun p hp => rp_newC (c := .lst x) sr1 hp r1 h1⟩
  · exact h1.elim
def dDicC : Den D := fun _ cs => .ok (.cell cs.length) (cs ++ [.dic [] []])
theorem de_dicC : DE X T W (.Dict [] [] pos) dDicC := by
  refine PE.imp pe_dnewK ?_
  rintro σ H Q ⟨I, m, cs, env, er, sr, h⟩
  exact fun p hp => rp_newC (c := .dic [] []) sr hp ⟨rfl, RpL.nil⟩ h
end
end
end DL
end

section
set_option Elab.async false
set_option linter.all false
set_option maxRecDepth 100000
set_option maxHeartbeats 4000000
namespace DL
open PySem L2
open Classical
noncomputable section
section
variable {X : Cx} {T : Tab} {W : WX} {a b c e o : Expr} {es rest : List Expr} {pos : Pos} {f g k : Den D} {p q r : Den Bool} {n : Nat}

/-! ### attributes -/
def atK (k : Nat) : List Nat → List D → Option D
  | k' :: ks, d :: ds => if k = k' then some d else atK k ks ds
  | _, _ => none
/-- what the table asks of the text's classes -/
def TabOk (K : PySem.W.Frag) (T : Tab) : Prop := ∀ c k, k ∈ T.od c → Cls K (T.ca c) ∧ NoAttr K (T.ca c) (T.nm k)
theorem atK_ok {K : PySem.W.Frag} {I : Hp} {m : List Addr} {k : Nat} (inj : ∀ i j, T.nm i = T.nm j → i = j) : ∀ {ks : List Nat} {ds : List D} {gs : List (Str × V)} {d : D}, gs.map (·.1) = ks.map T.nm → RpL T K I m ds (gs.map (·.2)) → atK k ks ds = some d →
    k ∈ ks ∧ ∃ v, gs.lookup (T.nm k) = some v ∧ Rp T K I m d v
  | [], _, _, _, _, _, h => by cases h
  | k' :: ks, [], gs, d, e, r, h => by cases h
  | k' :: ks, x :: ds, [], d, e, r, h => by simp at e
  | k' :: ks, x :: ds, (n, v) :: gs, d, e, r, h => by
    simp only [List.map_cons, List.cons.injEq] at e
    obtain ⟨v', r', e', q, r2⟩ := r.inv
    simp only [List.map_cons, List.cons.injEq] at e'
    obtain ⟨rfl, rfl⟩ := e'
    unfold atK at h
    split at h
    · rename_i hk
      subst hk
      cases h
      refine ⟨List.mem_cons_self, v, ?_, q⟩
      rw [e.1]
      simp [List.lookup]
    · rename_i hk
      obtain ⟨m1, w, h1, h2⟩ := atK_ok inj e.2 r2 h
      refine ⟨List.mem_cons_of_mem _ m1, w, ?_, h2⟩
      have hne : (T.nm k == n) = false := by
        rw [e.1]
        exact beq_eq_false_iff_ne.mpr fun z => hk (inj _ _ z)
      simp only [List.lookup, hne]
      exact h1
def getD (od : Nat → List Nat) (k : Nat) (x : D) (cs : List Cell) : Out D := match x with
  | .obj c ds => match atK k (od c) ds with
    | some d => .ok d cs
    | none => .no
  | .cell n => match cs[n]? with
    | some (.ins c ks ds) => if k ∈ od c then (match atK k ks ds with
      | some d => .ok d cs
      | none => .no) else .no
    | _ => .no
  | _ => .no
theorem de_get (TK : TabOk X.K T) (inj : ∀ i j, T.nm i = T.nm j → i = j) {od : Nat → List Nat} (hod : T.od = od) {k : Nat} {fn : Str} (hf : T.nm k = fn) (ha : DE X T W e f) (hb : attributeBase e fn X.env (eval e X.env) = eval e X.env := by rfl) : DE X T W (.Attribute e fn pos) (d1 f (getD od k)) := by
  subst hf hod
  refine PE.imp (pe_fld ha hb) ?_
  rintro σ H Q ⟨I, m, cs, env, er, sr, h⟩
  refine ⟨I, m, cs, env, er, sr, OutG.bindI h fun x cs1 v H1 I1 m1 s1 p1 sr1 r1 h1 => ?_⟩
  cases x with
  | obj c ds =>
    unfold getD at h1
    simp only at h1
    unfold Rp at r1
    obtain ⟨a, dx, gs, rfl, q1, q2, q3⟩ := r1
    cases hk : atK k (T.od c) ds with
    | none => simp only [hk] at h1; exact h1.elim
    | some d =>
      simp only [hk] at h1
      obtain ⟨mk, w, h2, h3⟩ := atK_ok inj q2 q3 hk
      obtain ⟨c1, c2⟩ := TK c k mk
      exact ⟨a, T.ca c, dx, gs, w, rfl, sr1.same _ _ q1, c1, c2, h2, h1.okI sr1 h3⟩
  | cell n =>
    unfold getD at h1
    simp only at h1
    obtain ⟨a, e1, rfl⟩ := rp_cell.mp r1
    cases hc : cs1[n]? with
    | none => simp only [hc] at h1; exact h1.elim
    | some cc =>
      cases cc with
      | ins c ks ds =>
        simp only [hc] at h1
        split at h1
        · rename_i mk
          obtain ⟨a', ob, q1, q2, q3, q4⟩ := sr1.at_ n _ hc (by intro z; cases z)
          rw [e1] at q1; cases q1
          cases ob with
          | ins C dx gs =>
            obtain ⟨rfl, q5, q6⟩ := q4
            cases hk : atK k ks ds with
            | none => simp only [hk] at h1; exact h1.elim
            | some d =>
              simp only [hk] at h1
              obtain ⟨_, w, h2, h3⟩ := atK_ok inj q5 q6 hk
              obtain ⟨c1, c2⟩ := TK c k mk
              exact ⟨a, T.ca c, dx, gs, w, rfl, q3, c1, c2, h2, h1.okI sr1 h3⟩
          | _ => exact q4.elim
        · exact h1.elim
      | _ => simp only [hc] at h1; exact h1.elim
  | _ => exact h1.elim

/-! ### items -/
def ixD (x y : D) (cs : List Cell) : Out D := match asI y with
  | some i => match x with
    | .str z => match atI z.cps.toList i with
      | some c => if fits z.length then .ok (.str ⟨#[c]⟩) cs else .no
      | none => .no
    | x => match itemsS cs x with
      | some xs => match atI xs i with
        | some d => .ok d cs
        | none => .no
      | none => .no
  | none => .no
theorem RpL.atI {K : PySem.W.Frag} {I : Hp} {m : List Addr} {ds : List D} {vs : List V} {i : Int} {d : D} (r : RpL T K I m ds vs) (h : L2.atI ds i = some d) : ∃ v, L2.atI vs i = some v ∧ Rp T K I m d v := by
  unfold L2.atI at h ⊢
  rw [← r.length]
  cases hx : ixN ds.length i with
  | none => rw [hx] at h; cases h
  | some j =>
    rw [hx] at h
    exact r.get h
theorem de_ix (ha : DE X T W a f) (hb : DE X T W b g) (hs : PlainIx b := by intro _ _; rfl) : DE X T W (.Subscript a b pos) (d2 f g ixD) := by
  refine PE.imp (pe_ix ix_seq ha hb hs) (tOp_of (fun I m cs H x y v u Q E sr rx ry h => ?_) rfl rfl)
  unfold ixD at h
  cases hy : asI y with
  | none => simp only [hy] at h; exact h.elim
  | some i =>
    have e := asI_ok hy; subst e
    have eu := rp_int.mp ry
    subst eu
    simp only [hy] at h
    by_cases hz : ∃ z, x = .str z
    · obtain ⟨z, rfl⟩ := hz
      simp only at h
      cases ha : atI z.cps.toList i with
      | none => simp only [ha] at h; exact h.elim
      | some c =>
        simp only [ha] at h
        split at h
        · rename_i hl
          exact .inr (.inr ⟨z, i, c, rp_str.mp rx, rfl, hl, ha, h.okI sr (rp_str.mpr rfl)⟩)
        · exact h.elim
    · have h' : OutG T X.K (RD T X.K) I m (match itemsS cs x with
          | some xs => match atI xs i with
            | some d => .ok d cs
            | none => .no
          | none => .no) Q E := by
        cases x <;> first | exact h | exact absurd ⟨_, rfl⟩ hz
      cases hi : itemsS cs x with
      | none => simp only [hi] at h'; exact h'.elim
      | some xs =>
        simp only [hi] at h'
        obtain ⟨p, vs, rfl, q1, q2⟩ := itemsS_ok sr rx hi
        cases ha : atI xs i with
        | none => simp only [ha] at h'; exact h'.elim
        | some d =>
          simp only [ha] at h'
          obtain ⟨w, h2, h3⟩ := q2.atI ha
          rcases q1 with q1 | q1
          · exact .inl ⟨p, vs, i, w, rfl, rfl, q1.l, h2, h'.okI sr h3⟩
          · exact .inr (.inl ⟨p, vs, i, w, rfl, rfl, q1, h2, h'.okI sr h3⟩)
/-! ### slices -/
def cutL {α : Type} (xs : List α) (lo hi : Option Int) : List α := (xs.drop (HT.sIx xs.length 0 lo)).take (HT.sIx xs.length xs.length hi - HT.sIx xs.length 0 lo)
theorem RpL.cutL {K : PySem.W.Frag} {I : Hp} {m : List Addr} {ds : List D} {vs : List V} (r : RpL T K I m ds vs) (lo hi : Option Int) : RpL T K I m (DL.cutL ds lo hi) (cutV vs lo hi) := by
  unfold DL.cutL cutV
  rw [← r.length]
  exact (r.drop).take
/-- the parts of a slice: none, or an int -/
abbrev DenO := Env → List Cell → Out (Option Int)
def oNone : DenO := fun _ cs => .ok none cs
def oSome (f : Den D) : DenO := fun env cs => (f env cs).bind fun x cs => match asI x with
  | some i => .ok (some i) cs
  | none => .no
def DO (X : Cx) (T : Tab) (W : WX) (e : Option Expr) (f : DenO) : Prop := PO X e (tG T X.K W (fun _ _ x y => x = y) f)
theorem PO.imp {e : Option Expr} {t t' : TO} (h : PO X e t) (i : ∀ σ H Q, t' σ H Q → t σ H Q) : PO X e t' := ⟨fun pins s σ H Q I q => h.run pins s σ H Q I (i σ H Q q)⟩
theorem do_none : DO X T W none oNone := PO.imp po_none fun σ H Q ⟨I, m, cs, env, er, sr, h⟩ => OutG.okI h sr rfl
theorem do_some (h : DE X T W e f) : DO X T W (some e) (oSome f) := by
  refine PO.imp (po_some h) ?_
  rintro σ H Q ⟨I, m, cs, env, er, sr, h⟩
  refine ⟨I, m, cs, env, er, sr, OutG.bindI h fun x cs1 v H1 I1 m1 s1 p1 sr1 r1 h1 => ?_⟩
  cases hx : asI x with
  | none => simp only [hx] at h1; exact h1.elim
  | some i =>
    have e := asI_ok hx; subst e
    simp only [hx] at h1
    exact ⟨i, rp_int.mp r1, h1.okI sr1 rfl⟩
def sliceD (x : D) (lo hi : Option Int) (cs : List Cell) : Out D := match x with
  | .str z => if fits z.length then .ok (.str (cutS z lo hi)) cs else .no
  | .tup xs => .ok (.tup (cutL xs lo hi)) cs
  | x => match itemsL cs x with
    | some xs => .ok (.lst (cutL xs lo hi)) cs
    | none => .no
def dSl (f : Den D) (l h : DenO) : Den D := fun env cs => (f env cs).bind fun x cs => (l env cs).bind fun lo cs => (h env cs).bind fun hi cs => sliceD x lo hi cs
theorem cutL_whole {α : Type} {xs : List α} {lo hi : Option Int} (h : HT.sIx xs.length 0 lo = 0 ∧ HT.sIx xs.length xs.length hi = xs.length) : cutL xs lo hi = xs := by
  unfold cutL
  rw [h.1, h.2]
  simp
theorem de_slice {lo hi : Option Expr} {l h : DenO} {p2 : Pos} (ha : DE X T W e f) (hl : DO X T W lo l) (hh : DO X T W hi h) : DE X T W (.Subscript e (.Slice lo hi none p2) pos) (dSl f l h) := by
  refine PE.imp (pe_slice (sl_str.or (sl_tupA.or sl_list)) ha hl hh) ?_
  rintro σ H Q ⟨I, m, cs, env, er, sr, h⟩
  refine ⟨I, m, cs, env, er, sr, OutG.bindI h fun x cs1 v H1 I1 m1 s1 p1 sr1 r1 h1 => ?_⟩
  refine ⟨I1, m1, cs1, env, er.mono s1 p1, sr1, OutG.bindI h1 fun lo' cs2 lo2 H2 I2 m2 s2 p2 sr2 r2 h2 => ?_⟩
  have e2 : lo' = lo2 := r2
  subst e2
  refine ⟨I2, m2, cs2, env, (er.mono s1 p1).mono s2 p2, sr2, OutG.bindI h2 fun hi' cs3 hi2 H3 I3 m3 s3 p3 sr3 r3 h3 => ?_⟩
  have e3 : hi' = hi2 := r3
  subst e3
  have rx := (r1.mono s2 p2).mono s3 p3
  by_cases hz : ∃ z, x = .str z
  · obtain ⟨z, rfl⟩ := hz
    unfold sliceD at h3
    simp only at h3
    split at h3
    · rename_i hl
      exact .inl ⟨z, rp_str.mp rx, hl, h3.okI sr3 (rp_str.mpr rfl)⟩
    · exact h3.elim
  · by_cases ht : ∃ z, x = .tup z
    · obtain ⟨xs, rfl⟩ := ht
      unfold sliceD at h3
      simp only at h3
      obtain ⟨p, vs, rfl, q1, q2⟩ := rp_tup.mp rx
      refine .inr (.inl ⟨p, vs, rfl, SqT.same sr3.same q1, fun hw => ?_, fun _ p hp => rp_newT sr3 hp (q2.cutL _ _) h3⟩)
      have hw' : HT.sIx xs.length 0 lo' = 0 ∧ HT.sIx xs.length xs.length hi' = xs.length := by rw [q2.length]; exact hw
      rw [cutL_whole hw'] at h3
      exact h3.okI sr3 rx
    · have h' : OutG T X.K (RD T X.K) I3 m3 (match itemsL cs3 x with
          | some xs => .ok (.lst (cutL xs lo' hi')) cs3
          | none => .no) Q (fun cls od H' => W cls od σ H') := by
        cases x <;> first | exact h3 | exact absurd ⟨_, rfl⟩ hz | exact absurd ⟨_, rfl⟩ ht
      cases hi : itemsL cs3 x with
      | none => simp only [hi] at h'; exact h'.elim
      | some xs =>
        simp only [hi] at h'
        obtain ⟨p, vs, rfl, q1, q2⟩ := itemsL_ok sr3 rx hi
        exact .inr (.inr ⟨p, vs, rfl, q1.l, fun p hp => rp_newL sr3 hp (q2.cutL _ _) h'⟩)
/-- xs[::-1] of a list -/
def revD (x : D) (cs : List Cell) : Out D := match itemsL cs x with
  | some xs => .ok (.lst xs.reverse) cs
  | none => .no
theorem de_rev {k : Nat} {p1 p2 p3 : Pos} (ha : DE X T W e f) : DE X T W (.Subscript e (.Slice none none (some (.UnaryOp .USub (.Constant (.int 1) k p1) p2)) p3) pos) (d1 f revD) := by
  refine PE.imp (pe_revL ha) ?_
  rintro σ H Q ⟨I, m, cs, env, er, sr, h⟩
  refine ⟨I, m, cs, env, er, sr, OutG.bindI h fun x cs1 v H1 I1 m1 s1 p1 sr1 r1 h1 => ?_⟩
  unfold revD at h1
  cases hi : itemsL cs1 x with
  | none => simp only [hi] at h1; exact h1.elim
  | some xs =>
    simp only [hi] at h1
    obtain ⟨p, vs, rfl, q1, q2⟩ := itemsL_ok sr1 r1 hi
    exact ⟨p, vs, rfl, q1.l, fun p hp => rp_newL sr1 hp q2.reverse h1⟩

/-! ### built-ins by their name, methods of built-in types -/
/-- what a call of a built-in promises on data -/
abbrev HkC (T : Tab) (K : PySem.W.Frag) (r : List V → Hp → VK → Prop) (k : List D → List Cell → Out D) : Prop :=
  ∀ (I : Hp) (m : List Addr) (cs : List Cell) (H : Hp) (xs : List D) (vs : List V) (Q : VK) (E : XK), SR T K I m cs H → RpL T K I m xs vs → OutG T K (RD T K) I m (k xs cs) Q E → r vs H Q
def dCall (g : Den (List D)) (k : List D → List Cell → Out D) : Den D := fun env cs => (g env cs).bind fun xs cs => k xs cs
theorem tCB_of {g : Den (List D)} {k : List D → List Cell → Out D} {r : List V → Hp → VK → Prop} (hk : HkC T X.K r k) {ta : TA} (e : ta = tG T X.K W (RL T X.K) g) : ∀ σ H Q, tG T X.K W (RD T X.K) (dCall g k) σ H Q → tCB r ta σ H Q := by
  subst e
  rintro σ H Q ⟨I, m, cs, env, er, sr, h⟩
  refine ⟨I, m, cs, env, er, sr, OutG.bindI h fun x cs1 v H1 I1 m1 s1 p1 sr1 r1 h1 => ?_⟩
  exact hk I1 m1 cs1 H1 x v Q _ sr1 r1 h1
theorem de_callB {x : Str} {id : String} {r : List V → Hp → VK → Prop} {p : Pos} {g : Den (List D)} {k : List D → List Cell → Out D} (hc : CallR X (.builtin id) r) (hk : HkC T X.K r k) (hm : X.mg x = none) (ha : DA X T W (e :: es) g)
    (hg : Gl X x := by rfl) (hv : bootBuiltins x = some (.builtin id) := by decide +kernel) (hn : x ≠ "__name__" := by decide) (hdb : (x == ("__debug__" : Str)) = false := by decide)
    (he : starEach (e :: es) X.env = (false, eval e X.env) :: starEach es X.env := by rfl) (hpl : (backTo pos (starEach es X.env)).any (·.1) = false := by rfl) : DE X T W (.Call (.Name x p) (e :: es) [] pos) (dCall g k) :=
  PE.imp (pe_callB hc hg hm hv ha hn hdb he hpl) (tCB_of hk rfl)
theorem de_callTy {x : Str} {id : String} {r : List V → Hp → VK → Prop} {p : Pos} {g : Den (List D)} {k : List D → List Cell → Out D} (hc : CallR X (.type id) r) (hk : HkC T X.K r k) (hm : X.mg x = none) (ha : DA X T W (e :: es) g)
    (hg : Gl X x := by rfl) (hv : bootBuiltins x = some (.type id) := by decide +kernel) (hn : x ≠ "__name__" := by decide) (hdb : (x == ("__debug__" : Str)) = false := by decide)
    (he : starEach (e :: es) X.env = (false, eval e X.env) :: starEach es X.env := by rfl) (hpl : (backTo pos (starEach es X.env)).any (·.1) = false := by rfl) : DE X T W (.Call (.Name x p) (e :: es) [] pos) (dCall g k) :=
  PE.imp (pe_callTy hc hg hm hv ha hn hdb he hpl) (tCB_of hk rfl)
theorem RpL.i1 {K : PySem.W.Frag} {I : Hp} {m : List Addr} {x : D} {vs : List V} (h : RpL T K I m [x] vs) : ∃ v, vs = [v] ∧ Rp T K I m x v := by
  obtain ⟨v, r, rfl, q, h'⟩ := h.inv
  have e := h'.inil
  subst e
  exact ⟨v, rfl, q⟩
theorem RpL.i2 {K : PySem.W.Frag} {I : Hp} {m : List Addr} {x y : D} {vs : List V} (h : RpL T K I m [x, y] vs) : ∃ v u, vs = [v, u] ∧ Rp T K I m x v ∧ Rp T K I m y u := by
  obtain ⟨v, r, rfl, q, h'⟩ := h.inv
  obtain ⟨u, rfl, q'⟩ := h'.i1
  exact ⟨v, u, rfl, q, q'⟩
/-- len -/
def lenD1 (x : D) (cs : List Cell) : Out D := match x with
  | .str z => if fits z.length then .ok (.int z.length) cs else .no
  | x => match itemsS cs x with
    | some ys => .ok (.int ys.length) cs
    | none => .no
def lenD (xs : List D) (cs : List Cell) : Out D := match xs with
  | [x] => lenD1 x cs
  | _ => .no
theorem hk_len {K : PySem.W.Frag} : HkC T K (fun xs H Q => (∃ p ys, xs = [.ref p] ∧ (SqL K H p ys ∨ SqT K H p ys) ∧ Q (.int ys.length) H) ∨ ∃ z, xs = [.str z] ∧ z.length ≤ sizeLine ∧ Q (.int z.length) H) lenD := by
  intro I m cs H xs vs Q E sr rx h
  match xs, rx, h with
  | [], _, h => exact h.elim
  | _ :: _ :: _, _, h => exact (by unfold lenD at h; exact h.elim)
  | [x], rx, h =>
    obtain ⟨v, rfl, r⟩ := rx.i1
    by_cases hz : ∃ z, x = .str z
    · obtain ⟨z, rfl⟩ := hz
      unfold lenD lenD1 at h
      simp only at h
      split at h
      · rename_i hl
        exact .inr ⟨z, by rw [rp_str.mp r], hl, h.okI sr (rp_int.mpr rfl)⟩
      · exact h.elim
    · have h' : OutG T K (RD T K) I m (match itemsS cs x with
          | some ys => .ok (.int ys.length) cs
          | none => .no) Q E := by
        cases x <;> first | exact h | exact absurd ⟨_, rfl⟩ hz
      cases hi : itemsS cs x with
      | none => simp only [hi] at h'; exact h'.elim
      | some ys =>
        simp only [hi] at h'
        obtain ⟨p, vs, rfl, q1, q2⟩ := itemsS_ok sr r hi
        refine .inl ⟨p, vs, rfl, q1.imp SqX.l id, ?_⟩
        rw [q2.length] at h'
        exact h'.okI sr (rp_int.mpr rfl)
theorem de_len {p : Pos} {g : Den (List D)} (hm : X.mg "len" = none) (ha : DA X T W [e] g) (hg : Gl X "len" := by rfl) (he : starEach [e] X.env = (false, eval e X.env) :: starEach [] X.env := by rfl) : DE X T W (.Call (.Name "len" p) [e] [] pos) (dCall g lenD) :=
  de_callB (call_len_seq.or call_len_str) hk_len hm ha (hg := hg) (he := he) (hpl := rfl)
/-- tuple(xs) -/
def tupleD (xs : List D) (cs : List Cell) : Out D := match xs with
  | [x] => match itemsS cs x with
    | some ys => .ok (.tup ys) cs
    | none => .no
  | _ => .no
theorem hk_tuple {K : PySem.W.Frag} : HkC T K (fun xs H Q => ∃ p ys, xs = [.ref p] ∧ ((SqL K H p ys ∧ ∀ l, H l = none → Q (.ref l) (upd H l (.tup ys))) ∨ (SqT K H p ys ∧ Q (.ref p) H))) tupleD := by
  intro I m cs H xs vs Q E sr rx h
  match xs, rx, h with
  | [], _, h => exact h.elim
  | _ :: _ :: _, _, h => exact (by unfold tupleD at h; exact h.elim)
  | [x], rx, h =>
    obtain ⟨v, rfl, r⟩ := rx.i1
    unfold tupleD at h
    simp only at h
    by_cases ht : ∃ z, x = .tup z
    · obtain ⟨ys, rfl⟩ := ht
      obtain ⟨p, vs, rfl, q1, q2⟩ := rp_tup.mp r
      exact ⟨p, vs, rfl, .inr ⟨SqT.same sr.same q1, h.okI sr r⟩⟩
    · have hS : itemsS cs x = itemsL cs x := by cases x <;> first | rfl | exact absurd ⟨_, rfl⟩ ht
      rw [hS] at h
      cases hi : itemsL cs x with
      | none => simp only [hi] at h; exact h.elim
      | some ys =>
        simp only [hi] at h
        obtain ⟨p, vs, rfl, q1, q2⟩ := itemsL_ok sr r hi
        exact ⟨p, vs, rfl, .inl ⟨q1.l, fun l hl => rp_newT sr hl q2 h⟩⟩
theorem de_tuple {p : Pos} {g : Den (List D)} (hm : X.mg "tuple" = none) (ha : DA X T W [e] g) (hg : Gl X "tuple" := by rfl) (he : starEach [e] X.env = (false, eval e X.env) :: starEach [] X.env := by rfl) : DE X T W (.Call (.Name "tuple" p) [e] [] pos) (dCall g tupleD) :=
  de_callTy call_tuple_of hk_tuple hm ha (hg := hg) (he := he) (hpl := rfl)
/-- list(xs): frozen, or a cell -/
def listD (xs : List D) (cs : List Cell) : Out D := match xs with
  | [x] => match itemsS cs x with
    | some ys => .ok (.lst ys) cs
    | none => .no
  | _ => .no
def listC (xs : List D) (cs : List Cell) : Out D := match xs with
  | [x] => match itemsS cs x with
    | some ys => .ok (.cell cs.length) (cs ++ [.lst ys])
    | none => .no
  | _ => .no
theorem hk_list {K : PySem.W.Frag} : HkC T K (fun xs H Q => ∃ p ys, xs = [.ref p] ∧ (SqL K H p ys ∨ SqT K H p ys) ∧ ∀ l, H l = none → Q (.ref l) (upd H l (.lst ys))) listD := by
  intro I m cs H xs vs Q E sr rx h
  match xs, rx, h with
  | [], _, h => exact h.elim
  | _ :: _ :: _, _, h => exact (by unfold listD at h; exact h.elim)
  | [x], rx, h =>
    obtain ⟨v, rfl, r⟩ := rx.i1
    unfold listD at h
    simp only at h
    cases hi : itemsS cs x with
    | none => simp only [hi] at h; exact h.elim
    | some ys =>
      simp only [hi] at h
      obtain ⟨p, vs, rfl, q1, q2⟩ := itemsS_ok sr r hi
      exact ⟨p, vs, rfl, q1.imp SqX.l id, fun l hl => rp_newL sr hl q2 h⟩
theorem hk_listC {K : PySem.W.Frag} : HkC T K (fun xs H Q => ∃ p ys, xs = [.ref p] ∧ (SqL K H p ys ∨ SqT K H p ys) ∧ ∀ l, H l = none → Q (.ref l) (upd H l (.lst ys))) listC := by
  intro I m cs H xs vs Q E sr rx h
  match xs, rx, h with
  | [], _, h => exact h.elim
  | _ :: _ :: _, _, h => exact (by unfold listC at h; exact h.elim)
  | [x], rx, h =>
    obtain ⟨v, rfl, r⟩ := rx.i1
    unfold listC at h
    simp only at h
    cases hi : itemsS cs x with
    | none => simp only [hi] at h; exact h.elim
    | some ys =>
      simp only [hi] at h
      obtain ⟨p, vs, rfl, q1, q2⟩ := itemsS_ok sr r hi
      exact ⟨p, vs, rfl, q1.imp SqX.l id, fun l hl => rp_newC (c := .lst ys) sr hl q2 h⟩
theorem de_list {p : Pos} {g : Den (List D)} (hm : X.mg "list" = none) (ha : DA X T W [e] g) (hg : Gl X "list" := by rfl) (he : starEach [e] X.env = (false, eval e X.env) :: starEach [] X.env := by rfl) : DE X T W (.Call (.Name "list" p) [e] [] pos) (dCall g listD) :=
  de_callTy call_list_of hk_list hm ha (hg := hg) (he := he) (hpl := rfl)
theorem de_listC {p : Pos} {g : Den (List D)} (hm : X.mg "list" = none) (ha : DA X T W [e] g) (hg : Gl X "list" := by rfl) (he : starEach [e] X.env = (false, eval e X.env) :: starEach [] X.env := by rfl) : DE X T W (.Call (.Name "list" p) [e] [] pos) (dCall g listC) :=
  de_callTy call_list_of hk_listC hm ha (hg := hg) (he := he) (hpl := rfl)
/-- abs, int -/
def absD (xs : List D) (cs : List Cell) : Out D := match xs with
  | [.int i] => .ok (.int (if i < 0 then -i else i)) cs
  | _ => .no
theorem hk_abs {K : PySem.W.Frag} : HkC T K (fun xs H Q => ∃ i, xs = [.int i] ∧ Q (.int (if i < 0 then -i else i)) H) absD := by
  intro I m cs H xs vs Q E sr rx h
  unfold absD at h
  split at h
  · obtain ⟨v, rfl, r⟩ := rx.i1
    exact ⟨_, by rw [rp_int.mp r], h.okI sr (rp_int.mpr rfl)⟩
  · exact h.elim
theorem de_abs {p : Pos} {g : Den (List D)} (hm : X.mg "abs" = none) (ha : DA X T W [e] g) (hg : Gl X "abs" := by rfl) (he : starEach [e] X.env = (false, eval e X.env) :: starEach [] X.env := by rfl) : DE X T W (.Call (.Name "abs" p) [e] [] pos) (dCall g absD) :=
  de_callB call_abs hk_abs hm ha (hg := hg) (he := he) (hpl := rfl)
def intD (xs : List D) (cs : List Cell) : Out D := match xs with
  | [.int i] => .ok (.int i) cs
  | [.bl k] => .ok (.int (if k then 1 else 0)) cs
  | _ => .no
theorem hk_int {K : PySem.W.Frag} : HkC T K (fun xs H Q => (∃ i, xs = [.int i] ∧ Q (.int i) H) ∨ ∃ k, xs = [.bl k] ∧ Q (.int (if k then 1 else 0)) H) intD := by
  intro I m cs H xs vs Q E sr rx h
  unfold intD at h
  split at h
  · obtain ⟨v, rfl, r⟩ := rx.i1
    exact .inl ⟨_, by rw [rp_int.mp r], h.okI sr (rp_int.mpr rfl)⟩
  · obtain ⟨v, rfl, r⟩ := rx.i1
    exact .inr ⟨_, by rw [rp_bl.mp r], h.okI sr (rp_int.mpr rfl)⟩
  · exact h.elim
theorem de_toint {p : Pos} {g : Den (List D)} (hm : X.mg "int" = none) (ha : DA X T W [e] g) (hg : Gl X "int" := by rfl) (he : starEach [e] X.env = (false, eval e X.env) :: starEach [] X.env := by rfl) : DE X T W (.Call (.Name "int" p) [e] [] pos) (dCall g intD) :=
  de_callTy call_int1 hk_int hm ha (hg := hg) (he := he) (hpl := rfl)
/-- max(i, j), min(i, j) -/
def max2D (xs : List D) (cs : List Cell) : Out D := match xs with
  | [.int i, .int j] => .ok (.int (if j > i then j else i)) cs
  | _ => .no
def min2D (xs : List D) (cs : List Cell) : Out D := match xs with
  | [.int i, .int j] => .ok (.int (if j < i then j else i)) cs
  | _ => .no
theorem hk_max2 {K : PySem.W.Frag} : HkC T K (fun xs H Q => ∃ i j, xs = [.int i, .int j] ∧ Q (.int (if j > i then j else i)) H) max2D := by
  intro I m cs H xs vs Q E sr rx h
  unfold max2D at h
  split at h
  · obtain ⟨v, u, rfl, r1, r2⟩ := rx.i2
    exact ⟨_, _, by rw [rp_int.mp r1, rp_int.mp r2], h.okI sr (rp_int.mpr rfl)⟩
  · exact h.elim
theorem hk_min2 {K : PySem.W.Frag} : HkC T K (fun xs H Q => ∃ i j, xs = [.int i, .int j] ∧ Q (.int (if j < i then j else i)) H) min2D := by
  intro I m cs H xs vs Q E sr rx h
  unfold min2D at h
  split at h
  · obtain ⟨v, u, rfl, r1, r2⟩ := rx.i2
    exact ⟨_, _, by rw [rp_int.mp r1, rp_int.mp r2], h.okI sr (rp_int.mpr rfl)⟩
  · exact h.elim
theorem de_max2 {p : Pos} {g : Den (List D)} (hc : X.calm = true) (hm : X.mg "max" = none) (ha : DA X T W [a, b] g) (hg : Gl X "max" := by rfl) (he : starEach [a, b] X.env = (false, eval a X.env) :: starEach [b] X.env := by rfl) (hpl : (backTo pos (starEach [b] X.env)).any (·.1) = false := by rfl) : DE X T W (.Call (.Name "max" p) [a, b] [] pos) (dCall g max2D) :=
  de_callB (call_max2 hc) hk_max2 hm ha (hg := hg) (he := he) (hpl := hpl)
theorem de_min2 {p : Pos} {g : Den (List D)} (hc : X.calm = true) (hm : X.mg "min" = none) (ha : DA X T W [a, b] g) (hg : Gl X "min" := by rfl) (he : starEach [a, b] X.env = (false, eval a X.env) :: starEach [b] X.env := by rfl) (hpl : (backTo pos (starEach [b] X.env)).any (·.1) = false := by rfl) : DE X T W (.Call (.Name "min" p) [a, b] [] pos) (dCall g min2D) :=
  de_callB (call_min2 hc) hk_min2 hm ha (hg := hg) (he := he) (hpl := hpl)
/-- all the items as ints, as truths -/
def intsD : List D → Option (List Int)
  | [] => some []
  | .int i :: r => (intsD r).map (i :: ·)
  | _ => none
def blsD : List D → Option (List Bool)
  | [] => some []
  | .bl i :: r => (blsD r).map (i :: ·)
  | _ => none
theorem intsD_ok {K : PySem.W.Frag} {I : Hp} {m : List Addr} : ∀ {ds : List D} {vs : List V} {ns : List Int}, RpL T K I m ds vs → intsD ds = some ns → vs = ns.map V.int
  | [], vs, ns, r, e => by have := r.inil; subst this; cases e; rfl
  | .int i :: ds, vs, ns, r, e => by
    obtain ⟨v, r', rfl, q, k⟩ := r.inv
    unfold intsD at e
    cases h : intsD ds with
    | none => rw [h] at e; cases e
    | some ms =>
      rw [h] at e
      cases e
      rw [intsD_ok k h, rp_int.mp q]; rfl
  | .non :: _, _, _, _, e => by cases e
  | .bl _ :: _, _, _, _, e => by cases e
  | .str _ :: _, _, _, _, e => by cases e
  | .tup _ :: _, _, _, _, e => by cases e
  | .lst _ :: _, _, _, _, e => by cases e
  | .obj _ _ :: _, _, _, _, e => by cases e
  | .dic _ _ :: _, _, _, _, e => by cases e
  | .cell _ :: _, _, _, _, e => by cases e
  | .exc _ _ _ :: _, _, _, _, e => by cases e
theorem blsD_ok {K : PySem.W.Frag} {I : Hp} {m : List Addr} : ∀ {ds : List D} {vs : List V} {ns : List Bool}, RpL T K I m ds vs → blsD ds = some ns → vs = ns.map V.bl
  | [], vs, ns, r, e => by have := r.inil; subst this; cases e; rfl
  | .bl i :: ds, vs, ns, r, e => by
    obtain ⟨v, r', rfl, q, k⟩ := r.inv
    unfold blsD at e
    cases h : blsD ds with
    | none => rw [h] at e; cases e
    | some ms =>
      rw [h] at e
      cases e
      rw [blsD_ok k h, rp_bl.mp q]; rfl
  | .non :: _, _, _, _, e => by cases e
  | .int _ :: _, _, _, _, e => by cases e
  | .str _ :: _, _, _, _, e => by cases e
  | .tup _ :: _, _, _, _, e => by cases e
  | .lst _ :: _, _, _, _, e => by cases e
  | .obj _ _ :: _, _, _, _, e => by cases e
  | .dic _ _ :: _, _, _, _, e => by cases e
  | .cell _ :: _, _, _, _, e => by cases e
  | .exc _ _ _ :: _, _, _, _, e => by cases e
def sumD (xs : List D) (cs : List Cell) : Out D := match xs with
  | [x] => match (itemsL cs x).bind intsD with
    | some ns => .ok (.int ns.sum) cs
    | none => .no
  | _ => .no
def allD (xs : List D) (cs : List Cell) : Out D := match xs with
  | [x] => match (itemsL cs x).bind blsD with
    | some ns => .ok (.bl (ns.all id)) cs
    | none => .no
  | _ => .no
def anyD (xs : List D) (cs : List Cell) : Out D := match xs with
  | [x] => match (itemsL cs x).bind blsD with
    | some ns => .ok (.bl (ns.any id)) cs
    | none => .no
  | _ => .no
theorem bind_some {α β : Type} {x : Option α} {f : α → Option β} {b : β} (h : x.bind f = some b) : ∃ a, x = some a ∧ f a = some b := by
  cases x with
  | none => cases h
  | some a => exact ⟨a, rfl, h⟩
theorem hk_sum {K : PySem.W.Frag} : HkC T K (rSum K) sumD := by
  intro I m cs H xs vs Q E sr rx h
  match xs, rx, h with
  | [], _, h => exact h.elim
  | _ :: _ :: _, _, h => exact (by unfold sumD at h; exact h.elim)
  | [x], rx, h =>
    obtain ⟨v, rfl, r⟩ := rx.i1
    unfold sumD at h
    simp only at h
    cases hi : (itemsL cs x).bind intsD with
    | none => simp only [hi] at h; exact h.elim
    | some ns =>
      simp only [hi] at h
      obtain ⟨ys, h1, h2⟩ := bind_some hi
      obtain ⟨p, vs, rfl, q1, q2⟩ := itemsL_ok sr r h1
      have e := intsD_ok q2 h2
      subst e
      exact ⟨p, ns, rfl, q1.l, h.okI sr (rp_int.mpr rfl)⟩
theorem hk_all {K : PySem.W.Frag} : HkC T K (rAll K) allD := by
  intro I m cs H xs vs Q E sr rx h
  match xs, rx, h with
  | [], _, h => exact h.elim
  | _ :: _ :: _, _, h => exact (by unfold allD at h; exact h.elim)
  | [x], rx, h =>
    obtain ⟨v, rfl, r⟩ := rx.i1
    unfold allD at h
    simp only at h
    cases hi : (itemsL cs x).bind blsD with
    | none => simp only [hi] at h; exact h.elim
    | some ns =>
      simp only [hi] at h
      obtain ⟨ys, h1, h2⟩ := bind_some hi
      obtain ⟨p, vs, rfl, q1, q2⟩ := itemsL_ok sr r h1
      have e := blsD_ok q2 h2
      subst e
      exact ⟨p, ns, rfl, q1.l, h.okI sr (rp_bl.mpr rfl)⟩
theorem hk_any {K : PySem.W.Frag} : HkC T K (rAny K) anyD := by
  intro I m cs H xs vs Q E sr rx h
  match xs, rx, h with
  | [], _, h => exact h.elim
  | _ :: _ :: _, _, h => exact (by unfold anyD at h; exact h.elim)
  | [x], rx, h =>
    obtain ⟨v, rfl, r⟩ := rx.i1
    unfold anyD at h
    simp only at h
    cases hi : (itemsL cs x).bind blsD with
    | none => simp only [hi] at h; exact h.elim
    | some ns =>
      simp only [hi] at h
      obtain ⟨ys, h1, h2⟩ := bind_some hi
      obtain ⟨p, vs, rfl, q1, q2⟩ := itemsL_ok sr r h1
      have e := blsD_ok q2 h2
      subst e
      exact ⟨p, ns, rfl, q1.l, h.okI sr (rp_bl.mpr rfl)⟩
theorem de_sum {p : Pos} {g : Den (List D)} (hc : X.calm = true) (hm : X.mg "sum" = none) (ha : DA X T W [e] g) (hg : Gl X "sum" := by rfl) (he : starEach [e] X.env = (false, eval e X.env) :: starEach [] X.env := by rfl) : DE X T W (.Call (.Name "sum" p) [e] [] pos) (dCall g sumD) :=
  de_callB (cr_sum hc) hk_sum hm ha (hg := hg) (he := he) (hpl := rfl)
theorem de_all {p : Pos} {g : Den (List D)} (hc : X.calm = true) (hm : X.mg "all" = none) (ha : DA X T W [e] g) (hg : Gl X "all" := by rfl) (he : starEach [e] X.env = (false, eval e X.env) :: starEach [] X.env := by rfl) : DE X T W (.Call (.Name "all" p) [e] [] pos) (dCall g allD) :=
  de_callB (cr_all hc) hk_all hm ha (hg := hg) (he := he) (hpl := rfl)
theorem de_any {p : Pos} {g : Den (List D)} (hc : X.calm = true) (hm : X.mg "any" = none) (ha : DA X T W [e] g) (hg : Gl X "any" := by rfl) (he : starEach [e] X.env = (false, eval e X.env) :: starEach [] X.env := by rfl) : DE X T W (.Call (.Name "any" p) [e] [] pos) (dCall g anyD) :=
  de_callB (cr_any hc) hk_any hm ha (hg := hg) (he := he) (hpl := rfl)

/-! ### methods of lists (cells) -/
def isL (cs : List Cell) (x : D) : Bool := (itemsL cs x).isSome
/-- o.m(args): o is a list when it is read -/
def dML (f : Den D) (g : Den (List D)) (k : D → List D → List Cell → Out D) : Den D := fun env cs => (f env cs).bind fun x cs => if isL cs x = true then (g env cs).bind fun xs cs => k x xs cs else .no
theorem isL_ok {K : PySem.W.Frag} {I H : Hp} {m : List Addr} {cs : List Cell} {x : D} {v : V} (sr : SR T K I m cs H) (r : Rp T K I m x v) (h : isL cs x = true) : tyV K "list" v H := by
  obtain ⟨xs, hx⟩ := Option.isSome_iff_exists.mp h
  obtain ⟨p, vs, rfl, q1, q2⟩ := itemsL_ok sr r hx
  exact .inl ⟨rfl, vs, q1.l⟩
abbrev HkM (T : Tab) (K : PySem.W.Frag) (r : V → List V → Hp → VK → Prop) (k : D → List D → List Cell → Out D) : Prop :=
  ∀ (I : Hp) (m : List Addr) (cs : List Cell) (H : Hp) (x : D) (xs : List D) (v : V) (vs : List V) (Q : VK) (E : XK), SR T K I m cs H → Rp T K I m x v → RpL T K I m xs vs → OutG T K (RD T K) I m (k x xs cs) Q E → r v vs H Q
theorem tBM_of {g : Den (List D)} {k : D → List D → List Cell → Out D} {r : V → List V → Hp → VK → Prop} (hk : HkM T X.K r k) {to : TE} {ta : TA} (e1 : to = tG T X.K W (RD T X.K) f) (e2 : ta = tG T X.K W (RL T X.K) g) :
    ∀ σ H Q, tG T X.K W (RD T X.K) (dML f g k) σ H Q → tBM X.K "list" r to ta σ H Q := by
  subst e1 e2
  rintro σ H Q ⟨I, m, cs, env, er, sr, h⟩
  refine ⟨I, m, cs, env, er, sr, OutG.bindI h fun x cs1 v H1 I1 m1 s1 p1 sr1 r1 h1 => ?_⟩
  split at h1
  · rename_i hl
    refine ⟨isL_ok sr1 r1 hl, I1, m1, cs1, env, er.mono s1 p1, sr1, OutG.bindI h1 fun xs cs2 vs H2 I2 m2 s2 p2 sr2 r2 h2 => ?_⟩
    exact hk I2 m2 cs2 H2 x xs v vs Q _ sr2 (r1.mono s2 p2) r2 h2
  · exact h1.elim
/-- a list cell, its address, its object -/
theorem cell_lst {K : PySem.W.Frag} {I H : Hp} {m : List Addr} {cs : List Cell} {n : Nat} {xs : List D} {v : V} (sr : SR T K I m cs H) (r : Rp T K I m (.cell n) v) (h : cs[n]? = some (.lst xs)) : ∃ a vs, v = .ref a ∧ m[n]? = some a ∧ H a = some (.lst vs) ∧ RpL T K I m xs vs := by
  obtain ⟨a, e1, e2⟩ := rp_cell.mp r
  obtain ⟨a', o, q1, q2, q3, q4⟩ := sr.at_ n _ h (by intro z; cases z)
  rw [e1] at q1; cases q1
  cases o with
  | lst vs => exact ⟨a, vs, e2, e1, q3, q4⟩
  | _ => exact q4.elim
def appendD (x : D) (xs : List D) (cs : List Cell) : Out D := match x, xs with
  | .cell n, [y] => match cs[n]? with
    | some (.lst ys) => if fitsL ys.length then .ok .non (cs.set n (.lst (ys ++ [y]))) else .no
    | _ => .no
  | _, _ => .no
theorem hk_append {K : PySem.W.Frag} : HkM T K rAppend appendD := by
  intro I m cs H x xs v vs Q E sr rx rxs h
  unfold appendD at h
  split at h
  · rename_i n y
    obtain ⟨w, rfl, ry⟩ := rxs.i1
    split at h
    · rename_i ys hc
      split at h
      · rename_i hl
        obtain ⟨a, us, rfl, ea, q1, q2⟩ := cell_lst sr rx hc
        have sr2 := sr.setC (o := .lst (us ++ [w])) (c := .lst (ys ++ [y])) hc (by intro z; cases z) ea (q2.append (RpL.one ry))
        exact ⟨a, us, w, rfl, rfl, q1, by rw [← q2.length]; exact hl, h.okI sr2 (rp_non.mpr rfl)⟩
      · exact h.elim
    · exact h.elim
  · exact h.elim
theorem de_append {g : Den (List D)} {apos : Pos} (ho : DE X T W o f) (ha : DA X T W [e] g) (hbase : attributeBase o "append" X.env (eval o X.env) = eval o X.env := by rfl) (hs : starEach [e] X.env = (false, eval e X.env) :: starEach [] X.env := by rfl)
    (hfew : ((backTo pos (starEach [e] X.env)).all (fun x => !x.1) && (backToKw pos (keywordEach [] X.env)).all (fun x => x.1.isSome) && decide ([e].length + ([] : List Keyword).length + (if ([] : List Keyword).isEmpty then 0 else 1) < 30)) = true := by rfl) (hline : (apos.endLine == pos.line) = true := by rfl) :
    DE X T W (.Call (.Attribute o "append" apos) [e] [] pos) (dML f g appendD) :=
  PE.imp (pe_bm PySem.F.plainAttrs_list PySem.F.slot_list_append PySem.F.type_list_append mt_append ho ha hbase hfew hline hs rfl) (tBM_of hk_append rfl rfl)
/-- xs.pop(i) -/
def popD (x : D) (xs : List D) (cs : List Cell) : Out D := match x, xs with
  | .cell n, [.int i] => match cs[n]? with
    | some (.lst ys) => if in63 i then (match seqIndex? i ys.length with
      | some j => match ys[j]? with
        | some y => .ok y (cs.set n (.lst (ys.eraseIdx j)))
        | none => .no
      | none => .no) else .no
    | _ => .no
  | _, _ => .no
theorem RpL.eraseIdx {K : PySem.W.Frag} {I : Hp} {m : List Addr} : ∀ {ds : List D} {vs : List V} {i : Nat}, RpL T K I m ds vs → RpL T K I m (ds.eraseIdx i) (vs.eraseIdx i)
  | [], vs, i, h => by have e := h.inil; subst e; simp; exact h
  | x :: ds, vs, 0, h => by
    obtain ⟨w, r, rfl, q, h'⟩ := h.inv
    exact h'
  | x :: ds, vs, i + 1, h => by
    obtain ⟨w, r, rfl, q, h'⟩ := h.inv
    exact RpL.cons q (RpL.eraseIdx h')
theorem hk_pop {K : PySem.W.Frag} : HkM T K rPopAt popD := by
  intro I m cs H x xs v vs Q E sr rx rxs h
  unfold popD at h
  split at h
  · rename_i n i
    obtain ⟨w, rfl, ry⟩ := rxs.i1
    have ew := rp_int.mp ry
    subst ew
    split at h
    · rename_i ys hc
      split at h
      · rename_i hl
        obtain ⟨a, us, rfl, ea, q1, q2⟩ := cell_lst sr rx hc
        cases hj : seqIndex? i ys.length with
        | none => simp only [hj] at h; exact h.elim
        | some j =>
          simp only [hj] at h
          cases hy : ys[j]? with
          | none => simp only [hy] at h; exact h.elim
          | some y =>
            simp only [hy] at h
            obtain ⟨z, hz, rz⟩ := q2.get hy
            have sr2 := sr.setC (o := .lst (us.eraseIdx j)) (c := .lst (ys.eraseIdx j)) hc (by intro z; cases z) ea q2.eraseIdx
            exact ⟨a, us, i, j, z, rfl, rfl, q1, hl.1, hl.2, by rw [← q2.length]; exact hj, hz, h.okI sr2 rz⟩
      · exact h.elim
    · exact h.elim
  · exact h.elim
theorem de_pop {g : Den (List D)} {apos : Pos} (ho : DE X T W o f) (ha : DA X T W [e] g) (hbase : attributeBase o "pop" X.env (eval o X.env) = eval o X.env := by rfl) (hs : starEach [e] X.env = (false, eval e X.env) :: starEach [] X.env := by rfl)
    (hfew : ((backTo pos (starEach [e] X.env)).all (fun x => !x.1) && (backToKw pos (keywordEach [] X.env)).all (fun x => x.1.isSome) && decide ([e].length + ([] : List Keyword).length + (if ([] : List Keyword).isEmpty then 0 else 1) < 30)) = true := by rfl) (hline : (apos.endLine == pos.line) = true := by rfl) :
    DE X T W (.Call (.Attribute o "pop" apos) [e] [] pos) (dML f g popD) :=
  PE.imp (pe_bm PySem.F.plainAttrs_list PySem.F.slot_list_pop PySem.F.type_list_pop mt_popAt ho ha hbase hfew hline hs rfl) (tBM_of hk_pop rfl rfl)
end
end
end DL
end

section
set_option Elab.async false
set_option linter.all false
set_option maxRecDepth 100000
set_option maxHeartbeats 4000000
namespace DL
open PySem L2
open Classical
noncomputable section

/-! ### what a statement comes to -/
inductive SO where
  | nx (env : Env) (cs : List Cell)
  | rt (d : D) (cs : List Cell)
  | bk (env : Env) (cs : List Cell)
  | ct (env : Env) (cs : List Cell)
  | ex (c : Nat) (ks : List Nat) (fs : List D) (env : Env) (cs : List Cell)
  | no
def SOk (T : Tab) (K : PySem.W.Frag) (W : WX) (I : Hp) (m : List Addr) (o : SO) (B : Ends) : Prop := match o with
  | .nx env cs => ∀ σ' H' I' m', Same I I' → m <+: m' → SR T K I' m' cs H' → ER T K I' m' env σ' → B.nx σ' H'
  | .rt d cs => ∀ v H' I' m', Same I I' → m <+: m' → SR T K I' m' cs H' → Rp T K I' m' d v → B.rt v H'
  | .bk env cs => ∀ σ' H' I' m', Same I I' → m <+: m' → SR T K I' m' cs H' → ER T K I' m' env σ' → B.bk σ' H'
  | .ct env cs => ∀ σ' H' I' m', Same I I' → m <+: m' → SR T K I' m' cs H' → ER T K I' m' env σ' → B.ct σ' H'
  | .ex c ks fs env cs => ∀ cls od σ' H' I' m', Same I I' → m <+: m' → SR T K I' m' cs H' → ER T K I' m' env σ' → ExR T K I' m' c ks fs cls od → W cls od σ' H'
  | .no => False
abbrev SDen := Env → List Cell → SO
def tS (T : Tab) (K : PySem.W.Frag) (W : WX) (g : SDen) : TS := fun B σ H => ∃ I m cs env, ER T K I m env σ ∧ SR T K I m cs H ∧ SOk T K W I m (g env cs) B
def DS (X : Cx) (T : Tab) (W : WX) (st : Stmt) (g : SDen) : Prop := PS X st (tS T X.K W g)
def DSs (X : Cx) (T : Tab) (W : WX) (st : List Stmt) (g : SDen) : Prop := PSs X st (tS T X.K W g)
def Out.bindS {α : Type} (x : Out α) (env : Env) (k : α → List Cell → SO) : SO := match x with
  | .ok a cs => k a cs
  | .exn c ks fs cs => .ex c ks fs env cs
  | .no => .no
section
variable {T : Tab} {K : PySem.W.Frag} {W : WX} {I I' H H' : Hp} {m m' : List Addr} {B : Ends}
theorem SOk.up {o : SO} (s : Same I I') (p : m <+: m') (h : SOk T K W I m o B) : SOk T K W I' m' o B := by
  cases o with
  | nx => exact fun σ' H' I2 m2 s2 p2 => h σ' H' I2 m2 (s.trans s2) (p.trans p2)
  | rt => exact fun v H' I2 m2 s2 p2 => h v H' I2 m2 (s.trans s2) (p.trans p2)
  | bk => exact fun σ' H' I2 m2 s2 p2 => h σ' H' I2 m2 (s.trans s2) (p.trans p2)
  | ct => exact fun σ' H' I2 m2 s2 p2 => h σ' H' I2 m2 (s.trans s2) (p.trans p2)
  | ex => exact fun cls od σ' H' I2 m2 s2 p2 => h cls od σ' H' I2 m2 (s.trans s2) (p.trans p2)
  | no => exact h
theorem SOk.bindE {α β : Type} {R : Hp → List Addr → α → β → Prop} {x : Out α} {env : Env} {σ : L2.St} {k : α → List Cell → SO} {Q1 : β → Hp → Prop} (h : SOk T K W I m (x.bindS env k) B) (er : ER T K I m env σ)
    (hk : ∀ a cs v H1 I1 m1, Same I I1 → m <+: m1 → SR T K I1 m1 cs H1 → R I1 m1 a v → SOk T K W I1 m1 (k a cs) B → Q1 v H1) : OutG T K R I m x Q1 (fun cls od H' => W cls od σ H') := by
  cases x with
  | ok d cs => exact fun v H' I2 m2 s2 p2 sr r => hk d cs v H' I2 m2 s2 p2 sr r (SOk.up s2 p2 h)
  | exn c ks fs cs => exact fun cls od H' I2 m2 s2 p2 sr r => h cls od σ H' I2 m2 s2 p2 sr (er.mono s2 p2) r
  | no => exact h
theorem SOk.nxI {env : Env} {cs : List Cell} {σ : L2.St} (h : SOk T K W I m (.nx env cs) B) (sr : SR T K I m cs H) (er : ER T K I m env σ) : B.nx σ H := h σ H I m (Same.refl I) (List.prefix_refl _) sr er
end
section
variable {X : Cx} {T : Tab} {W : WX} {a b c e o : Expr} {es rest : List Expr} {pos : Pos} {st : Stmt} {sts : List Stmt} {f g k : Den D} {p q r : Den Bool} {n : Nat}

/-! ### blocks -/
def sNil : SDen := fun env cs => .nx env cs
def sSeq (g1 g2 : SDen) : SDen := fun env cs => match g1 env cs with
  | .nx env cs => g2 env cs
  | o => o
theorem dss_nil : DSs X T W [] sNil := PSs.imp pss_nil fun B σ H ⟨I, m, cs, env, er, sr, h⟩ => SOk.nxI h sr er
theorem dss_one {g1 : SDen} (h : DS X T W st g1) : DSs X T W [st] g1 := PSs.imp (pss_one h) fun _ _ _ q => q
theorem dss_cons {g1 g2 : SDen} (h1 : DS X T W st g1) (h2 : DSs X T W sts g2) : DSs X T W (st :: sts) (sSeq g1 g2) := by
  refine PSs.imp (pss_cons h1 h2) ?_
  rintro B σ H ⟨I, m, cs, env, er, sr, h⟩
  refine ⟨I, m, cs, env, er, sr, ?_⟩
  unfold sSeq at h
  cases hg : g1 env cs with
  | nx env' cs' =>
    simp only [hg] at h
    exact fun σ' H' I2 m2 s2 p2 sr2 er2 => ⟨I2, m2, cs', env', er2, sr2, SOk.up s2 p2 h⟩
  | _ => simp only [hg] at h; exact h
/-- slots whose value is forgotten -/
def killE : List Nat → Env → Env
  | [], env => env
  | i :: r, env => killE r (env.set i none)
theorem ER.kill {K : PySem.W.Frag} {I : Hp} {m : List Addr} {σ : L2.St} : ∀ {ks : List Nat} {env : Env}, ER T K I m env σ → ER T K I m (killE ks env) σ
  | [], _, h => h
  | i :: r, env, h => by
    show ER T K I m (killE r (env.set i none)) σ
    exact ER.kill (ks := r) h.forget
def sPass : SDen := fun env cs => .nx env cs
theorem ds_pass : DS X T W (.Pass pos) sPass := PS.imp ps_pass fun B σ H ⟨I, m, cs, env, er, sr, h⟩ => SOk.nxI h sr er
theorem ds_break : DS X T W (.Break pos) (fun env cs => .bk env cs) := PS.imp ps_break fun B σ H ⟨I, m, cs, env, er, sr, h⟩ => h σ H I m (Same.refl I) (List.prefix_refl _) sr er
theorem ds_continue : DS X T W (.Continue pos) (fun env cs => .ct env cs) := PS.imp ps_continue fun B σ H ⟨I, m, cs, env, er, sr, h⟩ => h σ H I m (Same.refl I) (List.prefix_refl _) sr er
/-- a statement that is not reached, or of which nothing is said -/
def sNo : SDen := fun _ _ => .no
theorem ds_no : DS X T W st sNo := PS.imp ps_never fun B σ H ⟨I, m, cs, env, er, sr, h⟩ => h
def sExpr (f : Den D) : SDen := fun env cs => (f env cs).bindS env fun _ cs => .nx env cs
theorem ds_expr (h : DE X T W e f) (hs : swapsWith e none pos.line X.env = pure false := by rfl) : DS X T W (.Expr e pos) (sExpr f) := by
  refine PS.imp (ps_expr h hs) ?_
  rintro B σ H ⟨I, m, cs, env, er, sr, h⟩
  exact ⟨I, m, cs, env, er, sr, SOk.bindE h er fun d cs1 v H1 I1 m1 s1 p1 sr1 r1 h1 => SOk.nxI h1 sr1 (er.mono s1 p1)⟩
def sRet (f : Den D) : SDen := fun env cs => (f env cs).bindS env fun d cs => .rt d cs
theorem ds_ret (h : DE X T W e f) : DS X T W (.Return (some e) pos) (sRet f) := by
  refine PS.imp (ps_ret h) ?_
  rintro B σ H ⟨I, m, cs, env, er, sr, h⟩
  exact ⟨I, m, cs, env, er, sr, SOk.bindE h er fun d cs1 v H1 I1 m1 s1 p1 sr1 r1 h1 => h1 v H1 I1 m1 (Same.refl _) (List.prefix_refl _) sr1 r1⟩
def sRetN : SDen := fun _ cs => .rt .non cs
theorem ds_retN : DS X T W (.Return none pos) sRetN := PS.imp ps_retN fun B σ H ⟨I, m, cs, env, er, sr, h⟩ => h .non H I m (Same.refl I) (List.prefix_refl _) sr (rp_non.mpr rfl)
/-- a list's cell is given out frozen -/
def dFrz (f : Den D) : Den D := fun env cs => (f env cs).bind fun x cs => match x with
  | .cell n => match cs[n]? with
    | some (.lst xs) => .ok (.lst xs) (cs.set n .gone)
    | _ => .no
  | d => .ok d cs
theorem de_frz (h : DE X T W e f) : DE X T W e (dFrz f) := by
  refine PE.imp h ?_
  rintro σ H Q ⟨I, m, cs, env, er, sr, h⟩
  refine ⟨I, m, cs, env, er, sr, OutG.bindI h fun x cs1 v H1 I1 m1 s1 p1 sr1 r1 h1 => ?_⟩
  by_cases hz : ∃ z, x = .cell z
  · obtain ⟨z, rfl⟩ := hz
    simp only at h1
    split at h1
    · rename_i ys hc
      obtain ⟨a, us, rfl, ea, q1, q2⟩ := cell_lst sr1 r1 hc
      obtain ⟨sr2, s2⟩ := sr1.frz hc (by intro z; cases z) ea q1
      exact h1.ok1 s2 sr2 (rp_lst.mpr ⟨a, us, rfl, SqX.of upd_same, RpL.mono s2 (List.prefix_refl _) q2⟩)
    · exact h1.elim
  · have h' : OutG T X.K (RD T X.K) I1 m1 (.ok x cs1) Q (fun cls od H' => W cls od σ H') := by
      cases x <;> first | exact h1 | exact absurd ⟨_, rfl⟩ hz
    exact h'.okI sr1 r1
/-- a slot's list is frozen from here on -/
def frzE (i : Nat) (env : Env) (cs : List Cell) (k : Env → List Cell → SO) : SO := match env[i]? with
  | some (some (.cell n)) => match cs[n]? with
    | some (.lst xs) => k (env.set i (some (.lst xs))) (cs.set n .gone)
    | _ => .no
  | _ => k env cs
def sFrz (i : Nat) (g : SDen) : SDen := fun env cs => frzE i env cs g
theorem tS_frz {K : PySem.W.Frag} {i : Nat} {g : SDen} : ∀ B σ H, tS T K W (sFrz i g) B σ H → tS T K W g B σ H := by
  rintro B σ H ⟨I, m, cs, env, er, sr, h⟩
  unfold sFrz frzE at h
  split at h
  · rename_i n he
    split at h
    · rename_i xs hc
      obtain ⟨v, e1, r1⟩ := er.at_ i _ he
      obtain ⟨a, us, rfl, ea, q1, q2⟩ := cell_lst sr r1 hc
      obtain ⟨sr2, s2⟩ := sr.frz hc (by intro z; cases z) ea q1
      have rl : Rp T K (L2.upd I a (.lst us)) m (.lst xs) (.ref a) := rp_lst.mpr ⟨a, us, rfl, SqX.of upd_same, RpL.mono s2 (List.prefix_refl _) q2⟩
      have er2 := (er.mono s2 (List.prefix_refl _)).set (i := i) rl
      have hσ : σ.set i (some (.ref a)) = σ := by
        have hi := (List.getElem?_eq_some_iff.mp e1)
        obtain ⟨hi, hv⟩ := hi
        rw [← hv, List.set_getElem_self]
      rw [hσ] at er2
      exact ⟨_, m, _, _, er2, sr2, SOk.up s2 (List.prefix_refl _) h⟩
    · exact h.elim
  · exact ⟨I, m, cs, env, er, sr, h⟩
theorem dss_frz {i : Nat} {g1 : SDen} (h : DSs X T W sts g1) : DSs X T W sts (sFrz i g1) := PSs.imp h tS_frz
theorem ds_frz {i : Nat} {g1 : SDen} (h : DS X T W st g1) : DS X T W st (sFrz i g1) := PS.imp h tS_frz

/-! ### if -/
def sIf (p : Den Bool) (g1 g2 : SDen) : SDen := fun env cs => (p env cs).bindS env fun b cs => if b = true then g1 env cs else g2 env cs
theorem ds_if {g1 g2 : SDen} {s1 s2 : List Stmt} (hc : DT X T W c p) (h1 : DSs X T W s1 g1) (h2 : DSs X T W s2 g2) : DS X T W (.If c s1 s2 pos) (sIf p g1 g2) := by
  refine PS.imp (ps_if hc h1 h2) ?_
  rintro B σ H ⟨I, m, cs, env, er, sr, h⟩
  refine ⟨I, m, cs, env, er, sr, SOk.bindE h er fun b cs1 v H1 I1 m1 s1 p1 sr1 r1 h1 => ?_⟩
  have e : b = v := r1
  subst e
  split at h1
  · rename_i hb
    rw [if_pos hb]
    exact ⟨I1, m1, cs1, env, er.mono s1 p1, sr1, h1⟩
  · rename_i hb
    rw [if_neg hb]
    exact ⟨I1, m1, cs1, env, er.mono s1 p1, sr1, h1⟩

/-! ### stores -/
abbrev GDen := D → Env → List Cell → SO
def tGt (T : Tab) (K : PySem.W.Frag) (g : GDen) : TG := fun v σ H Q => ∃ I m cs env d, ER T K I m env σ ∧ SR T K I m cs H ∧ Rp T K I m d v ∧ (match g d env cs with
  | .nx env' cs' => ∀ σ' H' I' m', Same I I' → m <+: m' → SR T K I' m' cs' H' → ER T K I' m' env' σ' → Q σ' H'
  | _ => False)
def tGs (T : Tab) (K : PySem.W.Frag) (g : List D → Env → List Cell → SO) : TGs := fun vs σ H Q => ∃ I m cs env ds, ER T K I m env σ ∧ SR T K I m cs H ∧ RpL T K I m ds vs ∧ (match g ds env cs with
  | .nx env' cs' => ∀ σ' H' I' m', Same I I' → m <+: m' → SR T K I' m' cs' H' → ER T K I' m' env' σ' → Q σ' H'
  | _ => False)
def DG (X : Cx) (T : Tab) (tgt : Expr) (g : GDen) : Prop := PG X tgt (tGt T X.K g)
def DGs (X : Cx) (T : Tab) (tgts : List Expr) (g : List D → Env → List Cell → SO) : Prop := PGs X tgts (tGs T X.K g)
theorem PG.imp {tgt : Expr} {t t' : TG} (h : PG X tgt t) (i : ∀ v σ H Q, t' v σ H Q → t v σ H Q) : PG X tgt t' := ⟨fun pins s σ H v u Q I r q => h.run pins s σ H v u Q I r (i v σ H Q q)⟩
theorem PGs.imp {ts : List Expr} {t t' : TGs} (h : PGs X ts t) (i : ∀ v σ H Q, t' v σ H Q → t v σ H Q) : PGs X ts t' := ⟨fun pins s σ H v u Q I r q => h.run pins s σ H v u Q I r (i v σ H Q q)⟩
def gNm (i : Nat) : GDen := fun d env cs => .nx (env.set i (some d)) cs
theorem dg_name {i : Nat} {x : Str} (h : PG X (.Name x pos) (gName i)) : DG X T (.Name x pos) (gNm i) := by
  refine PG.imp h ?_
  rintro v σ H Q ⟨I, m, cs, env, d, er, sr, r, h⟩
  exact h _ H I m (Same.refl I) (List.prefix_refl _) sr (er.set r)
def gsNil : List D → Env → List Cell → SO := fun ds env cs => match ds with
  | [] => .nx env cs
  | _ => .no
def gsCons (g : GDen) (gs : List D → Env → List Cell → SO) : List D → Env → List Cell → SO := fun ds env cs => match ds with
  | d :: ds => match g d env cs with
    | .nx env cs => gs ds env cs
    | _ => .no
  | [] => .no
theorem dgs_nil : DGs X T [] gsNil := by
  refine PGs.imp pgs_nil ?_
  rintro vs σ H Q ⟨I, m, cs, env, ds, er, sr, r, h⟩
  cases ds with
  | nil => exact ⟨r.inil, h σ H I m (Same.refl I) (List.prefix_refl _) sr er⟩
  | cons d ds => exact h.elim
theorem dgs_cons {g1 : GDen} {gs : List D → Env → List Cell → SO} (h1 : DG X T e g1) (h2 : DGs X T es gs) (hs : (assignEach (e :: es) X.env).map (·.2) = assign e X.env :: (assignEach es X.env).map (·.2) := by rfl) : DGs X T (e :: es) (gsCons g1 gs) := by
  refine PGs.imp (pgs_cons h1 h2 hs) ?_
  rintro vs σ H Q ⟨I, m, cs, env, ds, er, sr, r, h⟩
  cases ds with
  | nil => exact h.elim
  | cons d ds =>
    obtain ⟨v, r', rfl, q, k⟩ := r.inv
    unfold gsCons at h
    simp only at h
    cases hg : g1 d env cs with
    | nx env' cs' =>
      simp only [hg] at h
      refine ⟨v, r', rfl, I, m, cs, env, d, er, sr, q, ?_⟩
      rw [hg]
      intro σ' H' I' m' s1 p1 sr1 er1
      refine ⟨I', m', cs', env', ds, er1, sr1, RpL.mono s1 p1 k, ?_⟩
      cases hg2 : gs ds env' cs' with
      | nx env2 cs2 =>
        simp only [hg2] at h ⊢
        exact fun σ2 H2 I2 m2 s2 p2 => h σ2 H2 I2 m2 (s1.trans s2) (p1.trans p2)
      | _ => simp only [hg2] at h
    | _ => simp only [hg] at h
def gTupD (n : Nat) (gs : List D → Env → List Cell → SO) : GDen := fun d env cs => match d with
  | .tup xs => if xs.length = n then gs xs env cs else .no
  | _ => .no
theorem dg_tup {k n : Nat} {gs : List D → Env → List Cell → SO} (hc : X.calm = true) (h : DGs X T es gs) (hn : (assignEach es X.env).length = n := by rfl) (hst : (assignEach es X.env).findIdx? (·.1) = none := by rfl) : DG X T (.Tuple es k pos) (gTupD n gs) := by
  refine PG.imp (pg_tup hc h hn hst) ?_
  rintro v σ H Q ⟨I, m, cs, env, d, er, sr, r, h⟩
  cases d with
  | tup xs =>
    obtain ⟨a, vs, rfl, q1, q2⟩ := rp_tup.mp r
    unfold gTupD at h
    simp only at h
    by_cases hl : xs.length = n
    · rw [if_pos hl] at h
      exact ⟨a, vs, rfl, SqT.same sr.same q1, by rw [← q2.length]; exact hl, I, m, cs, env, xs, er, sr, q2, h⟩
    · rw [if_neg hl] at h; exact h.elim
  | _ => exact h.elim
def gLstD (n : Nat) (gs : List D → Env → List Cell → SO) : GDen := fun d env cs => match itemsL cs d with
  | some xs => if xs.length = n then gs xs env cs else .no
  | none => .no
theorem dg_lst {k n : Nat} {gs : List D → Env → List Cell → SO} (hc : X.calm = true) (h : DGs X T es gs) (hn : (assignEach es X.env).length = n := by rfl) (hst : (assignEach es X.env).findIdx? (·.1) = none := by rfl) : DG X T (.Tuple es k pos) (gLstD n gs) := by
  refine PG.imp (pg_lst hc h hn hst) ?_
  rintro v σ H Q ⟨I, m, cs, env, d, er, sr, r, h⟩
  unfold gLstD at h
  cases hi : itemsL cs d with
  | none => simp only [hi] at h
  | some xs =>
    simp only [hi] at h
    obtain ⟨a, vs, rfl, q1, q2⟩ := itemsL_ok sr r hi
    by_cases hl : xs.length = n
    · rw [if_pos hl] at h
      exact ⟨a, vs, rfl, q1.l, by rw [← q2.length]; exact hl, I, m, cs, env, xs, er, sr, q2, h⟩
    · rw [if_neg hl] at h; exact h.elim
/-- o[i] = d, a list -/
def gIx (f g : Den D) : GDen := fun d env cs => (f env cs).bindS env fun x cs => (g env cs).bindS env fun y cs => match x, asI y with
  | .cell n, some i => match cs[n]? with
    | some (.lst xs) => match ixN xs.length i with
      | some j => .nx env (cs.set n (.lst (xs.set j d)))
      | none => .no
    | _ => .no
  | _, _ => .no
theorem dg_ix (hW : W = fun _ _ _ _ => False) (ho : DE X T W o f) (hi : DE X T W e g) (ha : ∀ v, assign (.Subscript o e pos) X.env v = (do
      let ov ← holding [v] (eval o X.env)
      let iv ← holding [v, ov] (eval e X.env)
      standAt pos
      holding [v, ov, iv] (setItem ov iv v)
      release [v, ov, iv] []) := by intro _; rfl) : DG X T (.Subscript o e pos) (gIx f g) := by
  subst hW
  refine PG.imp (pg_sub ho hi set_list ha) ?_
  rintro v σ H Q ⟨I, m, cs, env, d, er, sr, r, h⟩
  unfold gIx at h
  cases hf : f env cs with
  | no => simp [hf, Out.bindS] at h
  | exn => simp [hf, Out.bindS] at h
  | ok x cs1 =>
    rw [hf] at h
    simp only [Out.bindS] at h
    refine ⟨I, m, cs, env, er, sr, ?_⟩
    rw [hf]
    intro vo H1 I1 m1 s1 p1 sr1 r1
    refine ⟨I1, m1, cs1, env, er.mono s1 p1, sr1, ?_⟩
    cases hg : g env cs1 with
    | no => simp [hg] at h
    | exn => simp [hg] at h
    | ok y cs2 =>
      rw [hg] at h
      simp only at h
      intro vi H2 I2 m2 s2 p2 sr2 r2
      split at h
      · rename_i env' cs' hx
        split at hx
        · rename_i n i hy
          have e := asI_ok hy; subst e
          split at hx
          · rename_i xs hc
            split at hx
            · rename_i j hj
              cases hx
              obtain ⟨a, us, rfl, ea, q1, q2⟩ := cell_lst sr2 (r1.mono s2 p2) hc
              have rv := (r.mono s1 p1).mono s2 p2
              have sr3 := sr2.setC (o := .lst (us.set j v)) (c := .lst (xs.set j d)) hc (by intro z; cases z) ea (q2.set rv)
              exact ⟨a, us, i, j, rfl, rp_int.mp r2, q1, by rw [← q2.length]; exact hj, h σ _ I2 m2 (s1.trans s2) (p1.trans p2) sr3 ((er.mono s1 p1).mono s2 p2)⟩
            · cases hx
          · cases hx
        · cases hx
      · exact h.elim
/-- target = value -/
def sAsg (f : Den D) (g : GDen) : SDen := fun env cs => (f env cs).bindS env fun d cs => match g d env cs with
  | .nx env cs => .nx env cs
  | _ => .no
theorem tAsg_of {g1 : GDen} {te : TE} {tg : TG} (e1 : te = tG T X.K W (RD T X.K) f) (e2 : tg = tGt T X.K g1) : ∀ B σ H, tS T X.K W (sAsg f g1) B σ H → tAsg te tg B σ H := by
  subst e1 e2
  rintro B σ H ⟨I, m, cs, env, er, sr, h⟩
  refine ⟨I, m, cs, env, er, sr, SOk.bindE h er fun d cs1 v H1 I1 m1 s1 p1 sr1 r1 h1 => ?_⟩
  refine ⟨I1, m1, cs1, env, d, er.mono s1 p1, sr1, r1, ?_⟩
  cases hg : g1 d env cs1 with
  | nx env' cs' => simp only [hg] at h1; exact h1
  | _ => simp only [hg] at h1; exact h1.elim
theorem ds_asg {tg : Expr} {g1 : GDen} (he : DE X T W e f) (hg : DG X T tg g1) (hs : swapsWithSole [tg] e pos.line X.env = pure false := by rfl) (hw : swappedStores [tg] e X.env = pure none := by rfl)
    (h1 : (assignEach [tg] X.env).map (·.2) = [assign tg X.env] := by rfl) : DS X T W (.Assign [tg] e pos) (sAsg f g1) := PS.imp (ps_asg he hg hs hw h1) (tAsg_of rfl rfl)
/-- name = value -/
def sSet (i : Nat) (f : Den D) : SDen := fun env cs => (f env cs).bindS env fun d cs => .nx (env.set i (some d)) cs
theorem tSet_of {i : Nat} {te : TE} (e1 : te = tG T X.K W (RD T X.K) f) : ∀ B σ H, tS T X.K W (sSet i f) B σ H → tAsg te (gName i) B σ H := by
  subst e1
  rintro B σ H ⟨I, m, cs, env, er, sr, h⟩
  exact ⟨I, m, cs, env, er, sr, SOk.bindE h er fun d cs1 v H1 I1 m1 s1 p1 sr1 r1 h1 => SOk.nxI h1 sr1 ((er.mono s1 p1).set r1)⟩
theorem ds_set {i : Nat} {x : Str} {pos' : Pos} (hN : X.N.Nodup) (he : DE X T W e f) (hi : X.N[i]? = some x := by rfl) (hx : Loc X.env.scope x := by first | exact Or.inl rfl | exact Or.inr rfl) (hs : swapsWith e (some (.Name x pos')) pos.line X.env = pure false := by rfl)
    (hf : X.fn x = true ∨ X.env.scope.names.lookup x = some .local := by first | exact .inl rfl | exact .inr rfl) : DS X T W (.Assign [.Name x pos'] e pos) (sSet i f) := PS.imp (ps_set hN hi hx he hs hf) (tSet_of rfl)
/-- x, y = a, b: plain local names -/
def sPar (i j : Nat) (g : Den (List D)) : SDen := fun env cs => (g env cs).bindS env fun ds cs => match ds with
  | [d, e] => .nx ((env.set i (some d)).set j (some e)) cs
  | _ => .no
theorem ds_par {i j : Nat} {x y : Str} {px py pt : Pos} {kt k2 pt2} {g : Den (List D)} (hc : X.calm = true) (hN : X.N.Nodup) (ha : DA X T W [a, b] g) (hi : X.N[i]? = some x := by rfl) (hj : X.N[j]? = some y := by rfl) (hij : i ≠ j := by decide)
    (hx : X.env.scope.names.lookup x = some .local := by rfl) (hy : X.env.scope.names.lookup y = some .local := by rfl)
    (hw : swappedStores [.Tuple [.Name x px, .Name y py] kt pt] (.Tuple [a, b] k2 pt2) X.env = pure (some [x, y]) := by rfl)
    (hs : swapsWithSole [.Tuple [.Name x px, .Name y py] kt pt] (.Tuple [a, b] k2 pt2) pos.line X.env = pure false := by rfl) :
    DS X T W (.Assign [.Tuple [.Name x px, .Name y py] kt pt] (.Tuple [a, b] k2 pt2) pos) (sPar i j g) := by
  refine PS.imp (ps_par hc hN hi hj hij hx hy ha hw hs) ?_
  rintro B σ H ⟨I, m, cs, env, er, sr, h⟩
  refine ⟨I, m, cs, env, er, sr, SOk.bindE h er fun ds cs1 vs H1 I1 m1 s1 p1 sr1 r1 h1 => ?_⟩
  split at h1
  · obtain ⟨v, u, rfl, q1, q2⟩ := RpL.i2 r1
    exact ⟨v, u, rfl, SOk.nxI h1 sr1 (((er.mono s1 p1).set q1).set q2)⟩
  · exact h1.elim
/-- o.f = value -/
def putK (k : Nat) (d : D) : List Nat → List D → List Nat × List D
  | k' :: ks, x :: ds => if k = k' then (k' :: ks, d :: ds) else ((k' :: (putK k d ks ds).1), (x :: (putK k d ks ds).2))
  | _, _ => ([k], [d])
theorem putK_ok {K : PySem.W.Frag} {I : Hp} {m : List Addr} {k : Nat} {d : D} {v : V} (inj : ∀ i j, T.nm i = T.nm j → i = j) (rv : Rp T K I m d v) : ∀ {ks : List Nat} {ds : List D} {gs : List (Str × V)}, gs.map (·.1) = ks.map T.nm → RpL T K I m ds (gs.map (·.2)) →
    (putF (T.nm k) v gs).map (·.1) = (putK k d ks ds).1.map T.nm ∧ RpL T K I m (putK k d ks ds).2 ((putF (T.nm k) v gs).map (·.2))
  | [], ds, [], e, r => by
    have : ds = [] := by
      have l := r.length
      cases ds with
      | nil => rfl
      | cons _ _ => simp at l
    subst this
    exact ⟨rfl, RpL.one rv⟩
  | [], _, _ :: _, e, _ => by simp at e
  | _ :: _, _, [], e, _ => by simp at e
  | k' :: ks, [], (n, w) :: gs, e, r => by
    have := r.length
    simp at this
  | k' :: ks, x :: ds, (n, w) :: gs, e, r => by
    simp only [List.map_cons, List.cons.injEq] at e
    obtain ⟨v', r', e', q, r2⟩ := r.inv
    simp only [List.map_cons, List.cons.injEq] at e'
    obtain ⟨rfl, rfl⟩ := e'
    obtain ⟨e1, e2⟩ := e
    subst e1
    by_cases hk : k = k'
    · subst hk
      have h1 : putF (T.nm k) v ((T.nm k, w) :: gs) = (T.nm k, v) :: gs := by unfold putF; rw [if_pos rfl]
      rw [h1]
      unfold putK
      rw [if_pos rfl]
      exact ⟨by simp [e2], RpL.cons rv r2⟩
    · have hne : ¬ T.nm k' = T.nm k := fun z => hk (inj _ _ z).symm
      have h1 : putF (T.nm k) v ((T.nm k', w) :: gs) = (T.nm k', w) :: putF (T.nm k) v gs := by
        rw [putF]
        rw [if_neg hne]
      rw [h1]
      unfold putK
      rw [if_neg hk]
      obtain ⟨h2, h3⟩ := putK_ok inj rv e2 r2
      exact ⟨by simp [h2], RpL.cons q h3⟩
def sFldD (od : Nat → List Nat) (k : Nat) (fo fv : Den D) : SDen := fun env cs => (fv env cs).bindS env fun d cs => (fo env cs).bindS env fun x cs => match x with
  | .cell n => match cs[n]? with
    | some (.ins c ks ds) => if k ∈ od c ∧ few ks.length then .nx env (cs.set n (.ins c (putK k d ks ds).1 (putK k d ks ds).2)) else .no
    | _ => .no
  | _ => .no
theorem ds_fld (TK : TabOk X.K T) (inj : ∀ i j, T.nm i = T.nm j → i = j) {od : Nat → List Nat} (hod : T.od = od) {k : Nat} {fn : Str} {pos' : Pos} (hf : T.nm k = fn) (ho : DE X T W o f) (hv : DE X T W e g) (hs : swapsWith e (some (.Attribute o fn pos')) pos.line X.env = pure false := by rfl) :
    DS X T W (.Assign [.Attribute o fn pos'] e pos) (sFldD od k f g) := by
  subst hf hod
  refine PS.imp (ps_fld ho hv hs) ?_
  rintro B σ H ⟨I, m, cs, env, er, sr, h⟩
  refine ⟨I, m, cs, env, er, sr, SOk.bindE h er fun d cs1 v H1 I1 m1 s1 p1 sr1 r1 h1 => ?_⟩
  refine ⟨I1, m1, cs1, env, er.mono s1 p1, sr1, SOk.bindE h1 (er.mono s1 p1) fun x cs2 w H2 I2 m2 s2 p2 sr2 r2 h2 => ?_⟩
  split at h2
  · rename_i n
    split at h2
    · rename_i c ks ds hc
      split at h2
      · rename_i hk
        obtain ⟨a, e1, rfl⟩ := rp_cell.mp r2
        obtain ⟨a', ob, q1, q2, q3, q4⟩ := sr2.at_ n _ hc (by intro z; cases z)
        rw [e1] at q1; cases q1
        cases ob with
        | ins C dx gs =>
          obtain ⟨rfl, q5, q6⟩ := q4
          obtain ⟨c1, c2⟩ := TK c k hk.1
          obtain ⟨p1', p2'⟩ := putK_ok (k := k) inj (r1.mono s2 p2) q5 q6
          have lg : gs.length < 1000 := by
            have := congrArg List.length q5
            simp at this
            have hk2 : ks.length < 1000 := hk.2
            omega
          have sr3 := sr2.setC (o := .ins (T.ca c) dx (putF (T.nm k) v gs)) (c := .ins c (putK k d ks ds).1 (putK k d ks ds).2) hc (by intro z; cases z) e1 ⟨rfl, p1', p2'⟩
          exact ⟨a, T.ca c, dx, gs, rfl, q3, c1, c2, lg, SOk.nxI h2 sr3 ((er.mono s1 p1).mono s2 p2)⟩
        | _ => exact q4.elim
      · exact h2.elim
    · exact h2.elim
  · exact h2.elim
end
end
end DL
end

section
set_option Elab.async false
set_option linter.all false
set_option maxRecDepth 100000
set_option maxHeartbeats 4000000
namespace DL
open PySem L2
open Classical
noncomputable section

/-! ### what a loop walks: items known at its start; chk: the walked thing stands as it was -/
structure ItV where
  xs : List D
  chk : List Cell → Prop
def RI (T : Tab) (K : PySem.W.Frag) (I : Hp) (m : List Addr) (it : ItV) (J : It) : Prop :=
  ∀ I' m' cs H, Same I I' → m <+: m' → SR T K I' m' cs H → it.chk cs →
    (∀ i d, it.xs[i]? = some d → J.go i H ∧ ∀ x H', J.yld i H x H' → ∃ I2, Same I' I2 ∧ SR T K I2 m' cs H' ∧ Rp T K I2 m' d x) ∧ J.stop it.xs.length H
def DI (X : Cx) (T : Tab) (W : WX) (tg e : Expr) (f : Den ItV) : Prop := PI X tg e (tG T X.K W (RI T X.K) f)
theorem PI.imp {X : Cx} {tg e : Expr} {t t' : TI} (h : PI X tg e t) (i : ∀ σ H Q, t' σ H Q → t σ H Q) : PI X tg e t' := ⟨fun pins s σ H R I q => h.run pins s σ H R I (i σ H R q)⟩
theorem RI.mono {T : Tab} {K : PySem.W.Frag} {I I' : Hp} {m m' : List Addr} {it : ItV} {J : It} (s : Same I I') (p : m <+: m') (h : RI T K I m it J) : RI T K I' m' it J :=
  fun I2 m2 cs H s2 p2 => h I2 m2 cs H (s.trans s2) (p.trans p2)
def forL (chk : List Cell → Prop) (g : GDen) (b : SDen) : List D → SDen
  | [] => fun env cs => if chk cs then .nx env cs else .no
  | x :: r => fun env cs => if chk cs then (match g x env cs with
      | .nx env cs => (match b env cs with
        | .nx env cs => forL chk g b r env cs
        | .ct env cs => forL chk g b r env cs
        | .bk env cs => .nx env cs
        | o => o)
      | _ => .no) else .no
def sFor (f : Den ItV) (g : GDen) (b : SDen) : SDen := fun env cs => (f env cs).bindS env fun it cs => forL it.chk g b it.xs env cs
section
variable {X : Cx} {T : Tab} {W : WX} {tg iter : Expr} {body : List Stmt} {f : Den ItV} {g : GDen} {b : SDen} {pos : Pos}
theorem tFor_of {tb : TS} {wi : TI} {tgt : TG} (e1 : wi = tG T X.K W (RI T X.K) f) (e2 : tgt = tGt T X.K g) (e3 : tb = tS T X.K W b) : ∀ B σ H, tS T X.K W (sFor f g b) B σ H → tFor wi tgt tb B σ H := by
  subst e1 e2 e3
  rintro B σ H ⟨I, m, cs, env, er, sr, h⟩
  refine ⟨I, m, cs, env, er, sr, SOk.bindE h er fun it cs1 J H1 I1 m1 s1 p1 sr1 r1 h1 => ?_⟩
  refine ⟨fun i n σ H => n = it.xs.length - i ∧ i ≤ it.xs.length ∧ ∃ I m cs env, ER T X.K I m env σ ∧ SR T X.K I m cs H ∧ RI T X.K I m it J ∧ SOk T X.K W I m (forL it.chk g b (it.xs.drop i) env cs) B, ⟨it.xs.length, by simp, Nat.zero_le _, I1, m1, cs1, env, er.mono s1 p1, sr1, r1, by simpa using h1⟩, ?_⟩
  rintro i n σ H ⟨rfl, hi, I, m, cs, env, er, sr, r, h⟩
  by_cases hlt : i < it.xs.length
  · have ed : it.xs.drop i = it.xs[i] :: it.xs.drop (i + 1) := by simp
    rw [ed] at h
    unfold forL at h
    by_cases hc : it.chk cs
    · rw [if_pos hc] at h
      obtain ⟨q1, q2⟩ := r I m cs H (Same.refl I) (List.prefix_refl _) sr hc
      obtain ⟨go, ys⟩ := q1 i it.xs[i] (by simp [hlt])
      refine .inr ⟨go, fun σ' H' => ∃ I m cs env, ER T X.K I m env σ' ∧ SR T X.K I m cs H' ∧ RI T X.K I m it J ∧ SOk T X.K W I m (forL it.chk g b (it.xs.drop (i + 1)) env cs) B, fun σ' H' p' => ⟨it.xs.length - (i + 1), by omega, rfl, hlt, p'⟩, fun x H' y => ?_⟩
      obtain ⟨I2, s2, sr2, r2⟩ := ys x H' y
      refine ⟨I2, m, cs, env, it.xs[i], er.mono s2 (List.prefix_refl _), sr2, r2, ?_⟩
      cases hg : g it.xs[i] env cs with
      | nx env' cs' =>
        simp only [hg] at h ⊢
        intro σ3 H3 I3 m3 s3 p3 sr3 er3
        refine ⟨I3, m3, cs', env', er3, sr3, ?_⟩
        have r3 := (r.mono s2 (List.prefix_refl _)).mono s3 p3
        have h := SOk.up (s2.trans s3) p3 h
        cases hb : b env' cs' with
        | nx env4 cs4 =>
          simp only [hb] at h
          exact fun σ4 H4 I4 m4 s4 p4 sr4 er4 => ⟨I4, m4, cs4, env4, er4, sr4, r3.mono s4 p4, SOk.up s4 p4 h⟩
        | ct env4 cs4 =>
          simp only [hb] at h
          exact fun σ4 H4 I4 m4 s4 p4 sr4 er4 => ⟨I4, m4, cs4, env4, er4, sr4, r3.mono s4 p4, SOk.up s4 p4 h⟩
        | bk env4 cs4 =>
          simp only [hb] at h
          exact h
        | rt d4 cs4 =>
          simp only [hb] at h
          exact h
        | ex c ks fs env4 cs4 =>
          simp only [hb] at h
          exact h
        | no =>
          simp only [hb] at h
          exact h
      | _ => simp only [hg] at h; exact h.elim
    · rw [if_neg hc] at h; exact h.elim
  · have e : i = it.xs.length := by omega
    have ed : it.xs.drop i = [] := by rw [e]; simp
    rw [ed] at h
    unfold forL at h
    by_cases hc : it.chk cs
    · rw [if_pos hc] at h
      refine .inl ⟨?_, SOk.nxI h sr er⟩
      rw [e]
      exact (r I m cs H (Same.refl I) (List.prefix_refl _) sr hc).2
    · rw [if_neg hc] at h; exact h.elim
theorem ds_for (hp : PassesOwn (model X.prog X.w) X.A X.env X.xe) (hc : X.calm = true) (hi : DI X T W tg iter f) (hg : DG X T tg g) (hb : DSs X T W body b)
    (hs : ∀ x, foldedSetIterable iter X.env x = pure x := by intro _; rfl) : DS X T W (.For tg iter body [] pos) (sFor f g b) := PS.imp (ps_for hp hc hi hg hb hs) (tFor_of rfl rfl rfl)

/-! ### while -/
def whileD (p : Den Bool) (b : SDen) : Nat → SDen
  | 0 => fun _ _ => .no
  | n + 1 => fun env cs => (p env cs).bindS env fun k cs => if k = true then (match b env cs with
      | .nx env cs => whileD p b n env cs
      | .ct env cs => whileD p b n env cs
      | .bk env cs => .nx env cs
      | o => o) else .nx env cs
def sWhile (p : Den Bool) (b : SDen) : SDen := fun env cs => if h : ∃ n, whileD p b n env cs ≠ .no then whileD p b h.choose env cs else .no
theorem whileD_mono {p : Den Bool} : ∀ {n k : Nat} {env : Env} {cs : List Cell}, n ≤ k → whileD p b n env cs ≠ .no → whileD p b k env cs = whileD p b n env cs
  | 0, _, _, _, _, h => absurd rfl h
  | n + 1, 0, _, _, l, _ => absurd l (by omega)
  | n + 1, k + 1, env, cs, l, h => by
    unfold whileD at h ⊢
    cases hp : p env cs with
    | no => rfl
    | exn => rfl
    | ok k1 cs1 =>
      simp only [hp, Out.bindS] at h ⊢
      by_cases hk : k1 = true
      · rw [if_pos hk] at h
        rw [if_pos hk, if_pos hk]
        cases hb : b env cs1 with
        | nx env4 cs4 =>
          simp only [hb] at h ⊢
          exact whileD_mono (by omega) h
        | ct env4 cs4 =>
          simp only [hb] at h ⊢
          exact whileD_mono (by omega) h
        | _ => rfl
      · rw [if_neg hk, if_neg hk]
theorem sWhile_of {p : Den Bool} {env : Env} {cs : List Cell} {o : SO} (n : Nat) (h : whileD p b n env cs = o) (hn : o ≠ .no) : sWhile p b env cs = o := by
  have hx : ∃ n, whileD p b n env cs ≠ .no := ⟨n, by rw [h]; exact hn⟩
  unfold sWhile
  rw [dif_pos hx]
  rcases Nat.le_total n hx.choose with l | l
  · rw [whileD_mono l (by rw [h]; exact hn), h]
  · rw [← whileD_mono l hx.choose_spec, h]
theorem ds_while {c : Expr} {p : Den Bool} (hp : PassesOwn (model X.prog X.w) X.A X.env X.xe) (hc : DT X T W c p) (hb : DSs X T W body b) : DS X T W (.While c body [] pos) (sWhile p b) := by
  refine PS.imp (ps_while hp hc hb) ?_
  rintro B σ H ⟨I, m, cs, env, er, sr, h⟩
  unfold sWhile at h
  by_cases hx : ∃ n, whileD p b n env cs ≠ .no
  · rw [dif_pos hx] at h
    refine ⟨fun n σ H => ∃ I m cs env, ER T X.K I m env σ ∧ SR T X.K I m cs H ∧ SOk T X.K W I m (whileD p b n env cs) B, ⟨_, I, m, cs, env, er, sr, h⟩, ?_⟩
    rintro n σ H ⟨I, m, cs, env, er, sr, h⟩
    cases n with
    | zero => exact h.elim
    | succ n =>
      unfold whileD at h
      refine ⟨I, m, cs, env, er, sr, SOk.bindE h er fun k cs1 v H1 I1 m1 s1 p1 sr1 r1 h1 => ?_⟩
      have e : k = v := r1
      subst e
      by_cases hk : k = true
      · rw [if_pos hk] at h1
        rw [if_pos hk]
        refine ⟨fun σ' H' => ∃ I m cs env, ER T X.K I m env σ' ∧ SR T X.K I m cs H' ∧ SOk T X.K W I m (whileD p b n env cs) B, fun σ' H' p' => ⟨n, by omega, p'⟩, I1, m1, cs1, env, er.mono s1 p1, sr1, ?_⟩
        cases hb : b env cs1 with
        | nx env4 cs4 =>
          simp only [hb] at h1
          exact fun σ4 H4 I4 m4 s4 p4 sr4 er4 => ⟨I4, m4, cs4, env4, er4, sr4, SOk.up s4 p4 h1⟩
        | ct env4 cs4 =>
          simp only [hb] at h1
          exact fun σ4 H4 I4 m4 s4 p4 sr4 er4 => ⟨I4, m4, cs4, env4, er4, sr4, SOk.up s4 p4 h1⟩
        | bk env4 cs4 => simp only [hb] at h1; exact h1
        | rt d4 cs4 => simp only [hb] at h1; exact h1
        | ex c ks fs env4 cs4 => simp only [hb] at h1; exact h1
        | no => simp only [hb] at h1; exact h1
      · rw [if_neg hk] at h1
        rw [if_neg hk]
        exact SOk.nxI h1 sr1 (er.mono s1 p1)
  · rw [dif_neg hx] at h; exact h.elim
end

/-! ### what is walked -/
section
variable {X : Cx} {T : Tab} {W : WX} {tg e a b c : Expr} {f : Den D} {g : Den (List D)} {pos p : Pos}
def noChk : List Cell → Prop := fun _ => True
/-- a list -/
def itL (f : Den D) : Den ItV := fun env cs => (f env cs).bind fun x cs => match x with
  | .lst xs => .ok ⟨xs, noChk⟩ cs
  | .cell n => match cs[n]? with
    | some (.lst xs) => .ok ⟨xs, fun cs => cs[n]? = some (.lst xs)⟩ cs
    | _ => .no
  | _ => .no
theorem di_list (h : DE X T W e f) : DI X T W tg e (itL f) := by
  refine PI.imp (pi_list h) ?_
  rintro σ H Q ⟨I, m, cs, env, er, sr, h⟩
  refine ⟨I, m, cs, env, er, sr, OutG.bindI h fun x cs1 v H1 I1 m1 s1 p1 sr1 r1 h1 => ?_⟩
  cases x with
  | lst xs =>
    obtain ⟨a, us, rfl, q1, q2⟩ := rp_lst.mp r1
    refine ⟨a, rfl, ⟨us, (q1.same sr1.same).l⟩, h1.okI sr1 ?_⟩
    intro I' m' cs' H' s2 p2 sr2 _
    have qq := ((q1.same s2).same sr2.same)
    have qr := RpL.mono s2 p2 q2
    refine ⟨fun i d hd => ?_, us, qq.l, by rw [q2.length]; exact Nat.le_refl _⟩
    obtain ⟨v, e1, r2⟩ := qr.get hd
    refine ⟨⟨us, v, qq.l, e1⟩, fun x H2 y => ?_⟩
    obtain ⟨rfl, y⟩ := y
    have e2 := y us qq.l
    rw [e1] at e2; cases e2
    exact ⟨I', Same.refl _, sr2, r2⟩
  | cell n =>
    simp only at h1
    split at h1
    · rename_i xs hc
      obtain ⟨a, us, rfl, ea, q1, q2⟩ := cell_lst sr1 r1 hc
      refine ⟨a, rfl, ⟨us, .inl (.inl q1)⟩, h1.okI sr1 ?_⟩
      intro I' m' cs' H' s2 p2 sr2 hk
      obtain ⟨a2, us2, e2, ea2, q3, q4⟩ := cell_lst sr2 (Rp.mono s2 p2 r1) hk
      cases e2
      have qq : SqL X.K H' a us2 := .inl (.inl q3)
      refine ⟨fun i d hd => ?_, us2, qq, by rw [q4.length]; exact Nat.le_refl _⟩
      obtain ⟨v, e1, r2⟩ := q4.get hd
      refine ⟨⟨us2, v, qq, e1⟩, fun x H2 y => ?_⟩
      obtain ⟨rfl, y⟩ := y
      have e2 := y us2 qq
      rw [e1] at e2; cases e2
      exact ⟨I', Same.refl _, sr2, r2⟩
    · exact h1.elim
  | _ => exact h1.elim
/-- a tuple -/
def itT (f : Den D) : Den ItV := fun env cs => (f env cs).bind fun x cs => match x with
  | .tup xs => .ok ⟨xs, noChk⟩ cs
  | _ => .no
theorem di_tup (h : DE X T W e f) : DI X T W tg e (itT f) := by
  refine PI.imp (pi_tup h) ?_
  rintro σ H Q ⟨I, m, cs, env, er, sr, h⟩
  refine ⟨I, m, cs, env, er, sr, OutG.bindI h fun x cs1 v H1 I1 m1 s1 p1 sr1 r1 h1 => ?_⟩
  cases x with
  | tup xs =>
    obtain ⟨a, us, rfl, q1, q2⟩ := rp_tup.mp r1
    refine ⟨a, rfl, ⟨us, SqT.same sr1.same q1⟩, h1.okI sr1 ?_⟩
    intro I' m' cs' H' s2 p2 sr2 _
    have qq := SqT.same sr2.same (SqT.same s2 q1)
    have qr := RpL.mono s2 p2 q2
    refine ⟨fun i d hd => ?_, us, qq, by rw [q2.length]; exact Nat.le_refl _⟩
    obtain ⟨v, e1, r2⟩ := qr.get hd
    refine ⟨⟨us, v, qq, e1⟩, fun x H2 y => ?_⟩
    obtain ⟨rfl, y⟩ := y
    have e2 := y us qq
    rw [e1] at e2; cases e2
    exact ⟨I', Same.refl _, sr2, r2⟩
  | _ => exact h1.elim
/-- the numbers of a range -/
def rngL (lo : Int) (n : Nat) : List D := (List.range n).map fun (i : Nat) => D.int (lo + (i : Int))
theorem rngL_length {lo : Int} {n : Nat} : (rngL lo n).length = n := by unfold rngL; simp
theorem RI.rng {K : PySem.W.Frag} {I : Hp} {m : List Addr} {lo : Int} {n : Nat} : RI T K I m ⟨rngL lo n, noChk⟩ (Itr lo n) := by
  intro I' m' cs' H' s2 p2 sr2 _
  refine ⟨fun i d hd => ?_, by show n ≤ (rngL lo n).length; rw [rngL_length]; exact Nat.le_refl _⟩
  have hi : i < n := by
    have := (List.getElem?_eq_some_iff.mp hd).1
    rw [rngL_length] at this; exact this
  unfold rngL at hd
  simp [hi] at hd
  subst hd
  refine ⟨hi, fun x H2 y => ?_⟩
  obtain ⟨rfl, rfl⟩ := y
  exact ⟨I', Same.refl _, sr2, rp_int.mpr rfl⟩
def itR1 (g : Den (List D)) : Den ItV := fun env cs => (g env cs).bind fun ds cs => match ds with
  | [.int j] => if in62 j then .ok ⟨rngL 0 j.toNat, noChk⟩ cs else .no
  | _ => .no
theorem di_range1 (hg : Gl X "range") (hm : X.mg "range" = none) (ha : DA X T W [a] g) (hs : starEach [a] X.env = [(false, eval a X.env)] := by rfl) : DI X T W tg (.Call (.Name "range" p) [a] [] pos) (itR1 g) := by
  refine PI.imp (pi_range1 hg hm ha hs) ?_
  rintro σ H Q ⟨I, m, cs, env, er, sr, h⟩
  refine ⟨I, m, cs, env, er, sr, OutG.bindI h fun x cs1 v H1 I1 m1 s1 p1 sr1 r1 h1 => ?_⟩
  split at h1
  · rename_i j
    split at h1
    · rename_i hj
      obtain ⟨v1, rfl, q⟩ := RpL.i1 r1
      have hl : -(2 ^ 62) ≤ j ∧ j < 2 ^ 62 := hj
      exact ⟨j, by rw [rp_int.mp q], hl.1, hl.2, h1.okI sr1 RI.rng⟩
    · exact h1.elim
  · exact h1.elim
def itR2 (g : Den (List D)) : Den ItV := fun env cs => (g env cs).bind fun ds cs => match ds with
  | [.int i, .int j] => if in62 i ∧ in62 j then .ok ⟨rngL i (j - i).toNat, noChk⟩ cs else .no
  | _ => .no
theorem di_range2 (hg : Gl X "range") (hm : X.mg "range" = none) (ha : DA X T W [a, b] g) (hs : starEach [a, b] X.env = [(false, eval a X.env), (false, eval b X.env)] := by rfl) (hs2 : starEach [b] X.env = [(false, eval b X.env)] := by rfl) :
    DI X T W tg (.Call (.Name "range" p) [a, b] [] pos) (itR2 g) := by
  refine PI.imp (pi_range2 hg hm ha hs hs2) ?_
  rintro σ H Q ⟨I, m, cs, env, er, sr, h⟩
  refine ⟨I, m, cs, env, er, sr, OutG.bindI h fun x cs1 v H1 I1 m1 s1 p1 sr1 r1 h1 => ?_⟩
  split at h1
  · rename_i i j
    split at h1
    · rename_i hj
      obtain ⟨v1, v2, rfl, q1, q2⟩ := RpL.i2 r1
      have hl : -(2 ^ 62) ≤ i ∧ i < 2 ^ 62 := hj.1
      have hl2 : -(2 ^ 62) ≤ j ∧ j < 2 ^ 62 := hj.2
      exact ⟨i, j, by rw [rp_int.mp q1, rp_int.mp q2], ⟨hl.1, hl.2, hl2.1, hl2.2⟩, h1.okI sr1 RI.rng⟩
    · exact h1.elim
  · exact h1.elim
end
end
end DL
end

section
set_option Elab.async false
set_option linter.all false
set_option maxRecDepth 100000
set_option maxHeartbeats 4000000
namespace DL
open PySem L2
open Classical
noncomputable section

/-! ### cells let go -/
section
variable {T : Tab} {K : PySem.W.Frag} {I I' H H' : Hp} {m m' : List Addr}
mutual
theorem Rp.below : ∀ {d : D} {v : V}, Rp T K I m d v → D.lt m.length d = true
  | .non, _, _ => rfl
  | .bl _, _, _ => rfl
  | .int _, _, _ => rfl
  | .str _, _, _ => rfl
  | .tup ds, v, h => by
    unfold Rp at h; unfold D.lt
    obtain ⟨a, vs, e, q, r⟩ := h
    exact RpL.below r
  | .lst ds, v, h => by
    unfold Rp at h; unfold D.lt
    obtain ⟨a, vs, e, q, r⟩ := h
    exact RpL.below r
  | .obj c ds, v, h => by
    unfold Rp at h; unfold D.lt
    obtain ⟨a, dx, gs, e, q, k, r⟩ := h
    exact RpL.below r
  | .dic ks ds, v, h => by
    unfold Rp at h; unfold D.lt
    obtain ⟨a, gs, e, q, k, r⟩ := h
    exact RpL.below r
  | .cell k, v, h => by
    unfold Rp at h; unfold D.lt
    obtain ⟨a, e, q⟩ := h
    exact decide_eq_true (List.getElem?_eq_some_iff.mp e).1
  | .exc c ks ds, v, h => by
    unfold Rp at h; unfold D.lt
    obtain ⟨a, od, e, q, r⟩ := h
    rcases r with r | ⟨d', gs, r1, r2, r3, r4⟩
    · rw [r.2.2]; rfl
    · exact RpL.below r4
theorem RpL.below : ∀ {ds : List D} {vs : List V}, RpL T K I m ds vs → D.ltL m.length ds = true
  | [], _, _ => rfl
  | d :: ds, vs, h => by
    obtain ⟨v, r, rfl, q, k⟩ := h.inv
    unfold D.ltL
    rw [Rp.below q, RpL.below k]; rfl
end

theorem CellR.below {c : Cell} {o : HO} (h : CellR T K I m c o) : c.lt m.length = true := by
  cases c <;> cases o <;> first | exact h.elim | exact RpL.below h | exact RpL.below h.2.2 | exact RpL.below h.2
end
def trimOk (cs0 cs : List Cell) : Prop := ∀ (i : Nat) (c : Cell), i < cs0.length → cs[i]? = some c → cs0[i]? = some c ∨ c.lt cs0.length = true
def trim (cs0 cs : List Cell) (ok : Bool) : List Cell := if ok = true ∧ trimOk cs0 cs then cs.take cs0.length else cs
theorem trim_len {cs0 cs : List Cell} {b : Bool} (h : cs.length = cs0.length) : trim cs0 cs b = cs := by
  unfold trim; split
  · rw [← h]; simp
  · rfl
theorem trim_self {cs : List Cell} {b : Bool} : trim cs cs b = cs := trim_len rfl
theorem trim_app {cs e : List Cell} : trim cs (cs ++ e) true = cs := by
  unfold trim
  rw [if_pos ⟨rfl, fun i c hi e => .inl (by rw [List.getElem?_append_left hi] at e; exact e)⟩]
  simp
theorem trim_gen {cs0 cs e : List Cell} (hl : cs.length = cs0.length) (h : ∀ (i : Nat) (c : Cell), cs[i]? = some c → cs0[i]? = some c ∨ Cell.lt cs0.length c = true) : trim cs0 (cs ++ e) true = cs := by
  have ok : trimOk cs0 (cs ++ e) := fun i x hi q => by
    rw [List.getElem?_append_left (by omega)] at q
    exact h i x q
  unfold trim
  rw [if_pos ⟨rfl, ok⟩, List.take_left' hl]
theorem trim_set {cs e : List Cell} {n : Nat} {c : Cell} (hc : c.lt cs.length = true) : trim cs (cs.set n c ++ e) true = cs.set n c := by
  refine trim_gen (by simp) fun i x q => ?_
  by_cases hn : n = i
  · subst hn
    by_cases hi : n < cs.length
    · rw [List.getElem?_set_self hi] at q; cases q
      exact .inr hc
    · rw [List.getElem?_eq_none (by simpa using hi)] at q; cases q
  · rw [List.getElem?_set_ne hn] at q
    exact .inl q
section
variable {T : Tab} {K : PySem.W.Frag} {I0 I H0 H : Hp} {m0 m : List Addr} {cs0 cs : List Cell}
theorem SR.trim (s0 : SR T K I0 m0 cs0 H0) (s : SR T K I m cs H) (p : m0 <+: m) (ok : trimOk cs0 cs) : SR T K I m0 (cs.take cs0.length) H ∧ m.take cs0.length = m0 := by
  have em : m.take cs0.length = m0 := by
    obtain ⟨r, rfl⟩ := p
    rw [← s0.len]; simp
  refine ⟨?_, em⟩
  rw [← em]
  refine s.cut (List.all_eq_true.mpr fun c hc => ?_)
  obtain ⟨i, hi, e⟩ := List.getElem_of_mem hc
  have hi' : i < cs0.length := by
    rw [List.length_take] at hi; omega
  have e' : cs[i]? = some c := by
    have : (cs.take cs0.length)[i]? = some c := by rw [List.getElem?_eq_getElem hi, e]
    rw [List.getElem?_take_of_lt hi'] at this
    exact this
  rcases ok i c hi' e' with q | q
  · by_cases hg : c = .gone
    · subst hg; rfl
    · obtain ⟨a, o, _, _, _, r⟩ := s0.at_ i c q hg
      rw [← s0.len]
      exact r.below
  · exact q
end
/-! ### defs -/
abbrev FDen := List D → List Cell → Out D
def finS (cs0 : List Cell) : SO → Out D
  | .rt d cs => .ok d (trim cs0 cs (d.lt cs0.length))
  | .nx _ cs => .ok .non (trim cs0 cs true)
  | .ex c ks fs _ cs => .exn c ks fs (trim cs0 cs (D.ltL cs0.length fs))
  | _ => .no
def env0 (N : Nat) (ds : List D) : Env := ds.map some ++ List.replicate (N - ds.length) none
def mkF (N np : Nat) (b : SDen) : FDen := fun ds cs => if ds.length = np then finS cs (b (env0 N ds) cs) else .no
def spD (T : Tab) (K : PySem.W.Frag) (np : Nat) (den : FDen) : Sp := fun vs H Q E => vs.length = np ∧ ∃ I m cs ds, SR T K I m cs H ∧ RpL T K I m ds vs ∧ OutG T K (RD T K) I m (den ds cs) Q E
/-- a def by its denotation -/
structure DF (P : Program) (w : World) (K : PySem.W.Frag) (mg : PySem.Str → Option Value) (base : Heap) (T : Tab) (k : Nat) (f : Addr) (np : Nat) (den : FDen) : Prop where
  ex : ∃ fd ps, ps.length = np ∧ FnOk P w K mg base (L2.CX P w) k f fd ps (spD T K np den) ∧ Binds K fd ps []
  kp : PySem.W.keepIn K (.ref f) = true
  len : ∀ ds cs, ds.length ≠ np → den ds cs = .no
section
variable {P : Program} {w : World} {K : PySem.W.Frag} {mg : PySem.Str → Option Value} {base : Heap} {T : Tab}
theorem RpL.at_ {I : Hp} {m : List Addr} {ds : List D} {vs : List V} {i : Nat} {d : D} (h : RpL T K I m ds vs) (e : ds[i]? = some d) : ∃ v, vs[i]? = some v ∧ Rp T K I m d v := h.get e
theorem er_start {I : Hp} {m : List Addr} {N : List PySem.Str} {ds : List D} {vs : List V} (h : RpL T K I m ds vs) (hl : vs.length ≤ N.length) : ER T K I m (env0 N.length ds) (L2.start N vs) := by
  have l := h.length
  refine ⟨by unfold env0 L2.start; simp; omega, fun i d e => ?_⟩
  unfold env0 at e
  unfold L2.start
  by_cases hi : i < ds.length
  · rw [List.getElem?_append_left (by simpa using hi), List.getElem?_map] at e
    cases q : ds[i]? with
    | none => rw [q] at e; cases e
    | some d' =>
      rw [q] at e
      simp only [Option.map_some, Option.some.injEq] at e
      subst e
      obtain ⟨v, e1, r⟩ := h.get q
      refine ⟨v, ?_, r⟩
      rw [List.getElem?_append_left (by simp; omega), List.getElem?_map, e1]; rfl
  · rw [List.getElem?_append_right (by simpa using hi), List.getElem?_replicate] at e
    split at e <;> cases e
theorem sok_fin {I H : Hp} {m : List Addr} {cs : List Cell} {o : SO} {Q : VK} {E : XK} (sr : SR T K I m cs H) (h : OutG T K (RD T K) I m (finS cs o) Q E) :
    SOk T K (fun cls d _ H => E cls d H) I m o { nx := fun _ H' => Q .non H', rt := Q } := by
  cases o with
  | nx env cs1 =>
    intro σ' H' I' m' s p sr' er
    change OutG T K (RD T K) I m (.ok .non (if true = true ∧ trimOk cs cs1 then cs1.take cs.length else cs1)) Q E at h
    by_cases ok : true = true ∧ trimOk cs cs1
    · rw [if_pos ok] at h
      obtain ⟨sr2, em⟩ := SR.trim sr sr' p ok.2
      exact h .non H' I' m s (List.prefix_refl _) sr2 (rp_non.mpr rfl)
    · rw [if_neg ok] at h
      exact h .non H' I' m' s p sr' (rp_non.mpr rfl)
  | rt d cs1 =>
    intro v H' I' m' s p sr' r
    change OutG T K (RD T K) I m (.ok d (if d.lt cs.length = true ∧ trimOk cs cs1 then cs1.take cs.length else cs1)) Q E at h
    by_cases ok : d.lt cs.length = true ∧ trimOk cs cs1
    · rw [if_pos ok] at h
      obtain ⟨sr2, em⟩ := SR.trim sr sr' p ok.2
      have r2 := Rp.cut (n := cs.length) ok.1 r
      rw [em] at r2
      exact h v H' I' m s (List.prefix_refl _) sr2 r2
    · rw [if_neg ok] at h
      exact h v H' I' m' s p sr' r
  | bk => exact h.elim
  | ct => exact h.elim
  | ex c ks fs env cs1 =>
    intro cls od σ' H' I' m' s p sr' er r
    change OutG T K (RD T K) I m (.exn c ks fs (if D.ltL cs.length fs = true ∧ trimOk cs cs1 then cs1.take cs.length else cs1)) Q E at h
    by_cases ok : D.ltL cs.length fs = true ∧ trimOk cs cs1
    · rw [if_pos ok] at h
      obtain ⟨sr2, em⟩ := SR.trim sr sr' p ok.2
      refine h cls od H' I' m s (List.prefix_refl _) sr2 ?_
      refine ⟨r.1, ?_⟩
      rcases r.2 with z | ⟨d, gs, r1, r2, r3, r4⟩
      · exact .inl z
      · have r5 := RpL.cut (n := cs.length) ok.1 r4
        rw [em] at r5
        exact .inr ⟨d, gs, r1, r2, r3, r5⟩
    · rw [if_neg ok] at h
      exact h cls od H' I' m' s p sr' r
  | no => exact h.elim
theorem df_mk {x qual : PySem.Str} {params : Arguments} {body : List Stmt} {scope : Scope} {f : Addr} {N ps : List PySem.Str} {n np k : Nat} {b : SDen} (F : ∃ fd, FunD K x qual params body scope [] [] f fd) (S : FnScope N ps scope) (hn : N.length = n := by rfl) (hp : ps.length = np := by rfl)
    (hb : ∀ (kV doc pm : Value) (an : Option Addr) (cdv ct : Value) (us : List Value), us.length = ps.length → bindArgs (PySem.W.fnOf x qual params body scope .none kV doc pm an cdv ct) ⟨us, []⟩ = pure (ps.zip us))
    (hbody : ∀ (cdv : Value) (A : Around) (outer : List PySem.Env) (s : Shared) (H : Hp) (E : XK), Room k (A.deeper (PyProof.Rows.envOfC qual scope s.heap.objs.size f cdv)) →
      DSs (cxOf (L2.CX P w) P w K mg base N qual scope f cdv A outer s H E) T (fun cls d _ H => E cls d H) body b) : DF P w K mg base T (k + 1) f np (mkF n np b) := by
  subst hn hp
  obtain ⟨fd, F⟩ := F
  have hpl : ps.length ≤ N.length := by have := congrArg List.length S.pre; rw [List.length_take] at this; omega
  refine ⟨⟨fd, ps, rfl, F.ok S (fun vs H Q E h => h.1) (fun cdv A outer s H vs Q E hr h => ⟨_, hbody cdv A outer s H E hr, ?_⟩), F.bindsN hb⟩, F.kp, fun ds cs hn => if_neg hn⟩
  obtain ⟨hl, I, m, cs, ds, sr, r, h⟩ := h
  refine ⟨I, m, cs, env0 N.length ds, er_start r (by omega), sr, ?_⟩
  unfold mkF at h
  rw [if_pos (by rw [r.length]; exact hl)] at h
  exact sok_fin sr h
end
theorem DF.argn {P : Program} {w : World} {K : PySem.W.Frag} {mg : PySem.Str → Option Value} {base : Heap} {T : Tab} {k np : Nat} {f : Addr} {den : FDen} (c : DF P w K mg base T k f np den) {I : Hp} {m : List Addr} {ds : List D} {vs : List V} {cs : List Cell} {Q : VK} {E : XK}
    (r : RpL T K I m ds vs) (h : OutG T K (RD T K) I m (den ds cs) Q E) : vs.length = np := by
  by_cases hl : ds.length = np
  · rw [← r.length]; exact hl
  · rw [c.len ds cs hl] at h; exact h.elim
/-! ### calls -/
section
variable {X : Cx} {T : Tab} {W : WX} {k j np : Nat} {x m : PySem.Str} {f : Addr} {den : FDen} {e o : Expr} {es : List Expr} {g : Den (List D)} {fo : Den D} {p pos apos : Pos}
def dFn (den : FDen) (g : Den (List D)) : Den D := fun env cs => (g env cs).bind fun ds cs => den ds cs
theorem de_call (c : DF X.prog X.w X.K X.mg X.base T k f np den) (hm : X.mg x = some (.ref f)) (hr : Room j X.A) (tk : Takes X W) (ha : DA X T W (e :: es) g) (hk : k ≤ j := by decide) (hg : Gl X x := by rfl)
    (hdb : (x == ("__debug__" : PySem.Str)) = false := by decide) (he : starEach (e :: es) X.env = (false, eval e X.env) :: starEach es X.env := by rfl) (hpl : (backTo pos (starEach es X.env)).any (·.1) = false := by rfl) :
    DE X T W (.Call (.Name x p) (e :: es) [] pos) (dFn den g) := by
  obtain ⟨fd, ps, hl, F, hb⟩ := c.ex
  refine PE.imp (pe_callS (E := WE W) F (hr.mono hk) hg hm c.kp hb (passAt tk) ha hdb he hpl) ?_
  rintro σ H Q ⟨I, m, cs, env, er, sr, h⟩
  exact ⟨I, m, cs, env, er, sr, OutG.bindI h fun ds cs1 vs H1 I1 m1 s1 p1 sr1 r1 h1 => ⟨c.argn r1 h1, I1, m1, cs1, ds, sr1, r1, h1⟩⟩
end
end
end DL
end

section
set_option Elab.async false
set_option linter.all false
set_option maxRecDepth 100000
set_option maxHeartbeats 4000000
namespace L2
open PySem PySem.Spec PyProof.Rows
section
variable {X : Cx} {CX : CXT} {k : Nat} {f C : Addr} {fd : FuncData} {ps : List Str} {sp : Sp} {E : St → XK} {x m : Str} {p pos apos : Pos} {e o : Expr} {es : List Expr} {ta : TE} {t : TA}
theorem pe_callS0 (F : FnOk X.prog X.w X.K X.mg X.base CX k f fd ps sp) (hr : Room k X.A) (hg : Gl X x) (hm : X.mg x = some (.ref f)) (hk : PySem.W.keepIn X.K (.ref f) = true) (hb : Binds X.K fd ps []) (hx : ∀ σ, PassesAt CX X σ (E σ))
    (hdb : (x == ("__debug__" : Str)) = false := by decide) : PE X (.Call (.Name x p) [] [] pos) (tCallS sp E tNil) := by
  refine ⟨fun pins s σ H Q I h => ?_⟩
  refine wpAny_Call_Name_kw (ld_glob I hg hm ?_ hdb)
  exact PySem.W.callWith_K0 I.kIn hk (run_fnS (us := []) F hr hb (hx σ) I .nil h)
/-- o.m(..), the class found as it runs -/
def tMethQ (X : Cx) (CX : CXT) (k : Nat) (m : Str) (E : St → XK) (ta : TE) (t : TA) : TE := fun σ H Q => ta σ H fun x H1 => ∃ (a C dx : Addr) (fs : List (Str × V)) (f : Addr) (fd : FuncData) (ps : List Str) (sp : Sp), x = .ref a ∧ H1 a = some (.ins C dx fs) ∧ fs.lookup m = none ∧
  Cls X.K C ∧ Meth X.K C m f ∧ FnOk X.prog X.w X.K X.mg X.base CX k f fd ps sp ∧ Binds X.K fd ps [] ∧ t σ H1 fun vs H2 => sp (x :: vs) H2 Q (E σ)
theorem pe_methQ {pl : Sem Bool} (he : PE X o ta) (hr : Room k X.A) (hx : ∀ σ, PassesAt CX X σ (E σ)) (ha : PA X (e :: es) t)
    (hst : starEach (e :: es) X.env = (false, eval e X.env) :: starEach es X.env := by rfl) (hpl : (backTo pos (starEach es X.env)).any (·.1) = false := by rfl)
    (ht : eval (.Call (.Attribute o m apos) (e :: es) [] pos) X.env = (do
      let ov ← eval o X.env
      standAt apos.atName
      let (f, first) ← holding [ov] (getMethod ov m pl)
      callWith pos f first (backTo pos (starEach (e :: es) X.env)) (backToKw pos (keywordEach [] X.env))) := by rfl) :
    PE X (.Call (.Attribute o m apos) (e :: es) [] pos) (tMethQ X CX k m E ta t) := by
  refine ⟨fun pins s σ H Q I h => ?_⟩
  refine PySem.W.methodCall_KW (pl := pl) (thn (he.run pins s σ H _ I h) fun u s1 ⟨x, H1, I1, rx, a, C, dx, fs, f, fd, ps, sp, ex, ea, l, c, hm, F, hb, q⟩ => ?_) ht
  subst ex
  obtain rfl : u = Value.ref a := rx
  refine getmeth_ok I1 ea c hm l ?_
  refine PySem.W.callWith_K (first := [.ref a]) (h₀ := X.base) I.ok.mod.kin hm.kp (thn (ha.run pos pins s1 σ H1 _ I1 q) fun us s2 ⟨vs, H2, I2, r, q2⟩ => ⟨I2.kIn, ?_⟩) hst hpl
  exact run_fnS (us := .ref a :: us) (vs := .ref a :: vs) F hr hb (hx σ) I2 (.cons rfl r) q2
theorem pe_methQ0 {pl : Sem Bool} (he : PE X o ta) (hr : Room k X.A) (hx : ∀ σ, PassesAt CX X σ (E σ))
    (ht : eval (.Call (.Attribute o m apos) [] [] pos) X.env = (do
      let ov ← eval o X.env
      standAt apos.atName
      let (f, first) ← holding [ov] (getMethod ov m pl)
      callWith pos f first (backTo pos (starEach [] X.env)) (backToKw pos (keywordEach [] X.env))) := by rfl) :
    PE X (.Call (.Attribute o m apos) [] [] pos) (tMethQ X CX k m E ta tNil) := by
  refine ⟨fun pins s σ H Q I h => ?_⟩
  refine PySem.W.methodCall_KW (pl := pl) (thn (he.run pins s σ H _ I h) fun u s1 ⟨x, H1, I1, rx, a, C, dx, fs, f, fd, ps, sp, ex, ea, l, c, hm, F, hb, q⟩ => ?_) ht
  subst ex
  obtain rfl : u = Value.ref a := rx
  refine getmeth_ok I1 ea c hm l ?_
  exact PySem.W.callWith_K0 (first := [.ref a]) I1.kIn hm.kp (run_fnS (us := [.ref a]) (vs := [.ref a]) F hr hb (hx σ) I1 (.cons rfl .nil) q)
/-- C(..) -/
theorem run_makeS {pins : List (Addr × Obj)} {σ : St} {H : Hp} {s : Shared} {Q : VK} {us : List Value} {vs : List V} {E : XK} (M : Mk X.K C f) (F : FnOk X.prog X.w X.K X.mg X.base CX k f fd ps sp) (hr : Room (k + 1) X.A) (hb : Binds X.K fd ps [])
    (hx : PassesAt CX X σ E) (I : Inv X pins σ H s) (r : Vals vs us)
    (h : ∀ x dx, H x = none → H dx = none → dx ≠ x → sp (.ref x :: vs) (upd (upd H dx (.own x)) x (.ins C dx [])) (fun v H2 => v = .non ∧ Q (.ref x) H2) E) :
    wpAny (model X.prog X.w) X.A (call (.ref C) us) (EP X pins σ Q) X.xe s := by
  have hq := h (s.heap.objs.size + 1) s.heap.objs.size (I.hok.fresh (Nat.le_succ _)) (I.hok.fresh (Nat.le_refl _)) (Nat.ne_of_lt (Nat.lt_succ_self _))
  have I2 := Inv.made (C := C) I
  have r2 : Vals (V.ref (s.heap.objs.size + 1) :: vs) (Value.ref (s.heap.objs.size + 1) :: us) := .cons rfl r
  have hl : (Value.ref (s.heap.objs.size + 1) :: us).length = ps.length := by
    have e := r2.length
    rw [F.len _ _ _ _ hq] at e
    exact e.symm
  have hb2 := hb _ (Value.ref (s.heap.objs.size + 1) :: us) I2.kIn (by rw [List.append_nil]; exact hl)
  rw [List.append_nil] at hb2
  refine wpAny_call (make_map (f := f) I.kIn M.makes M.init (beq_iff_eq.mp M.fn) (codeAny_mono (F.run _ X.stack _ _ ⟨Value.ref (s.heap.objs.size + 1) :: us, []⟩ (Value.ref (s.heap.objs.size + 1) :: us) _ _ E (hr.make C us [])
    (I2.env0.make C us []) hb2 r2 hq) fun r s' hq' => ?_))
  cases r with
  | error e => exact hx pins _ _ e s' I2 hq'
  | ok fl =>
    cases fl with
    | ret u =>
      obtain ⟨v, H', I3, rv, ev, q3⟩ := I2.after hq'
      subst ev
      exact ⟨rv, ⟨V.ref (s.heap.objs.size + 1), H', I3, rfl, q3⟩⟩
    | next => exact False.elim hq'
    | brk => exact False.elim hq'
    | cont => exact False.elim hq'
def tMakeS (C : Addr) (sp : Sp) (E : St → XK) (t : TA) : TE := fun σ H Q => t σ H fun vs H1 => ∀ x dx, H1 x = none → H1 dx = none → dx ≠ x →
  sp (.ref x :: vs) (upd (upd H1 dx (.own x)) x (.ins C dx [])) (fun v H2 => v = .non ∧ Q (.ref x) H2) (E σ)
theorem pe_makeS (M : Mk X.K C f) (F : FnOk X.prog X.w X.K X.mg X.base CX k f fd ps sp) (hr : Room (k + 1) X.A) (hg : Gl X x) (hm : X.mg x = some (.ref C)) (hb : Binds X.K fd ps []) (hx : ∀ σ, PassesAt CX X σ (E σ))
    (ha : PA X (e :: es) t) (hdb : (x == ("__debug__" : Str)) = false := by decide) (he : starEach (e :: es) X.env = (false, eval e X.env) :: starEach es X.env := by rfl) (hpl : (backTo pos (starEach es X.env)).any (·.1) = false := by rfl) :
    PE X (.Call (.Name x p) (e :: es) [] pos) (tMakeS C sp E t) := by
  refine ⟨fun pins s σ H Q I h => ?_⟩
  refine wpAny_Call_Name_kw (ld_glob I hg hm ?_ hdb)
  refine PySem.W.callWith_K (h₀ := X.base) I.ok.mod.kin M.kp (thn (ha.run pos pins s σ H _ I h) fun us s1 ⟨vs, H1, I1, r, q⟩ => ⟨I1.kIn, ?_⟩) he hpl
  exact run_makeS M F hr hb (hx σ) I1 r q
/-- C(), a class that has no __init__ but object's -/
structure Mk0 (K : PySem.W.Frag) (C : Addr) : Prop where
  makes : PySem.W.makesIn K C = true
  init : PySem.W.findIn K (.ref C) "__init__" = some (some (.builtin "object.__init__"))
  kp : PySem.W.keepIn K (.ref C) = true
def tMake0 (C : Addr) : TE := fun σ H Q => ∀ x dx, H x = none → H dx = none → dx ≠ x → Q (.ref x) (upd (upd H dx (.own x)) x (.ins C dx []))
theorem run_make0 {pins : List (Addr × Obj)} {σ : St} {H : Hp} {s : Shared} {Q : VK} (M : Mk0 X.K C) (I : Inv X pins σ H s) (h : tMake0 C σ H Q) : wpAny (model X.prog X.w) X.A (call (.ref C) []) (EP X pins σ Q) X.xe s := by
  have hq := h (s.heap.objs.size + 1) s.heap.objs.size (I.hok.fresh (Nat.le_succ _)) (I.hok.fresh (Nat.le_refl _)) (Nat.ne_of_lt (Nat.lt_succ_self _))
  have I2 := Inv.made (C := C) I
  have Y := PySem.W.makes_of (M := model X.prog X.w) I.kIn M.makes
  have e2 : ((s.heap.push PySem.W.emptyDict).push (PySem.W.instObj C s.heap.objs.size)).get? (s.heap.objs.size + 1) = some (PySem.W.instObj C s.heap.objs.size) := by
    have := Heap.get?_push_size (s.heap.push PySem.W.emptyDict) (o := PySem.W.instObj C s.heap.objs.size) rfl
    rwa [Heap.size_push] at this
  have t1 : PySem.W.Looks (model X.prog X.w) ((s.heap.push PySem.W.emptyDict).push (PySem.W.instObj C s.heap.objs.size)) (typeOf (.ref (s.heap.objs.size + 1))) (.ref C) := (PySem.W.Looks.ld e2).andThen .now
  have t2 : PySem.W.Looks (model X.prog X.w) ((s.heap.push PySem.W.emptyDict).push (PySem.W.instObj C s.heap.objs.size)) (isInstance (.ref (s.heap.objs.size + 1)) (.type "object")) true :=
    t1.andThen (Y.top.keeps fun b o e => Heap.get?_push_of_some _ (Heap.get?_push_of_some _ e))
  refine wpAny_call (make_map0 I.kIn M.makes M.init (fun self => PySem.W.Looks.of_pure (PySem.W.oi_bind self)) ?_)
  refine codeAny_call_builtin PySem.W.oi_plain PySem.W.entry_oi (@PySem.W.check_slot (model X.prog X.w) _ _ _ "object.__init__" "object" "__init__" (.ref (s.heap.objs.size + 1)) [] [] _ PySem.W.oi_kind PySem.W.oi_split t2 (PySem.W.oi_args (.ref (s.heap.objs.size + 1))) ?_)
  rw [PySem.W.oi_run]
  exact wpAny_pure (And.intro rfl ⟨.ref (s.heap.objs.size + 1), _, I2, rfl, hq⟩)
theorem pe_make00 (M : Mk0 X.K C) (hg : Gl X x) (hm : X.mg x = some (.ref C)) (hdb : (x == ("__debug__" : Str)) = false := by decide) : PE X (.Call (.Name x p) [] [] pos) (tMake0 C) := by
  refine ⟨fun pins s σ H Q I h => ?_⟩
  refine wpAny_Call_Name_kw (ld_glob I hg hm ?_ hdb)
  exact PySem.W.callWith_K0 I.kIn M.kp (run_make0 M I h)
end
end L2
namespace DL
open PySem L2
open Classical
noncomputable section
section
variable {X : Cx} {T : Tab} {W : WX} {k j np c : Nat} {x m : PySem.Str} {f : Addr} {den : FDen} {e o : Expr} {es : List Expr} {g : Den (List D)} {fo : Den D} {p pos apos : Pos}
theorem de_call0 (c : DF X.prog X.w X.K X.mg X.base T k f np den) (hm : X.mg x = some (.ref f)) (hr : Room j X.A) (tk : Takes X W) (hk : k ≤ j := by decide) (hg : Gl X x := by rfl)
    (hdb : (x == ("__debug__" : PySem.Str)) = false := by decide) : DE X T W (.Call (.Name x p) [] [] pos) (fun _ cs => den [] cs) := by
  obtain ⟨fd, ps, hl, F, hb⟩ := c.ex
  refine PE.imp (pe_callS0 (E := WE W) F (hr.mono hk) hg hm c.kp hb (passAt tk) hdb) ?_
  rintro σ H Q ⟨I, m, cs, env, er, sr, h⟩
  exact ⟨c.argn RpL.nil h, I, m, cs, [], sr, RpL.nil, h⟩
/-! ### methods -/
/-- the class of an object, and no attribute hides the method -/
def clsOf (od : Nat → List Nat) (cs : List Cell) (x : D) : Option Nat := match x with
  | .obj c _ => some c
  | .cell n => match cs[n]? with
    | some (.ins c ks _) => if ks.all (fun k => decide (k ∈ od c)) = true then some c else none
    | _ => none
  | _ => none
theorem lookup_none {T : Tab} {ks : List Nat} {gs : List (PySem.Str × V)} {m : PySem.Str} (e : gs.map (·.1) = ks.map T.nm) (h : ∀ i ∈ ks, T.nm i ≠ m) : gs.lookup m = none := by
  induction gs generalizing ks with
  | nil => rfl
  | cons g gs ih =>
    cases ks with
    | nil => simp at e
    | cons k ks =>
      simp only [List.map_cons, List.cons.injEq] at e
      obtain ⟨e1, e2⟩ := e
      rw [List.lookup_cons]
      have hne : (m == g.1) = false := by
        have h0 := h k List.mem_cons_self
        rw [← e1] at h0
        simpa using fun z => h0 (by first | exact z.symm | exact z)
      rw [hne]
      exact ih e2 fun i hi => h i (List.mem_cons_of_mem _ hi)
theorem clsOf_ok {K : PySem.W.Frag} {I H : Hp} {mm : List Addr} {cs : List Cell} {x : D} {v : V} {m : PySem.Str} (sr : SR T K I mm cs H) (r : Rp T K I mm x v) (h : clsOf T.od cs x = some c) (hm : ∀ i ∈ T.od c, T.nm i ≠ m) :
    ∃ (a dx : Addr) (fs : List (PySem.Str × V)), v = .ref a ∧ H a = some (.ins (T.ca c) dx fs) ∧ fs.lookup m = none := by
  unfold clsOf at h
  split at h
  · cases h
    unfold Rp at r
    obtain ⟨a, dx, gs, rfl, q, k, r⟩ := r
    exact ⟨a, dx, gs, rfl, sr.same _ _ q, lookup_none k hm⟩
  · rename_i n
    split at h
    · rename_i c' ks ds hc
      split at h
      · rename_i hk
        cases h
        obtain ⟨a, e1, rfl⟩ := rp_cell.mp r
        obtain ⟨a', ob, q1, q2, q3, q4⟩ := sr.at_ n _ hc (by intro z; cases z)
        rw [e1] at q1; cases q1
        cases ob with
        | ins C dx gs =>
          obtain ⟨rfl, q5, q6⟩ := q4
          exact ⟨a, dx, gs, rfl, q3, lookup_none q5 fun i hi => hm i (by simpa using List.all_eq_true.mp hk i hi)⟩
        | _ => exact q4.elim
      · cases h
    · cases h
  · cases h
/-- which def the method is, by class -/
abbrev Disp := Nat → Option FDen
structure DM (X : Cx) (T : Tab) (k : Nat) (m : PySem.Str) (np : Nat) (disp : Disp) : Prop where
  at_ : ∀ c den, disp c = some den → (∀ i ∈ T.od c, T.nm i ≠ m) ∧ Cls X.K (T.ca c) ∧ ∃ f, Meth X.K (T.ca c) m f ∧ DF X.prog X.w X.K X.mg X.base T k f np den
def dMth (od : Nat → List Nat) (disp : Disp) (fo : Den D) (g : Den (List D)) : Den D := fun env cs => (fo env cs).bind fun x cs => match clsOf od cs x with
  | some c => (match disp c with
    | some den => (g env cs).bind fun ds cs => den (x :: ds) cs
    | none => .no)
  | none => .no
theorem tMethQ_of {od : Nat → List Nat} (hod : T.od = od) {disp : Disp} (M : DM X T k m np disp) {ta : TE} {t : TA} (e1 : ta = tG T X.K W (RD T X.K) fo) (e2 : t = tG T X.K W (RL T X.K) g) :
    ∀ σ H Q, tG T X.K W (RD T X.K) (dMth od disp fo g) σ H Q → tMethQ X (L2.CX X.prog X.w) k m (WE W) ta t σ H Q := by
  subst e1 e2 hod
  rintro σ H Q ⟨I, mm, cs, env, er, sr, h⟩
  refine ⟨I, mm, cs, env, er, sr, OutG.bindI h fun x cs1 v H1 I1 m1 s1 p1 sr1 r1 h1 => ?_⟩
  split at h1
  · rename_i c hc
    split at h1
    · rename_i den hd
      obtain ⟨hn, C, f, Me, F⟩ := M.at_ c den hd
      obtain ⟨a, dx, fs, rfl, ea, hl⟩ := clsOf_ok sr1 r1 hc hn
      obtain ⟨fd, ps, hl2, Fn, hb⟩ := F.ex
      refine ⟨a, T.ca c, dx, fs, f, fd, ps, _, rfl, ea, hl, C, Me, Fn, hb, I1, m1, cs1, env, er.mono s1 p1, sr1, OutG.bindI h1 fun ds cs2 vs H2 I2 m2 s2 p2 sr2 r2 h2 => ?_⟩
      have r3 := RpL.cons (r1.mono s2 p2) r2
      exact ⟨F.argn r3 h2, I2, m2, cs2, x :: ds, sr2, r3, h2⟩
    · exact h1.elim
  · exact h1.elim
theorem de_meth {od : Nat → List Nat} (hod : T.od = od) {disp : Disp} {pl : Sem Bool} (M : DM X T k m np disp) (hr : Room j X.A) (tk : Takes X W) (ho : DE X T W o fo) (ha : DA X T W (e :: es) g) (hk : k ≤ j := by decide)
    (hst : starEach (e :: es) X.env = (false, eval e X.env) :: starEach es X.env := by rfl) (hpl : (backTo pos (starEach es X.env)).any (·.1) = false := by rfl)
    (ht : eval (.Call (.Attribute o m apos) (e :: es) [] pos) X.env = (do
      let ov ← eval o X.env
      standAt apos.atName
      let (f, first) ← holding [ov] (getMethod ov m pl)
      callWith pos f first (backTo pos (starEach (e :: es) X.env)) (backToKw pos (keywordEach [] X.env))) := by rfl) :
    DE X T W (.Call (.Attribute o m apos) (e :: es) [] pos) (dMth od disp fo g) :=
  PE.imp (pe_methQ (pl := pl) (CX := L2.CX X.prog X.w) ho (hr.mono hk) (passAt tk) ha hst hpl ht) (tMethQ_of hod M rfl rfl)
theorem de_meth0 {od : Nat → List Nat} (hod : T.od = od) {disp : Disp} {pl : Sem Bool} (M : DM X T k m np disp) (hr : Room j X.A) (tk : Takes X W) (ho : DE X T W o fo) (hk : k ≤ j := by decide)
    (ht : eval (.Call (.Attribute o m apos) [] [] pos) X.env = (do
      let ov ← eval o X.env
      standAt apos.atName
      let (f, first) ← holding [ov] (getMethod ov m pl)
      callWith pos f first (backTo pos (starEach [] X.env)) (backToKw pos (keywordEach [] X.env))) := by rfl) :
    DE X T W (.Call (.Attribute o m apos) [] [] pos) (dMth od disp fo dNil) := by
  refine PE.imp (pe_methQ0 (pl := pl) (CX := L2.CX X.prog X.w) ho (hr.mono hk) (passAt tk) ht) ?_
  intro σ H Q h
  have h2 := tMethQ_of (W := W) (fo := fo) (g := dNil) hod M rfl rfl σ H Q h
  obtain ⟨I, mm, cs, env, er, sr, h2⟩ := h2
  refine ⟨I, mm, cs, env, er, sr, ?_⟩
  revert h2
  cases fo env cs with
  | no => exact id
  | exn => exact id
  | ok d cs =>
    intro h2 v H' I' m' s p sr' r'
    obtain ⟨a, C, dx, fs, f, fd, ps, sp, q1, q2, q3, q4, q5, q6, q7, I2, m2, cs2, env2, er2, sr2, h3⟩ := h2 v H' I' m' s p sr' r'
    exact ⟨a, C, dx, fs, f, fd, ps, sp, q1, q2, q3, q4, q5, q6, q7, h3 [] H' I2 m2 (Same.refl _) (List.prefix_refl _) sr2 RpL.nil⟩

/-! ### instances made -/
/-- C(..), frozen behind its __init__ -/
def mkO (od : Nat → List Nat) (c : Nat) (den : FDen) : FDen := fun ds cs => match den (.cell cs.length :: ds) (cs ++ [.ins c [] []]) with
  | .ok .non cs' => (match cs'[cs.length]? with
    | some (.ins c' ks fs) => if c' = c ∧ ks = od c then .ok (.obj c fs) (trim cs (cs'.set cs.length .gone) (D.ltL cs.length fs)) else .no
    | _ => .no)
  | .exn c ks fs cs' => .exn c ks fs (trim cs cs' (D.ltL cs.length fs))
  | _ => .no
/-- C(..), a cell -/
def mkC (c : Nat) (den : FDen) : FDen := fun ds cs => match den (.cell cs.length :: ds) (cs ++ [.ins c [] []]) with
  | .ok .non cs' => .ok (.cell cs.length) cs'
  | .exn c ks fs cs' => .exn c ks fs (trim cs cs' (D.ltL cs.length fs))
  | _ => .no
theorem ExR.cut {K : PySem.W.Frag} {I : Hp} {m : List Addr} {c : Nat} {ks : List Nat} {fs : List D} {cls : Value} {od : Option Addr} {n : Nat} (l : D.ltL n fs = true) (r : ExR T K I m c ks fs cls od) : ExR T K I (m.take n) c ks fs cls od := by
  refine ⟨r.1, ?_⟩
  rcases r.2 with z | ⟨d, gs, r1, r2, r3, r4⟩
  · exact .inl z
  · exact .inr ⟨d, gs, r1, r2, r3, RpL.cut l r4⟩
/-- an exception's end with cells let go -/
theorem exn_trim {α β : Type} {K : PySem.W.Frag} {R : Hp → List Addr → α → β → Prop} {I0 I H0 H : Hp} {m0 m : List Addr} {cs0 cs : List Cell} {c : Nat} {ks : List Nat} {fs : List D} {cls : Value} {od : Option Addr} {Q : β → Hp → Prop} {E : XK}
    (sr0 : SR T K I0 m0 cs0 H0) (h : OutG T K R I0 m0 (.exn c ks fs (trim cs0 cs (D.ltL cs0.length fs)) : Out α) Q E) (s : Same I0 I) (p : m0 <+: m) (sr : SR T K I m cs H) (r : ExR T K I m c ks fs cls od) : E cls od H := by
  unfold trim at h
  by_cases ok : D.ltL cs0.length fs = true ∧ trimOk cs0 cs
  · rw [if_pos ok] at h
    obtain ⟨sr2, em⟩ := SR.trim sr0 sr p ok.2
    have r2 := ExR.cut (n := cs0.length) ok.1 r
    rw [em] at r2
    exact h cls od H I m0 s (List.prefix_refl _) sr2 r2
  · rw [if_neg ok] at h
    exact h cls od H I m s p sr r
theorem ok_trim {β : Type} {K : PySem.W.Frag} {I0 I H0 H : Hp} {m0 m : List Addr} {cs0 cs : List Cell} {d : D} {v : V} {Q : V → Hp → Prop} {E : XK} {b : Bool}
    (sr0 : SR T K I0 m0 cs0 H0) (h : OutG T K (RD T K) I0 m0 (.ok d (trim cs0 cs b)) Q E) (hb : b = true → d.lt cs0.length = true) (s : Same I0 I) (p : m0 <+: m) (sr : SR T K I m cs H) (r : Rp T K I m d v) : Q v H := by
  unfold trim at h
  by_cases ok : b = true ∧ trimOk cs0 cs
  · rw [if_pos ok] at h
    obtain ⟨sr2, em⟩ := SR.trim sr0 sr p ok.2
    have r2 := Rp.cut (n := cs0.length) (hb ok.1) r
    rw [em] at r2
    exact h v H I m0 s (List.prefix_refl _) sr2 r2
  · rw [if_neg ok] at h
    exact h v H I m s p sr r
structure DK (X : Cx) (T : Tab) (k c np : Nat) (den : FDen) : Prop where
  ini : ∃ f, Mk X.K (T.ca c) f ∧ DF X.prog X.w X.K X.mg X.base T k f (np + 1) den
theorem mk_start {K : PySem.W.Frag} {I H : Hp} {m : List Addr} {cs : List Cell} {x dx : Addr} (sr : SR T K I m cs H) (hx : H x = none) (hd : H dx = none) (hne : dx ≠ x) :
    SR T K (upd I dx (.own x)) (m ++ [x]) (cs ++ [.ins c [] []]) (upd (upd H dx (.own x)) x (.ins (T.ca c) dx [])) ∧ Same I (upd I dx (.own x)) ∧ Rp T K (upd I dx (.own x)) (m ++ [x]) (.cell cs.length) (.ref x) := by
  obtain ⟨sr1, s1⟩ := sr.newI (o := .own x) hd
  have sr2 := sr1.newC (o := .ins (T.ca c) dx []) (c := .ins c [] []) (p := x) (by rw [upd_ne (Ne.symm hne)]; exact hx) ⟨rfl, rfl, RpL.nil⟩
  exact ⟨sr2, s1, rp_cell.mpr ⟨x, by rw [← sr.len]; simp, rfl⟩⟩
theorem tMakeS_of {den den' : FDen} {C : Addr} {np' : Nat} (hC : C = T.ca c) (hl : ∀ ds cs, ds.length ≠ np' → den ds cs = .no)
    (key : ∀ (I H : Hp) (mm : List Addr) (cs : List Cell) (ds : List D) (vs : List V) (Q : VK) (E : XK), SR T X.K I mm cs H → RpL T X.K I mm ds vs → OutG T X.K (RD T X.K) I mm (den' ds cs) Q E →
      ∀ x dx, H x = none → H dx = none → dx ≠ x → OutG T X.K (RD T X.K) (upd I dx (.own x)) (mm ++ [x]) (den (.cell cs.length :: ds) (cs ++ [.ins c [] []])) (fun v H2 => v = .non ∧ Q (.ref x) H2) E)
    {t : TA} (e2 : t = tG T X.K W (RL T X.K) g) : ∀ σ H Q, tG T X.K W (RD T X.K) (dFn den' g) σ H Q → tMakeS C (spD T X.K np' den) (WE W) t σ H Q := by
  subst e2 hC
  rintro σ H Q ⟨I, mm, cs, env, er, sr, h⟩
  refine ⟨I, mm, cs, env, er, sr, OutG.bindI h fun ds cs1 vs H1 I1 m1 s1 p1 sr1 r1 h1 => ?_⟩
  intro x dx hx hd hne
  have h2 := key I1 H1 m1 cs1 ds vs Q _ sr1 r1 h1 x dx hx hd hne
  obtain ⟨sr2, s2, rx⟩ := mk_start (c := c) sr1 hx hd hne
  have r3 := RpL.cons rx (RpL.mono s2 (List.prefix_append _ _) r1)
  refine ⟨?_, _, _, _, _, sr2, r3, h2⟩
  by_cases hz : (D.cell cs1.length :: ds).length = np'
  · rw [← r3.length]; exact hz
  · rw [hl _ _ hz] at h2; exact h2.elim
theorem mkO_key {od : Nat → List Nat} (hod : T.od = od) {den : FDen} : ∀ (I H : Hp) (mm : List Addr) (cs : List Cell) (ds : List D) (vs : List V) (Q : VK) (E : XK), SR T X.K I mm cs H → RpL T X.K I mm ds vs → OutG T X.K (RD T X.K) I mm (mkO od c den ds cs) Q E →
      ∀ x dx, H x = none → H dx = none → dx ≠ x → OutG T X.K (RD T X.K) (upd I dx (.own x)) (mm ++ [x]) (den (.cell cs.length :: ds) (cs ++ [.ins c [] []])) (fun v H2 => v = .non ∧ Q (.ref x) H2) E := by
  subst hod
  intro I H mm cs ds vs Q E sr r h x dx hx hd hne
  obtain ⟨sr2, s2, rx⟩ := mk_start (c := c) sr hx hd hne
  unfold mkO at h
  cases hden : den (.cell cs.length :: ds) (cs ++ [.ins c [] []]) with
  | no => rw [hden] at h; exact h.elim
  | exn c' ks fs cs' =>
    rw [hden] at h
    exact fun cls od' H' I' m' s p sr' r' => exn_trim (α := D) sr h (s2.trans s) ((List.prefix_append _ _).trans p) sr' r'
  | ok d cs' =>
    rw [hden] at h
    intro v H' I' m' s p sr' r'
    cases d with
    | non =>
      refine ⟨rp_non.mp r', ?_⟩
      simp only at h
      split at h
      · rename_i c' ks fs hc
        split at h
        · rename_i hcc
          obtain ⟨rfl, rfl⟩ := hcc
          have rx' := Rp.mono s p rx
          obtain ⟨a, e1, e2⟩ := rp_cell.mp rx'
          cases e2
          obtain ⟨a', ob, q1, q2, q3, q4⟩ := sr'.at_ _ _ hc (by intro z; cases z)
          rw [e1] at q1; cases q1
          cases ob with
          | ins C dx' gs =>
            obtain ⟨rfl, q5, q6⟩ := q4
            obtain ⟨sr3, s3⟩ := sr'.frz hc (by intro z; cases z) e1 q3
            refine ok_trim (β := V) sr h (fun z => by unfold D.lt; exact z) ((s2.trans s).trans s3) ((List.prefix_append _ _).trans p) sr3 ?_
            unfold Rp
            exact ⟨x, dx', gs, rfl, upd_same, q5, RpL.mono s3 (List.prefix_refl _) q6⟩
          | _ => exact q4.elim
        · exact h.elim
      · exact h.elim
    | _ => exact h.elim
theorem mkC_key {den : FDen} : ∀ (I H : Hp) (mm : List Addr) (cs : List Cell) (ds : List D) (vs : List V) (Q : VK) (E : XK), SR T X.K I mm cs H → RpL T X.K I mm ds vs → OutG T X.K (RD T X.K) I mm (mkC c den ds cs) Q E →
      ∀ x dx, H x = none → H dx = none → dx ≠ x → OutG T X.K (RD T X.K) (upd I dx (.own x)) (mm ++ [x]) (den (.cell cs.length :: ds) (cs ++ [.ins c [] []])) (fun v H2 => v = .non ∧ Q (.ref x) H2) E := by
  intro I H mm cs ds vs Q E sr r h x dx hx hd hne
  obtain ⟨sr2, s2, rx⟩ := mk_start (c := c) sr hx hd hne
  unfold mkC at h
  cases hden : den (.cell cs.length :: ds) (cs ++ [.ins c [] []]) with
  | no => rw [hden] at h; exact h.elim
  | exn c' ks fs cs' =>
    rw [hden] at h
    exact fun cls od' H' I' m' s p sr' r' => exn_trim (α := D) sr h (s2.trans s) ((List.prefix_append _ _).trans p) sr' r'
  | ok d cs' =>
    rw [hden] at h
    intro v H' I' m' s p sr' r'
    cases d with
    | non => exact ⟨rp_non.mp r', h (.ref x) H' I' m' (s2.trans s) ((List.prefix_append _ _).trans p) sr' (Rp.mono s p rx)⟩
    | _ => exact h.elim
theorem de_mkO {od : Nat → List Nat} (hod : T.od = od) (M : DK X T k c np den) (hm : X.mg x = some (.ref (T.ca c))) (hr : Room j X.A) (tk : Takes X W) (ha : DA X T W (e :: es) g) (hk : k + 1 ≤ j := by decide) (hg : Gl X x := by rfl)
    (hdb : (x == ("__debug__" : PySem.Str)) = false := by decide) (he : starEach (e :: es) X.env = (false, eval e X.env) :: starEach es X.env := by rfl) (hpl : (backTo pos (starEach es X.env)).any (·.1) = false := by rfl) :
    DE X T W (.Call (.Name x p) (e :: es) [] pos) (dFn (mkO od c den) g) := by
  obtain ⟨f, M, F⟩ := M.ini
  obtain ⟨fd, ps, hl, Fn, hb⟩ := F.ex
  exact PE.imp (pe_makeS (E := WE W) M Fn (hr.mono hk) hg hm hb (passAt tk) ha hdb he hpl) (tMakeS_of rfl F.len (mkO_key hod) rfl)
theorem de_mkC (M : DK X T k c np den) (hm : X.mg x = some (.ref (T.ca c))) (hr : Room j X.A) (tk : Takes X W) (ha : DA X T W (e :: es) g) (hk : k + 1 ≤ j := by decide) (hg : Gl X x := by rfl)
    (hdb : (x == ("__debug__" : PySem.Str)) = false := by decide) (he : starEach (e :: es) X.env = (false, eval e X.env) :: starEach es X.env := by rfl) (hpl : (backTo pos (starEach es X.env)).any (·.1) = false := by rfl) :
    DE X T W (.Call (.Name x p) (e :: es) [] pos) (dFn (mkC c den) g) := by
  obtain ⟨f, M, F⟩ := M.ini
  obtain ⟨fd, ps, hl, Fn, hb⟩ := F.ex
  exact PE.imp (pe_makeS (E := WE W) M Fn (hr.mono hk) hg hm hb (passAt tk) ha hdb he hpl) (tMakeS_of rfl F.len mkC_key rfl)
/-- C() of a class without attributes -/
theorem de_mk0 (M : Mk0 X.K (T.ca c)) (hod : T.od c = []) (hm : X.mg x = some (.ref (T.ca c))) (hg : Gl X x := by rfl) (hdb : (x == ("__debug__" : PySem.Str)) = false := by decide) :
    DE X T W (.Call (.Name x p) [] [] pos) (fun _ cs => .ok (.obj c []) cs) := by
  refine PE.imp (pe_make00 M hg hm hdb) ?_
  rintro σ H Q ⟨I, m, cs, env, er, sr, h⟩
  intro x dx hx hd hne
  obtain ⟨sr1, s1⟩ := sr.newI (o := .own x) hd
  obtain ⟨sr2, s2⟩ := sr1.newI (o := .ins (T.ca c) dx []) (p := x) (by rw [upd_ne (Ne.symm hne)]; exact hx)
  refine h.ok1 (s1.trans s2) sr2 ?_
  unfold Rp
  exact ⟨x, dx, [], rfl, upd_same, by rw [hod]; rfl, RpL.nil⟩
end
end
end DL
end

section
set_option Elab.async false
set_option linter.all false
set_option maxRecDepth 100000
set_option maxHeartbeats 4000000
namespace DL
open PySem L2
open Classical
noncomputable section
/-! ### list comprehensions -/
abbrev W0 : WX := fun _ _ _ _ => False
theorem takes_no {X : Cx} : Takes X W0 := fun _ _ ⟨_, _, _, _, _, _, _, _, _, _, _, _, _, _, _, _, w⟩ => w.elim
/-- stores that touch the slots vs alone -/
def tGk (T : Tab) (K : PySem.W.Frag) (vs : List Nat) (g : GDen) : TG := fun v σ H Q => ∃ I m cs env d, ER T K I m env σ ∧ SR T K I m cs H ∧ Rp T K I m d v ∧ (match g d env cs with
  | .nx env' cs' => ∀ σ' H' I' m', Same I I' → m <+: m' → SR T K I' m' cs' H' → ER T K I' m' env' σ' → wipe σ' vs = wipe σ vs → Q σ' H'
  | _ => False)
def tGks (T : Tab) (K : PySem.W.Frag) (vs : List Nat) (g : List D → Env → List Cell → SO) : TGs := fun us σ H Q => ∃ I m cs env ds, ER T K I m env σ ∧ SR T K I m cs H ∧ RpL T K I m ds us ∧ (match g ds env cs with
  | .nx env' cs' => ∀ σ' H' I' m', Same I I' → m <+: m' → SR T K I' m' cs' H' → ER T K I' m' env' σ' → wipe σ' vs = wipe σ vs → Q σ' H'
  | _ => False)
def DGk (X : Cx) (T : Tab) (vs : List Nat) (tgt : Expr) (g : GDen) : Prop := PG X tgt (tGk T X.K vs g)
def DGks (X : Cx) (T : Tab) (vs : List Nat) (tgts : List Expr) (g : List D → Env → List Cell → SO) : Prop := PGs X tgts (tGks T X.K vs g)
theorem set_comm_none {σ : St} {i j : Nat} {a b : Option V} (h : i ≠ j) : (σ.set i a).set j b = (σ.set j b).set i a := List.set_comm _ _ h
theorem wipe_set {i : Nat} {a : Option V} {σ : St} : ∀ {vs : List Nat}, i ∈ vs → wipe (σ.set i a) vs = wipe σ vs
  | v :: vs, h => by
    unfold wipe
    by_cases hv : i ∈ vs
    · rw [wipe_set hv]
    · have e : v = i := by
        rcases List.mem_cons.mp h with q | q
        · exact q.symm
        · exact absurd q hv
      subst e
      have gen : ∀ {vs : List Nat}, v ∉ vs → wipe (σ.set v a) vs = (wipe σ vs).set v a := fun {vs} hn => by
        induction vs with
        | nil => rfl
        | cons w ws ih =>
          unfold wipe
          rw [ih (fun z => hn (List.mem_cons_of_mem _ z))]
          exact set_comm_none (fun z => hn (z ▸ List.mem_cons_self))
      rw [gen hv, List.set_set]
  | [], h => by cases h
section
variable {X : Cx} {T : Tab} {W : WX} {tg e iter elt c : Expr} {es : List Expr} {f h : Den D} {pos : Pos} {vs : List Nat}
theorem dgk_name {i : Nat} {x : PySem.Str} (hg : PG X (.Name x pos) (gName i)) (hi : i ∈ vs := by decide) : DGk X T vs (.Name x pos) (gNm i) := by
  refine PG.imp hg ?_
  rintro v σ H Q ⟨I, m, cs, env, d, er, sr, r, h⟩
  exact h _ H I m (Same.refl I) (List.prefix_refl _) sr (er.set r) (wipe_set hi)
theorem dgks_nil : DGks X T vs [] gsNil := by
  refine PGs.imp pgs_nil ?_
  rintro us σ H Q ⟨I, m, cs, env, ds, er, sr, r, h⟩
  cases ds with
  | nil => exact ⟨r.inil, h σ H I m (Same.refl I) (List.prefix_refl _) sr er rfl⟩
  | cons d ds => exact h.elim
theorem dgks_cons {g1 : GDen} {gs : List D → Env → List Cell → SO} (h1 : DGk X T vs e g1) (h2 : DGks X T vs es gs) (hs : (assignEach (e :: es) X.env).map (·.2) = assign e X.env :: (assignEach es X.env).map (·.2) := by rfl) : DGks X T vs (e :: es) (gsCons g1 gs) := by
  refine PGs.imp (pgs_cons h1 h2 hs) ?_
  rintro us σ H Q ⟨I, m, cs, env, ds, er, sr, r, h⟩
  cases ds with
  | nil => exact h.elim
  | cons d ds =>
    obtain ⟨v, r', rfl, q, k⟩ := r.inv
    unfold gsCons at h
    simp only at h
    cases hg : g1 d env cs with
    | nx env' cs' =>
      simp only [hg] at h
      refine ⟨v, r', rfl, I, m, cs, env, d, er, sr, q, ?_⟩
      rw [hg]
      intro σ' H' I' m' s1 p1 sr1 er1 w1
      refine ⟨I', m', cs', env', ds, er1, sr1, RpL.mono s1 p1 k, ?_⟩
      cases hg2 : gs ds env' cs' with
      | nx env2 cs2 =>
        simp only [hg2] at h ⊢
        exact fun σ2 H2 I2 m2 s2 p2 sr2 er2 w2 => h σ2 H2 I2 m2 (s1.trans s2) (p1.trans p2) sr2 er2 (w2.trans w1)
      | _ => simp only [hg2] at h
    | _ => simp only [hg] at h
theorem dgk_tup {k n : Nat} {gs : List D → Env → List Cell → SO} (hc : X.calm = true) (h : DGks X T vs es gs) (hn : (assignEach es X.env).length = n := by rfl) (hst : (assignEach es X.env).findIdx? (·.1) = none := by rfl) : DGk X T vs (.Tuple es k pos) (gTupD n gs) := by
  refine PG.imp (pg_tup hc h hn hst) ?_
  rintro v σ H Q ⟨I, m, cs, env, d, er, sr, r, h⟩
  cases d with
  | tup xs =>
    obtain ⟨a, us, rfl, q1, q2⟩ := rp_tup.mp r
    unfold gTupD at h
    simp only at h
    by_cases hl : xs.length = n
    · rw [if_pos hl] at h
      exact ⟨a, us, rfl, SqT.same sr.same q1, by rw [← q2.length]; exact hl, I, m, cs, env, xs, er, sr, q2, h⟩
    · rw [if_neg hl] at h; exact h.elim
  | _ => exact h.elim
def DTs (X : Cx) (T : Tab) (W : WX) (ifs : List Expr) (p : Den Bool) : Prop := PTs X ifs (tG T X.K W RB p)
theorem PTs.imp {ifs : List Expr} {t t' : TT} (h : PTs X ifs t) (i : ∀ σ H Q, t' σ H Q → t σ H Q) : PTs X ifs t' := ⟨fun pins s σ H Q I q => h.run pins s σ H Q I (i σ H Q q)⟩
def pYes : Den Bool := fun _ cs => .ok true cs
theorem dts_nil : DTs X T W [] pYes := by
  refine PTs.imp pts_nil ?_
  rintro σ H Q ⟨I, m, cs, env, er, sr, h⟩
  exact h.okI sr rfl
theorem dts_one {p : Den Bool} (hc : DT X T W c p) : DTs X T W [c] p := pts_one hc
/-- the slots of the block's own names forgotten -/
def wipeE (env : Env) : List Nat → Env
  | [] => env
  | v :: vs => (wipeE env vs).set v none
theorem ER.wipe {K : PySem.W.Frag} {I : Hp} {m : List Addr} {env : Env} {σ : St} (er : ER T K I m env σ) : ∀ {vs : List Nat}, ER T K I m (wipeE env vs) (L2.wipe σ vs)
  | [] => er
  | v :: vs => by unfold wipeE L2.wipe; exact (ER.wipe er).setN
def lcL (chk : List Cell → Prop) (g : GDen) (p : Den Bool) (h : Den D) (n : Nat) (env : Env) : List D → List Cell → Out Unit
  | [] => fun cs => if chk cs then .ok () cs else .no
  | x :: r => fun cs => if chk cs then (match g x env cs with
      | .nx env' cs => (match p env' cs with
        | .ok b cs => if b = true then (match h env' cs with
            | .ok d cs' => (match (trim cs cs' (d.lt cs.length))[n]? with
              | some (.lst acc) => if fitsL acc.length then lcL chk g p h n env r ((trim cs cs' (d.lt cs.length)).set n (.lst (acc ++ [d]))) else .no
              | _ => .no)
            | _ => .no) else lcL chk g p h n env r cs
        | _ => .no)
      | _ => .no) else .no
/-- [h for g in f if p], a cell -/
def dLcC (vs : List Nat) (f : Den ItV) (g : GDen) (p : Den Bool) (h : Den D) : Den D := fun env cs => (f env cs).bind fun it cs1 => match lcL it.chk g p h cs1.length (wipeE env vs) it.xs (cs1 ++ [.lst []]) with
  | .ok _ cs' => .ok (.cell cs1.length) cs'
  | _ => .no
theorem OutG.noexn {α β : Type} {K : PySem.W.Frag} {R : Hp → List Addr → α → β → Prop} {I : Hp} {m : List Addr} {x : Out α} {Q : β → Hp → Prop} (h : match x with
  | .ok a cs => ∀ v H' I' m', Same I I' → m <+: m' → SR T K I' m' cs H' → R I' m' a v → Q v H'
  | _ => False) {E : XK} : OutG T K R I m x Q E := by
  cases x with
  | ok a cs => exact h
  | _ => exact h.elim
theorem tLc_of {f : Den ItV} {g : GDen} {p : Den Bool} {wi : TI} {tgt : TG} {tt : TT} {te : TE} (e1 : wi = tG T X.K W (RI T X.K) f) (e2 : tgt = tGk T X.K vs g) (e3 : tt = tG T X.K W0 RB p) (e4 : te = tG T X.K W0 (RD T X.K) h) :
    ∀ σ H Q, tG T X.K W (RD T X.K) (dLcC vs f g p h) σ H Q → tLc wi tgt tt te vs σ H Q := by
  subst e1 e2 e3 e4
  rintro σ H Q ⟨I, m, cs, env, er, sr, hh⟩
  refine ⟨I, m, cs, env, er, sr, OutG.bindI hh fun it cs1 J H1 I1 m1 s1 p1 sr1 r1 h1 => ?_⟩
  intro Dl hD
  have er1 := er.mono s1 p1
  have sr2 := sr1.newC (o := .lst []) (c := .lst []) hD (show CellR T X.K I1 m1 (.lst []) (.lst []) from (RpL.nil : RpL T X.K I1 m1 [] []))
  have key : ∀ z : Out Unit, OutG T X.K (RD T X.K) I1 m1 (match z with
    | .ok _ cs' => .ok (.cell cs1.length) cs'
    | _ => .no) Q (fun cls od H' => W cls od σ H') → ∃ cs', z = .ok () cs' ∧ ∀ v H' I' m', Same I1 I' → m1 <+: m' → SR T X.K I' m' cs' H' → Rp T X.K I' m' (.cell cs1.length) v → Q v H' := fun z hz => by
    cases z with
    | ok u cs' => exact ⟨cs', rfl, hz⟩
    | _ => exact hz.elim
  obtain ⟨csF, eF, hF⟩ := key _ h1
  refine ⟨fun i n H => n = it.xs.length - i ∧ i ≤ it.xs.length ∧ ∃ I2 m2 cs2, Same I1 I2 ∧ (m1 ++ [Dl]) <+: m2 ∧ SR T X.K I2 m2 cs2 H ∧ lcL it.chk g p h cs1.length (wipeE env vs) (it.xs.drop i) cs2 = .ok () csF,
    ⟨it.xs.length, by simp, Nat.zero_le _, I1, m1 ++ [Dl], _, Same.refl _, List.prefix_refl _, sr2, by simpa using eF⟩, ?_⟩
  rintro i n H ⟨rfl, hi, I2, m2, cs2, s2, p2, sr2, e2⟩
  have p12 : m1 <+: m2 := (List.prefix_append _ _).trans p2
  have atD : m2[cs1.length]? = some Dl := pre_get p2 (by rw [← sr1.len]; simp)
  by_cases hlt : i < it.xs.length
  · have ed : it.xs.drop i = it.xs[i] :: it.xs.drop (i + 1) := by simp
    rw [ed] at e2
    unfold lcL at e2
    by_cases hc : it.chk cs2
    · rw [if_pos hc] at e2
      obtain ⟨q1, q2⟩ := r1 I2 m2 cs2 H s2 p12 sr2 hc
      obtain ⟨go, ys⟩ := q1 i it.xs[i] (by simp [hlt])
      refine .inr ⟨go, fun H' => ∃ I2 m2 cs2, Same I1 I2 ∧ (m1 ++ [Dl]) <+: m2 ∧ SR T X.K I2 m2 cs2 H' ∧ lcL it.chk g p h cs1.length (wipeE env vs) (it.xs.drop (i + 1)) cs2 = .ok () csF, fun H' p' => ⟨it.xs.length - (i + 1), by omega, rfl, hlt, p'⟩, fun x H' y => ?_⟩
      obtain ⟨I3, s3, sr3, r3⟩ := ys x H' y
      refine ⟨I3, m2, cs2, wipeE env vs, it.xs[i], ((er1.mono s2 p12).mono s3 (List.prefix_refl _)).wipe, sr3, r3, ?_⟩
      cases hg : g it.xs[i] (wipeE env vs) cs2 with
      | nx env' cs4 =>
        simp only [hg] at e2 ⊢
        intro σ4 H4 I4 m4 s4 p4 sr4 er4 w4
        refine ⟨?_, I4, m4, cs4, env', er4, sr4, ?_⟩
        · have : L2.wipe (L2.wipe σ vs) vs = L2.wipe σ vs := by
            have gen : ∀ (ws us : List Nat) (τ : St), (∀ v ∈ ws, v ∈ us) → L2.wipe (L2.wipe τ ws) us = L2.wipe τ us := fun ws => by
              induction ws with
              | nil => exact fun us τ _ => rfl
              | cons w ws ih =>
                intro us τ hsub
                show L2.wipe ((L2.wipe τ ws).set w none) us = _
                rw [wipe_set (hsub w List.mem_cons_self), ih us τ fun v hv => hsub v (List.mem_cons_of_mem _ hv)]
            exact gen vs vs σ fun _ h => h
          rw [w4, this]
        · refine OutG.noexn ?_
          cases hp : p env' cs4 with
          | ok b cs5 =>
            simp only [hp] at e2 ⊢
            intro b' H5 I5 m5 s5 p5 sr5 eb
            have eb : b = b' := eb
            subst eb
            have er5 := er4.mono s5 p5
            by_cases hb : b = true
            · rw [if_pos hb] at e2
              rw [if_pos hb]
              refine ⟨I5, m5, cs5, env', er5, sr5, OutG.noexn ?_⟩
              cases hh : h env' cs5 with
              | ok d cs6 =>
                simp only [hh] at e2 ⊢
                intro v H6 I6 m6 s6 p6 sr6 r6
                -- cells let go
                have tr : ∃ m7, m5 <+: m7 ∧ SR T X.K I6 m7 (trim cs5 cs6 (d.lt cs5.length)) H6 ∧ Rp T X.K I6 m7 d v := by
                  unfold trim
                  by_cases ok : d.lt cs5.length = true ∧ trimOk cs5 cs6
                  · rw [if_pos ok]
                    obtain ⟨sr7, em⟩ := SR.trim sr5 sr6 p6 ok.2
                    have r7 := Rp.cut (n := cs5.length) ok.1 r6
                    rw [em] at r7
                    exact ⟨m5, List.prefix_refl _, sr7, r7⟩
                  · rw [if_neg ok]
                    exact ⟨m6, p6, sr6, r6⟩
                obtain ⟨m7, p7, sr7, r7⟩ := tr
                have atD7 : m7[cs1.length]? = some Dl := pre_get (p4.trans (p5.trans p7)) atD
                generalize trim cs5 cs6 (d.lt cs5.length) = cs7 at e2 sr7
                cases hn : cs7[cs1.length]? with
                | none => simp only [hn] at e2; cases e2
                | some cl =>
                  cases cl with
                  | lst acc =>
                    simp only [hn] at e2
                    by_cases hl : fitsL acc.length
                    · rw [if_pos hl] at e2
                      obtain ⟨a', ob, z1, z2, z3, z4⟩ := sr7.at_ _ _ hn (by intro z; cases z)
                      rw [atD7] at z1; cases z1
                      cases ob with
                      | lst us =>
                        have z4 : RpL T X.K I6 m7 acc us := z4
                        refine ⟨us, z3, by rw [← z4.length]; exact hl, I6, m7, _, s2.trans (s3.trans (s4.trans (s5.trans s6))), p2.trans (p4.trans (p5.trans p7)), ?_, e2⟩
                        exact sr7.setC hn (by intro z; cases z) atD7 (z4.append (RpL.one r7))
                      | _ => exact z4.elim
                    · rw [if_neg hl] at e2; cases e2
                  | _ => simp only [hn] at e2; cases e2
              | _ => simp only [hh] at e2; cases e2
            · rw [if_neg hb] at e2
              rw [if_neg hb]
              exact ⟨I5, m5, cs5, s2.trans (s3.trans (s4.trans s5)), p2.trans (p4.trans p5), sr5, e2⟩
          | _ => simp only [hp] at e2; cases e2
      | _ => simp only [hg] at e2; cases e2
    · rw [if_neg hc] at e2; cases e2
  · have e : i = it.xs.length := by omega
    have ed : it.xs.drop i = [] := by rw [e]; simp
    rw [ed] at e2
    unfold lcL at e2
    by_cases hc : it.chk cs2
    · rw [if_pos hc] at e2
      cases e2
      refine .inl ⟨?_, hF (.ref Dl) H I2 m2 s2 p12 sr2 (rp_cell.mpr ⟨Dl, atD, rfl⟩)⟩
      rw [e]
      exact (r1 I2 m2 _ H s2 p12 sr2 hc).2
    · rw [if_neg hc] at e2; cases e2
def blkB (N : List PySem.Str) (sc scope : Scope) (own : List (PySem.Str × Nat)) : Bool :=
  decide (scope.kind = .function) && scope.names.all (fun y => decide (scope.names.lookup y.1 = some y.2)) && own.all (fun p => decide (N[p.2]? = some p.1)) &&
  scope.names.all (fun y => !decide (y.2 = .free) || decide (sc.names.lookup y.1 = some .cell) || decide (sc.names.lookup y.1 = some .free)) &&
  scope.names.all (fun y => !(decide (y.2 = .local) || decide (y.2 = .cell)) || decide (y.1 ∈ own.map (·.1)) || decide (y.1 ∉ N))
theorem blk_by {N : List PySem.Str} {sc scope : Scope} {own : List (PySem.Str × Nat)} (h : blkB N sc scope own = true) : BlkOk N sc scope own := by
  unfold blkB at h
  simp only [Bool.and_eq_true, decide_eq_true_eq, List.all_eq_true, Bool.or_eq_true, Bool.not_eq_true', decide_eq_false_iff_not, Bool.or_eq_false_iff] at h
  obtain ⟨⟨⟨⟨h1, h2⟩, h3⟩, h4⟩, h5⟩ := h
  refine ⟨h1, h2, h3, fun y hy e => ?_, fun y hy e => ?_⟩
  · rcases h4 y hy with (q | q) | q
    · exact absurd e q
    · exact .inl q
    · exact .inr q
  · rcases h5 y hy with (q | q) | q
    · rcases e with e | e
      · exact absurd e q.1
      · exact absurd e q.2
    · exact .inl q
    · exact .inr q
theorem de_lcC {ifs : List Expr} {scope : Scope} {own : List (PySem.Str × Nat)} {f : Den ItV} {g : GDen} {p : Den Bool} (hc : X.calm = true) (hN : X.N.Nodup) (hi : DI X T W tg iter f) (ok : BlkOk X.N X.env.scope scope own)
    (hg : ∀ (s : Shared) (H : Hp) (C : Addr) (cl : List (PySem.Str × Addr)) (fp : List Addr), DGk (X.blk s H scope (compEnvC scope cl C X.env) fp) T (own.map (·.2)) tg g) (ht : ∀ (s : Shared) (H : Hp) (C : Addr) (cl : List (PySem.Str × Addr)) (fp : List Addr), DTs (X.blk s H scope (compEnvC scope cl C X.env) fp) T W0 ifs p)
    (he : ∀ (s : Shared) (H : Hp) (C : Addr) (cl : List (PySem.Str × Addr)) (fp : List Addr), DE (X.blk s H scope (compEnvC scope cl C X.env) fp) T W0 elt h) (hs : ∀ x, foldedSetIterable iter X.env x = pure x := by intro _; rfl) :
    DE X T W (.ListComp elt [⟨tg, iter, ifs, 0⟩] scope pos) (dLcC (own.map (·.2)) f g p h) :=
  PE.imp (pe_lc (g := tGk T X.K (own.map (fun x : PySem.Str × Nat => x.2)) g) (tt := tG T X.K W0 RB p) (te := tG T X.K W0 (RD T X.K) h) hc hN hi ok hg ht he hs) (tLc_of rfl rfl rfl rfl)
theorem ds_setLcC {i : Nat} {y : PySem.Str} {py spos : Pos} {ifs : List Expr} {scope : Scope} {own : List (PySem.Str × Nat)} {f : Den ItV} {g : GDen} {p : Den Bool} (hc : X.calm = true) (hN : X.N.Nodup) (hi : DI X T W tg iter f) (ok : BlkOk X.N X.env.scope scope own)
    (hg : ∀ (s : Shared) (H : Hp) (C : Addr) (cl : List (PySem.Str × Addr)) (fp : List Addr), DGk (X.blk s H scope (compEnvC scope cl C X.env) fp) T (own.map (·.2)) tg g) (ht : ∀ (s : Shared) (H : Hp) (C : Addr) (cl : List (PySem.Str × Addr)) (fp : List Addr), DTs (X.blk s H scope (compEnvC scope cl C X.env) fp) T W0 ifs p)
    (he : ∀ (s : Shared) (H : Hp) (C : Addr) (cl : List (PySem.Str × Addr)) (fp : List Addr), DE (X.blk s H scope (compEnvC scope cl C X.env) fp) T W0 elt h) (hy : X.N[i]? = some y := by rfl) (hyl : X.env.scope.names.lookup y = some .local := by rfl)
    (hsw : swapsWith (.ListComp elt [⟨tg, iter, ifs, 0⟩] scope pos) (some (.Name y py)) spos.line X.env = pure true := by rfl) (hs : ∀ x, foldedSetIterable iter X.env x = pure x := by intro _; rfl) :
    DS X T W (.Assign [.Name y py] (.ListComp elt [⟨tg, iter, ifs, 0⟩] scope pos) spos) (sSet i (dLcC (own.map (·.2)) f g p h)) := by
  refine PS.imp (ps_setLc (g := tGk T X.K (own.map (fun x : PySem.Str × Nat => x.2)) g) (tt := tG T X.K W0 RB p) (te := tG T X.K W0 (RD T X.K) h) hc hN hy hyl hsw hi ok hg ht he hs) ?_
  intro B σ H hB
  obtain ⟨I, m, cs, env, er, sr, hB⟩ := hB
  refine tLc_of rfl rfl rfl rfl σ H _ ⟨I, m, cs, env, er, sr, ?_⟩
  exact SOk.bindE hB er fun d cs1 v H1 I1 m1 s1 p1 sr1 r1 h1 => SOk.nxI h1 sr1 ((er.mono s1 p1).set r1)
/-- what was made on the way and is not held is let go -/
def dTr (f : Den D) : Den D := fun env cs => match f env cs with
  | .ok d cs' => .ok d (trim cs cs' (d.lt cs.length))
  | .exn c ks fs cs' => .exn c ks fs (trim cs cs' (D.ltL cs.length fs))
  | .no => .no
theorem tG_tr {K : PySem.W.Frag} {f : Den D} : ∀ σ H Q, tG T K W (RD T K) (dTr f) σ H Q → tG T K W (RD T K) f σ H Q := by
  rintro σ H Q ⟨I, m, cs, env, er, sr, h⟩
  refine ⟨I, m, cs, env, er, sr, ?_⟩
  unfold dTr at h
  cases hf : f env cs with
  | no => simp only [hf] at h; exact h
  | ok d cs' =>
    simp only [hf] at h
    exact fun v H' I' m' s p sr' r => ok_trim (β := V) sr h (fun z => z) s p sr' r
  | exn c ks fs cs' =>
    simp only [hf] at h
    exact fun cls od H' I' m' s p sr' r => exn_trim (α := D) sr h s p sr' r
theorem de_tr (he : DE X T W e f) : DE X T W e (dTr f) := PE.imp he tG_tr
theorem tG_frz {K : PySem.W.Frag} {f : Den D} : ∀ σ H Q, tG T K W (RD T K) (dFrz f) σ H Q → tG T K W (RD T K) f σ H Q := by
  rintro σ H Q ⟨I, m, cs, env, er, sr, h⟩
  refine ⟨I, m, cs, env, er, sr, OutG.bindI h fun x cs1 v H1 I1 m1 s1 p1 sr1 r1 h1 => ?_⟩
  by_cases hz : ∃ z, x = .cell z
  · obtain ⟨z, rfl⟩ := hz
    simp only at h1
    split at h1
    · rename_i ys hc
      obtain ⟨a, us, rfl, ea, q1, q2⟩ := cell_lst sr1 r1 hc
      obtain ⟨sr2, s2⟩ := sr1.frz hc (by intro z; cases z) ea q1
      exact h1.ok1 s2 sr2 (rp_lst.mpr ⟨a, us, rfl, SqX.of upd_same, RpL.mono s2 (List.prefix_refl _) q2⟩)
    · exact h1.elim
  · have h' : OutG T K (RD T K) I1 m1 (.ok x cs1) Q (fun cls od H' => W cls od σ H') := by
      cases x <;> first | exact h1 | exact absurd ⟨_, rfl⟩ hz
    exact h'.okI sr1 r1
/-- [..], frozen, nothing left behind -/
def dLc (vs : List Nat) (f : Den ItV) (g : GDen) (p : Den Bool) (h : Den D) : Den D := dTr (dFrz (dLcC vs f g p h))
theorem de_lc {F : Den D} (he : DE X T W e F) : DE X T W e (dTr (dFrz F)) := PE.imp he fun σ H Q q => tG_frz σ H Q (tG_tr σ H Q q)
theorem ds_setLc {i : Nat} {y : PySem.Str} {py spos : Pos} {ifs : List Expr} {scope : Scope} {own : List (PySem.Str × Nat)} {f : Den ItV} {g : GDen} {p : Den Bool} (hc : X.calm = true) (hN : X.N.Nodup) (hi : DI X T W tg iter f) (ok : BlkOk X.N X.env.scope scope own)
    (hg : ∀ (s : Shared) (H : Hp) (C : Addr) (cl : List (PySem.Str × Addr)) (fp : List Addr), DGk (X.blk s H scope (compEnvC scope cl C X.env) fp) T (own.map (·.2)) tg g) (ht : ∀ (s : Shared) (H : Hp) (C : Addr) (cl : List (PySem.Str × Addr)) (fp : List Addr), DTs (X.blk s H scope (compEnvC scope cl C X.env) fp) T W0 ifs p)
    (he : ∀ (s : Shared) (H : Hp) (C : Addr) (cl : List (PySem.Str × Addr)) (fp : List Addr), DE (X.blk s H scope (compEnvC scope cl C X.env) fp) T W0 elt h) (hy : X.N[i]? = some y := by rfl) (hyl : X.env.scope.names.lookup y = some .local := by rfl)
    (hsw : swapsWith (.ListComp elt [⟨tg, iter, ifs, 0⟩] scope pos) (some (.Name y py)) spos.line X.env = pure true := by rfl) (hs : ∀ x, foldedSetIterable iter X.env x = pure x := by intro _; rfl) :
    DS X T W (.Assign [.Name y py] (.ListComp elt [⟨tg, iter, ifs, 0⟩] scope pos) spos) (sSet i (dTr (dFrz (dLcC (own.map (·.2)) f g p h)))) := by
  refine PS.imp (ps_setLc (g := tGk T X.K (own.map (fun x : PySem.Str × Nat => x.2)) g) (tt := tG T X.K W0 RB p) (te := tG T X.K W0 (RD T X.K) h) hc hN hy hyl hsw hi ok hg ht he hs) ?_
  intro B σ H hB
  obtain ⟨I, m, cs, env, er, sr, hB⟩ := hB
  refine tLc_of rfl rfl rfl rfl σ H _ (tG_frz σ H _ (tG_tr σ H _ ⟨I, m, cs, env, er, sr, ?_⟩))
  exact SOk.bindE hB er fun d cs1 v H1 I1 m1 s1 p1 sr1 r1 h1 => SOk.nxI h1 sr1 ((er.mono s1 p1).set r1)
end
end
end DL
end

section
set_option Elab.async false
set_option linter.all false
set_option maxRecDepth 100000
set_option maxHeartbeats 4000000
namespace DL
open PySem L2
open Classical
/-! ### what the written part must say of an exception class -/
section
open PySem.Spec PyProof.Rows
def oexB (K : PySem.W.Frag) (C : Addr) : Bool := (match K.lookup C with
  | some ⟨.type "type", _, .cls cd, sl⟩ => (match cd.mro, sl.toList with
    | .ref C' :: bm, [_, _, _, _, some (.builtin n), _] => C' == C && n == "ValueError.__new__" && !cd.hasDel && cd.hasDict && PySem.HandSPX.refsVE bm
    | _, _ => false)
  | _ => false) && (He.eqO (PySem.W.findIn K (.ref C) "__setattr__") (some (some (.builtin "object.__setattr__"))) && (decide (PySem.W.subIn K (.ref C) (.type "BaseException") = some true) && (decide (PySem.W.typeIn K (.ref C) = some (.type "type")) && PySem.W.keepIn K (.ref C))))
theorem oexB_ok {K : PySem.W.Frag} {C : Addr} (h : oexB K C = true) : OexC K C := by
  unfold oexB at h
  obtain ⟨q, h⟩ := He.ba h
  obtain ⟨h1, h⟩ := He.ba h
  obtain ⟨h2, h⟩ := He.ba h
  obtain ⟨h3, h4⟩ := He.ba h
  refine ⟨?_, He.eqO_ok h1, of_decide_eq_true h2, of_decide_eq_true h3, h4⟩
  split at q
  · rename_i dd cd sl ho
    split at q
    · rename_i C' bm k0 k1 k2 k3 n k5 hm hs
      simp only [Bool.and_eq_true, beq_iff_eq, Bool.not_eq_true'] at q
      obtain ⟨⟨⟨⟨rfl, rfl⟩, hdel⟩, hd⟩, ht⟩ := q
      obtain ⟨nm, bs, mro, ns, qn, hdc, sn, sub, ab, col, del⟩ := cd
      dsimp only at hm hdel hd
      subst hm hdel hd
      have hsl : sl = #[k0, k1, k2, k3, some (.builtin "ValueError.__new__"), k5] := by
        obtain ⟨l⟩ := sl
        simp only at hs
        rw [hs]
      subst hsl
      exact ⟨nm, qn, ns, bs, bm, sn, sub, ab, col, dd, k0, k1, k2, k3, k5, ho, ht⟩
    · cases q
  · cases q
end
/-! ### more facts of the top -/
inductive Fb where
  | mk0 (x : PySem.Str)
  | meq (x m y : PySem.Str)
  | isx (x : PySem.Str)
  | kit (x y : PySem.Str) (b : Bool)
  | kitN (y : PySem.Str)
  | own (x : PySem.Str) (f : PySem.Str × Option PySem.Str)
  | nf (x y : PySem.Str)
  | slf (x : PySem.Str)
  | xcls (x : PySem.Str)
  | ndt (l : List He.Defn)
def Fb.ok (K : PySem.W.Frag) : Fb → Bool
  | .mk0 x => PySem.W.makesIn K (He.ga K x) && (He.eqO (PySem.W.findIn K (.ref (He.ga K x)) "__init__") (some (some (.builtin "object.__init__"))) && PySem.W.keepIn K (.ref (He.ga K x)))
  | .meq x m y => decide (He.ma K (He.ga K x) m = He.ma K (He.ga K y) m)
  | .isx x => (He.Fa.cls x).ok K && (He.eqO (PySem.W.findIn K (.ref (He.ga K x)) "__class__") (some (some (.builtin "object.__class__"))) && (He.eqO (PySem.W.specialIn K (.builtin "object.__class__") "__get__") (some (some (.builtin "getset_descriptor.__get__"))) &&
      (decide (PySem.W.takesIn K (.builtin "object.__class__") = some true) && decide (PySem.W.mroIn K (He.ga K x) (.type "object") = some true))))
  | .kit x y b => decide (PySem.W.kitOne K (.ref (He.ga K x)) (.ref (He.ga K y)) = some b)
  | .kitN y => decide (PySem.W.kitOne K (.type "NoneType") (.ref (He.ga K y)) = some false)
  | .own x f => He.eqO (PySem.W.findIn K (.ref (He.ga K x)) "__eq__") (some (some (.ref (He.fAd K f)))) && (He.eqO (PySem.W.findIn K (.ref (He.ga K x)) "__ne__") (some (some (.builtin "object.__ne__"))) &&
      (PySem.W.isFn K (.ref (He.fAd K f)) && decide (PySem.W.mroIn K (He.ga K x) (.type "object") = some true)))
  | .nf x y => PySem.W.notFirst K (He.ga K x) (.ref (He.ga K y))
  | .slf x => PySem.W.selfFirst K (He.ga K x)
  | .xcls x => oexB K (He.ga K x) && (xfB K (He.ga K x) && (He.eqO (PySem.W.findIn K (.ref (He.ga K x)) "__init__") (some (some (.ref (He.ma K (He.ga K x) "__init__")))) && decide (PySem.W.typeIn K (.ref (He.ma K (He.ga K x) "__init__")) = some (.type "function"))))
  | .ndt l => decide ((l.map fun p => (He.cT K p).2).Nodup)
abbrev AlM : Type := He.AlD × Bool
def obsM (fa : List He.Fa) (fn : List He.DefD) (fb : List Fb) (K : PySem.W.Frag) : AlM := (He.obsD fa fn K, fb.all fun f => f.ok K)
def SaysM (fa : List He.Fa) (fn : List He.DefD) (fb : List Fb) (K : PySem.W.Frag) : Prop := obsM fa fn fb K = (He.valD fn, true)
def obsMG (n : Nat) (fa : List He.Fa) (fn : List He.DefD) (fb : List Fb) (g : Addr → Option Obj) : AlM := obsM fa fn fb (He.frG g (He.asD g n))
def hookM (n : Nat) (fa : List He.Fa) (fn : List He.DefD) (fb : List Fb) : PySem.W.Hook where
  α := AlM
  obs := fun s => obsMG n fa fn fb s.heap.get?
  val := fun _ => (He.valD fn, true)
  says := fun _ h => ∃ K : PySem.W.Frag, K.In h ∧ SaysM fa fn fb K
  of := fun _ _ e => ⟨_, He.frG_in, e⟩
  keeps := fun _ _ _ ⟨K, hK, c⟩ k => ⟨K, PySem.W.Frag.In.keeps hK k, c⟩
theorem obsMG_eq {n : Nat} {fa : List He.Fa} {fn : List He.DefD} {fb : List Fb} {g : Addr → Option Obj} {s : Shared} (h : ∀ a, g a = s.heap.get? a) : obsMG n fa fn fb g = (hookM n fa fn fb).obs s := by
  have e : g = s.heap.get? := funext h
  rw [e] <;> rfl
/-- what the walk knows -/
structure Kn (fa : List He.Fa) (fn : List He.DefD) (fb : List Fb) (K : PySem.W.Frag) (mg : PySem.Str → Option Value) : Prop where
  ns : ∃ h : Heap, K.In h ∧ h.Ns mainGlobals mg
  d : He.SaysD fa fn K
  b : (fb.all fun f => f.ok K) = true
section
variable {fa : List He.Fa} {fn : List He.DefD} {fb : List Fb} {K : PySem.W.Frag} {mg : PySem.Str → Option Value}
theorem Kn.of {h : Heap} (X : K.In h) (G : h.Ns mainGlobals mg) (c : SaysM fa fn fb K) : Kn fa fn fb K mg :=
  ⟨⟨h, X, G⟩, congrArg (fun z : AlM => z.1) c, congrArg (fun z : AlM => z.2) c⟩
theorem Kn.glo (z : Kn fa fn fb K mg) (i : Nat) {x : PySem.Str} (h : fa[i]? = some (.glo x) := by rfl) : mg x = some (.ref (He.ga K x)) := let ⟨_, X, G⟩ := z.ns; He.glo_ok X G (z.d.fact i h)
theorem Kn.free (z : Kn fa fn fb K mg) (i : Nat) {x : PySem.Str} (h : fa[i]? = some (.free x) := by rfl) : mg x = none := let ⟨_, X, G⟩ := z.ns; He.free_ok X G (z.d.fact i h)
theorem Kn.int (z : Kn fa fn fb K mg) (i : Nat) {x : PySem.Str} {n : Int} (h : fa[i]? = some (.int x n) := by rfl) : ∃ t, mg x = some (.int n t) := let ⟨_, X, G⟩ := z.ns; He.int_ok X G (z.d.fact i h)
theorem Kn.str (z : Kn fa fn fb K mg) (i : Nat) {x y : PySem.Str} (h : fa[i]? = some (.str x y) := by rfl) : ∃ t, mg x = some (.str y t) := let ⟨_, X, G⟩ := z.ns; He.str_ok X G (z.d.fact i h)
theorem Kn.cls (z : Kn fa fn fb K mg) (i : Nat) {x : PySem.Str} (h : fa[i]? = some (.cls x) := by rfl) : Cls K (He.ga K x) := He.cls_ok (z.d.fact i h)
theorem Kn.noat (z : Kn fa fn fb K mg) (i : Nat) {x f : PySem.Str} (h : fa[i]? = some (.noat x f) := by rfl) : NoAttr K (He.ga K x) f := He.noat_ok (z.d.fact i h)
theorem Kn.meth (z : Kn fa fn fb K mg) (i : Nat) {x m : PySem.Str} (h : fa[i]? = some (.meth x m) := by rfl) : Meth K (He.ga K x) m (He.ma K (He.ga K x) m) := He.meth_ok (z.d.fact i h)
theorem Kn.mkr (z : Kn fa fn fb K mg) (i : Nat) {x : PySem.Str} (h : fa[i]? = some (.mkr x) := by rfl) : Mk K (He.ga K x) (He.ma K (He.ga K x) "__init__") := He.mkr_ok (z.d.fact i h)
theorem Kn.exm (z : Kn fa fn fb K mg) (i : Nat) {x y : PySem.Str} {b : Bool} (h : fa[i]? = some (.exm x y b) := by rfl) : PySem.W.exmOne K (.ref (He.ga K x)) (.ref (He.ga K y)) = some b := He.exm_ok (z.d.fact i h)
theorem Kn.noa (z : Kn fa fn fb K mg) (i : Nat) {x f : PySem.Str} (h : fa[i]? = some (.noat x f) := by rfl) : PySem.W.findIn K (.ref (He.ga K x)) f = some none := He.eqO_ok (z.d.fact i h)
theorem Kn.fb_ (z : Kn fa fn fb K mg) (i : Nat) {f : Fb} (h : fb[i]? = some f) : f.ok K = true := List.all_eq_true.mp z.b f (List.mem_of_getElem? h)
theorem Kn.mk0 (z : Kn fa fn fb K mg) (i : Nat) {x : PySem.Str} (h : fb[i]? = some (.mk0 x) := by rfl) : Mk0 K (He.ga K x) := by
  obtain ⟨h1, h2⟩ := He.ba (z.fb_ i h)
  obtain ⟨h3, h4⟩ := He.ba h2
  exact ⟨h1, He.eqO_ok h3, h4⟩
theorem Kn.meq (z : Kn fa fn fb K mg) (i : Nat) {x m y : PySem.Str} (h : fb[i]? = some (.meq x m y) := by rfl) : He.ma K (He.ga K x) m = He.ma K (He.ga K y) m := of_decide_eq_true (z.fb_ i h)
theorem Kn.ndt (z : Kn fa fn fb K mg) (i : Nat) {l : List He.Defn} (h : fb[i]? = some (.ndt l) := by rfl) : (l.map fun p => (He.cT K p).2).Nodup := of_decide_eq_true (z.fb_ i h)
/-- a def that stands -/
theorem Kn.fd (z : Kn fa fn fb K mg) (i : Nat) {d : He.DefD} (h : fn[i]? = some d) (h1 : d.dfl = []) (h2 : d.kwd = []) : ∃ fd, FunD K d.name d.qual d.params d.body d.scope [] [] (He.fAd K d.at_) fd := by
  obtain ⟨fd, F⟩ := z.d.def_ i h
  unfold He.DefD.dvs He.DefD.kws at F
  rw [h1, h2] at F
  exact ⟨fd, F⟩
end
/-! ### attribute names -/
def nmOf (L : List PySem.Str) (i : Nat) : PySem.Str := match L[i]? with
  | some x => x
  | none => ⟨Array.replicate (i + 100) 122⟩
theorem nmOf_inj {L : List PySem.Str} (h : (decide L.Nodup && L.all fun x => decide (x.cps.size < 100)) = true) : ∀ i j, nmOf L i = nmOf L j → i = j := by
  intro i j e
  simp only [Bool.and_eq_true, decide_eq_true_eq, List.all_eq_true] at h
  obtain ⟨nd, sm⟩ := h
  unfold nmOf at e
  cases hi : L[i]? with
  | some x =>
    cases hj : L[j]? with
    | some y =>
      rw [hi, hj] at e
      simp only at e
      subst e
      exact (List.getElem?_inj (List.getElem?_eq_some_iff.mp hi).1 nd).mp (hi.trans hj.symm)
    | none =>
      rw [hi, hj] at e
      simp only at e
      have := sm x (List.mem_of_getElem? hi)
      rw [e] at this
      simp at this
      omega
  | none =>
    cases hj : L[j]? with
    | some y =>
      rw [hi, hj] at e
      simp only at e
      have := sm y (List.mem_of_getElem? hj)
      rw [← e] at this
      simp at this
      omega
    | none =>
      rw [hi, hj] at e
      simp only at e
      have := congrArg (fun z : PySem.Str => z.cps.size) e
      simp at this
      exact this
/-! ### methods by class -/
theorem dm_of {X : Cx} {T : Tab} {k np : Nat} {m : PySem.Str} {L : List (Nat × FDen)}
    (h : ∀ p ∈ L, (∀ i ∈ T.od p.1, T.nm i ≠ m) ∧ Cls X.K (T.ca p.1) ∧ ∃ f, Meth X.K (T.ca p.1) m f ∧ DF X.prog X.w X.K X.mg X.base T k f np p.2) : DM X T k m np (fun c => L.lookup c) := by
  refine ⟨fun c den e => ?_⟩
  have hm : (c, den) ∈ L := by
    clear h
    induction L with
    | nil => simp at e
    | cons q r ih =>
      rw [List.lookup_cons] at e
      cases hq : c == q.1 with
      | true =>
        rw [hq] at e
        cases e
        have : c = q.1 := eq_of_beq hq
        subst this
        exact List.mem_cons_self
      | false =>
        rw [hq] at e
        exact List.mem_cons_of_mem _ (ih e)
  exact h _ hm
theorem DF.mono {P : Program} {w : World} {K : PySem.W.Frag} {mg : PySem.Str → Option Value} {base : Heap} {T : Tab} {k j np : Nat} {f : Addr} {den : FDen} (c : DF P w K mg base T k f np den) (h : k ≤ j) : DF P w K mg base T j f np den := by
  obtain ⟨⟨fd, ps, hl, F, hb⟩, kp, len⟩ := c
  exact ⟨⟨fd, ps, hl, F.mono h, hb⟩, kp, len⟩
/-! ### the law's end -/
theorem walk_ofX {l : PySem.W.OpenLaw} {n k : Nat} {q : Program} {loose : List PySem.Str} {XP : (PySem.Str → Option Value) → Heap → Prop} {YP : World → Heap → Prop} {d : DefRec} {x : PySem.Str}
    (hn : l.most = some n) (hn2 : n ≤ sizeLine) (hdf : d.params.defaults = []) (hr : Room k callerA)
    (F : ∀ (w : World) (mg : PySem.Str → Option Value) (fa : Addr) (h : Heap), YP w h → h.Ns mainGlobals mg → mg d.name = some (.ref fa) →
      ∃ (K : PySem.W.Frag) (fd : FuncData) (sp : Sp), K.In h ∧ (∀ (s : Shared) (u : Value), BindsTo s fd ⟨[u], []⟩ [(x, u)]) ∧
        (∀ (H : Hp) (a : Addr) (ns : List Int), ns.length ≤ n → (∀ z ∈ ns, Builtin.Int.intBits z ≤ 1048576) → SqX K H a (ns.map V.int) → sp [.ref a] H (fun v _ => v = .bl true) fun _ _ _ => False) ∧
        ∀ base : Heap, K.In base → base.Ns mainGlobals mg → FnOk l.prog w K mg base (L2.CX l.prog w) k fa fd [x] sp) :
    PySem.W.WalkO q loose XP YP l.row.toRowW d [] (fun f vs => PySem.call f vs) := by
  refine Att.attach_callB hn hdf fun w s₀ s₁ mg mb fa o pm cd doc a vs ns G Y ho hd hcd hmg hobj hints hlen hbits hg => ?_
  obtain ⟨K, fd, sp, KX, hb, hsp, hF⟩ := F w mg fa _ Y G.T.g hmg
  refine law_call KX G.T.g G.T.b G.T.builtins G.T.nolimit hg hobj hints (Nat.le_trans hlen hn2) hr hF hb (fun H hO hS => hsp H a ns hlen hbits ?_) fun H e s' hc => ?_
  · rcases hS with h | ⟨o', its, n', h1, h2, h3, h4, h5, h6⟩
    · exact .inl h
    · have e := KX a o' h1
      rw [hobj] at e
      cases e
      have h4' : Data.seq vs.toArray 0 = Data.seq its n' := h4
      cases h4'
      exact .inr ⟨vs.toArray, _, h1, h5, h6⟩
  · obtain ⟨_, _, _, _, _, _, _, _, _, _, _, _, z⟩ := hc
    exact z
/-- the promise of the law's def, from its denotation -/
theorem law_sp {T : Tab} {K : PySem.W.Frag} {den : FDen} {H : Hp} {a : Addr} {ns : List Int} (hS : SqX K H a (ns.map V.int)) (h : ∃ cs, den [.lst (ns.map D.int)] [] = .ok (.bl true) cs) (htb : T.tb = [] := by rfl) : spD T K 1 den [.ref a] H (fun v _ => v = .bl true) fun _ _ _ => False := by
  obtain ⟨cs, e⟩ := h
  have r : RpL T K H [] (ns.map D.int) (ns.map V.int) := by
    clear e hS
    induction ns with
    | nil => exact RpL.nil
    | cons i r ih => exact RpL.cons (rp_int.mpr rfl) ih
  refine ⟨rfl, H, [], [], [.lst (ns.map D.int)], ⟨Same.refl H, rfl, fun n c e => by simp at e, fun n n' c c' a e => by simp at e, (by rw [htb]; exact fun _ h => nomatch h), fun h => absurd htb h⟩, RpL.one (rp_lst.mpr ⟨a, _, rfl, hS, r⟩), ?_⟩
  rw [e]
  exact fun v H' I' m' _ _ _ r => rp_bl.mp r
end DL
end

section
set_option Elab.async false
set_option linter.all false
set_option maxRecDepth 100000
set_option maxHeartbeats 4000000
namespace DL
open PySem L2
/-! ### == of data without objects -/
mutual
def toP : D → PyData
  | .non => .none
  | .bl b => .bool b
  | .int i => .int i
  | .str s => .str s
  | .tup xs => .tuple (toPL xs)
  | .lst xs => .list (toPL xs)
  | _ => .none
def toPL : List D → List PyData
  | [] => []
  | x :: xs => toP x :: toPL xs
end
mutual
theorem toP_ok : ∀ (d : D) (n : Nat), d.okE false n = true → (toP d).plain = true ∧ (toP d).depth ≤ n
  | .non, n, _ => ⟨rfl, Nat.zero_le _⟩
  | .bl _, n, _ => ⟨rfl, Nat.zero_le _⟩
  | .int _, n, _ => ⟨rfl, Nat.zero_le _⟩
  | .str _, n, _ => ⟨rfl, Nat.zero_le _⟩
  | .tup xs, n + 1, h => by
    obtain ⟨h1, h2⟩ := toPL_ok xs n (by unfold D.okE at h; exact h)
    exact ⟨by unfold toP PyData.plain; exact h1, by unfold toP PyData.depth; omega⟩
  | .lst xs, n + 1, h => by
    obtain ⟨h1, h2⟩ := toPL_ok xs n (by unfold D.okE at h; exact h)
    exact ⟨by unfold toP PyData.plain; exact h1, by unfold toP PyData.depth; omega⟩
  | .tup xs, 0, h => by unfold D.okE at h; cases h
  | .lst xs, 0, h => by unfold D.okE at h; cases h
  | .obj _ xs, 0, h => by unfold D.okE at h; cases h
  | .obj _ xs, 1, h => by unfold D.okE at h; cases h
  | .obj _ xs, n + 2, h => by unfold D.okE at h; simp at h
  | .dic _ _, n, h => by unfold D.okE at h; cases h
  | .cell _, n, h => by unfold D.okE at h; cases h
  | .exc _ _ _, n, h => by unfold D.okE at h; cases h
theorem toPL_ok : ∀ (ds : List D) (n : Nat), D.okL false ds n = true → PyData.plainAll (toPL ds) = true ∧ PyData.depthAll (toPL ds) ≤ n
  | [], n, _ => ⟨rfl, Nat.zero_le _⟩
  | d :: ds, n, h => by
    unfold D.okL at h
    obtain ⟨h1, h2⟩ := Bool.and_eq_true_iff.mp h
    obtain ⟨a1, a2⟩ := toP_ok d n h1
    obtain ⟨b1, b2⟩ := toPL_ok ds n h2
    exact ⟨by unfold toPL PyData.plainAll; rw [a1, b1]; rfl, by unfold toPL PyData.depthAll; omega⟩
end
mutual
theorem toP_eqv : ∀ (a b : D) (n : Nat) (r : Bool), a.okE false n = true → b.okE false n = true → eqD a b = some r → PyData.eqv (toP a) (toP b) = r
  | .non, b, n, r, h1, h2, e => by
    cases b <;> simp [eqD, D.okE] at e h2 <;> (subst e; rfl)
  | .bl _, b, n, r, h1, h2, e => by
    cases b <;> simp [eqD, D.okE] at e h2 <;> (subst e; rfl)
  | .int _, b, n, r, h1, h2, e => by
    cases b <;> simp [eqD, D.okE] at e h2 <;> (subst e; rfl)
  | .str _, b, n, r, h1, h2, e => by
    cases b <;> simp [eqD, D.okE] at e h2 <;> (subst e; rfl)
  | .tup xs, b, n, r, h1, h2, e => by
    cases b with
    | tup ys =>
      cases n with
      | zero => unfold D.okE at h1; cases h1
      | succ n =>
        unfold D.okE at h1 h2
        unfold eqD at e
        unfold toP PyData.eqv
        exact toPL_eqv xs ys n r h1 h2 e
    | _ => first
      | (unfold eqD at e; cases e; rfl)
      | (unfold eqD at e; cases e)
  | .lst xs, b, n, r, h1, h2, e => by
    cases b with
    | lst ys =>
      cases n with
      | zero => unfold D.okE at h1; cases h1
      | succ n =>
        unfold D.okE at h1 h2
        unfold eqD at e
        unfold toP PyData.eqv
        exact toPL_eqv xs ys n r h1 h2 e
    | _ => first
      | (unfold eqD at e; cases e; rfl)
      | (unfold eqD at e; cases e)
  | .obj _ xs, b, n, r, h1, h2, e => by
    rcases n with _ | _ | n <;> simp [D.okE] at h1
  | .dic _ _, b, n, r, h1, h2, e => by simp [D.okE] at h1
  | .cell _, b, n, r, h1, h2, e => by simp [D.okE] at h1
  | .exc _ _ _, b, n, r, h1, h2, e => by simp [D.okE] at h1
theorem toPL_eqv : ∀ (xs ys : List D) (n : Nat) (r : Bool), D.okL false xs n = true → D.okL false ys n = true → eqL xs ys = some r → PyData.eqvAll (toPL xs) (toPL ys) = r
  | [], [], n, r, _, _, e => by unfold eqL at e; cases e; rfl
  | [], _ :: _, n, r, _, _, e => by unfold eqL at e; cases e; rfl
  | _ :: _, [], n, r, _, _, e => by unfold eqL at e; cases e; rfl
  | x :: xs, y :: ys, n, r, h1, h2, e => by
    unfold D.okL at h1 h2
    obtain ⟨a1, a2⟩ := Bool.and_eq_true_iff.mp h1
    obtain ⟨b1, b2⟩ := Bool.and_eq_true_iff.mp h2
    unfold eqL at e
    cases q1 : eqD x y with
    | none => simp [q1] at e
    | some r1 =>
      cases q2 : eqL xs ys with
      | none => simp [q1, q2] at e
      | some r2 =>
        simp only [q1, q2, Option.some.injEq] at e
        unfold toPL PyData.eqvAll
        rw [toP_eqv x y n r1 a1 b1 q1, toPL_eqv xs ys n r2 a2 b2 q2]
        exact e
end
section
variable {X : Cx} {T : Tab}
mutual
theorem reads_ok {pins : List (Addr × Obj)} {σ : St} {H : Hp} {s : Shared} {I : Hp} {m : List Addr} (J : Inv X pins σ H s) (si : Same I H) : ∀ (d : D) (n : Nat) (x : V) (v : Value), d.okE false n = true → Rp T X.K I m d x → RelV x v → ∃ as, Reads s.heap v (toP d) as
  | .non, n, x, v, _, r, rv => by
    cases rp_non.mp r
    cases rv
    exact ⟨_, .none⟩
  | .bl b, n, x, v, _, r, rv => by
    cases rp_bl.mp r
    cases rv
    exact ⟨_, .bool b⟩
  | .int i, n, x, v, _, r, rv => by
    cases rp_int.mp r
    obtain ⟨t, rfl⟩ := rv
    exact ⟨_, .int i t⟩
  | .str z, n, x, v, _, r, rv => by
    cases rp_str.mp r
    obtain ⟨t, rfl⟩ := rv
    exact ⟨_, .str z t⟩
  | .tup xs, n + 1, x, v, h, r, rv => by
    obtain ⟨a, vs, rfl, q, k⟩ := rp_tup.mp r
    cases rv
    obtain ⟨its, rr, ⟨o, e1, e2, n', e3⟩, z⟩ := J.tuple (SqT.same si q)
    obtain ⟨as, ra⟩ := readsL_ok J si xs n vs its (by unfold D.okE at h; exact h) k rr
    exact ⟨_, .tuple e1 e2 e3 (by simpa using ra)⟩
  | .lst xs, n + 1, x, v, h, r, rv => by
    obtain ⟨a, vs, rfl, q, k⟩ := rp_lst.mp r
    cases rv
    obtain ⟨z, its, n', rr, hl, e⟩ := (q.same si).lst J
    obtain ⟨as, ra⟩ := readsL_ok J si xs n vs its (by unfold D.okE at h; exact h) k rr
    exact ⟨_, .list e rfl rfl (by simpa using ra)⟩
  | .tup xs, 0, _, _, h, _, _ => by unfold D.okE at h; cases h
  | .lst xs, 0, _, _, h, _, _ => by unfold D.okE at h; cases h
  | .obj _ xs, 0, _, _, h, _, _ => by unfold D.okE at h; cases h
  | .obj _ xs, 1, _, _, h, _, _ => by unfold D.okE at h; cases h
  | .obj _ xs, n + 2, _, _, h, _, _ => by unfold D.okE at h; simp at h
  | .dic _ _, n, _, _, h, _, _ => by unfold D.okE at h; cases h
  | .cell _, n, _, _, h, _, _ => by unfold D.okE at h; cases h
  | .exc _ _ _, n, _, _, h, _, _ => by unfold D.okE at h; cases h
theorem readsL_ok {pins : List (Addr × Obj)} {σ : St} {H : Hp} {s : Shared} {I : Hp} {m : List Addr} (J : Inv X pins σ H s) (si : Same I H) : ∀ (ds : List D) (n : Nat) (xs : List V) (vs : List Value), D.okL false ds n = true → RpL T X.K I m ds xs → Vals xs vs → ∃ as, ReadsAll s.heap vs (toPL ds) as
  | [], n, xs, vs, _, r, rv => by
    cases r.inil
    cases rv
    exact ⟨_, .nil⟩
  | d :: ds, n, xs, vs, h, r, rv => by
    obtain ⟨x, r', rfl, q, k⟩ := r.inv
    cases rv with
    | cons r1 r2 =>
      unfold D.okL at h
      obtain ⟨h1, h2⟩ := Bool.and_eq_true_iff.mp h
      obtain ⟨as, a⟩ := reads_ok J si d n x _ h1 q r1
      obtain ⟨bs, b⟩ := readsL_ok J si ds n r' _ h2 k r2
      exact ⟨_, .cons a b⟩
end
theorem eqB0 {n h : Nat} (hh : h ≤ 60) : EqB X T n false h := by
  refine ⟨?_, ?_, ?_, ?_⟩
  · intro A pins s σ H x y v u I m a b r sb J si ra rb rv ru ha hb e
    obtain ⟨as, r1⟩ := reads_ok J si a h x v ha ra rv
    obtain ⟨bs, r2⟩ := reads_ok J si b h y u hb rb ru
    obtain ⟨p1, d1⟩ := toP_ok a h ha
    obtain ⟨p2, d2⟩ := toP_ok b h hb
    have un := sb.room.un
    exact SeqAt.eqAt_plain _ _ A s v u as bs r1 r2 p1 p2 (by omega) X.prog X.w X.xe _ ⟨toP_eqv a b h r ha hb e, H, J, Ext.rfl'⟩
  · intro A pins s σ H x y v u I m a b r sb J si ra rb rv ru ha hb e
    obtain ⟨as, r1⟩ := reads_ok J si a h x v ha ra rv
    obtain ⟨bs, r2⟩ := reads_ok J si b h y u hb rb ru
    obtain ⟨p1, d1⟩ := toP_ok a h ha
    obtain ⟨p2, d2⟩ := toP_ok b h hb
    have un := sb.room.un
    exact SeqAt.rcAt_plain r1 r2 p1 p2 (by omega) X.prog X.w X.xe _ ⟨by rw [toP_eqv a b h r ha hb e], H, J, Ext.rfl'⟩
  · intro A pins s σ H x y v u I m a b r sb J si ra rb rv ru ha hb e
    obtain ⟨as, r1⟩ := reads_ok J si a h x v ha ra rv
    obtain ⟨bs, r2⟩ := reads_ok J si b h y u hb rb ru
    obtain ⟨p1, d1⟩ := toP_ok a h ha
    obtain ⟨p2, d2⟩ := toP_ok b h hb
    have un := sb.room.un
    exact SeqAt.rcNe_plain r1 r2 p1 p2 (by omega) X.prog X.w X.xe _ ⟨by rw [toP_eqv a b h r ha hb e], H, J, Ext.rfl'⟩
  · intro A pins s σ H x y v u I m a bs r p ys sb J si ra ey q rb rv ru ha hb er
    subst ey
    obtain ⟨as, r1⟩ := reads_ok J si a h x v ha ra rv
    obtain ⟨p1, d1⟩ := toP_ok a h ha
    have un := sb.room.un
    have hall : D.okL false bs h = true := by
      clear er q rb
      induction bs with
      | nil => rfl
      | cons b bs ih =>
        unfold D.okL
        rw [(hb b List.mem_cons_self).1, ih fun b' h' => hb b' (List.mem_cons_of_mem _ h')]
        rfl
    obtain ⟨p2, d2⟩ := toPL_ok bs h hall
    have hany : ((toPL bs).any fun z => PyData.eqv z (toP a)) = r := by
      subst er
      clear q rb hall p2 d2
      induction bs with
      | nil => rfl
      | cons b bs ih =>
        obtain ⟨b1, r', b2⟩ := hb b List.mem_cons_self
        unfold toPL
        rw [List.any_cons, List.any_cons, ih fun b' h' => hb b' (List.mem_cons_of_mem _ h'), toP_eqv b a h r' b1 ha b2, b2]
        cases r' <;> rfl
    cases ru
    rcases q with q | q
    · obtain ⟨z, its, n', rr, hl, e⟩ := q.lst J
      obtain ⟨cs, r2⟩ := readsL_ok J si bs h ys its hall rb rr
      have rc : Reads s.heap (.ref p) (.list (toPL bs)) (p :: cs) := .list e rfl rfl (by simpa using r2)
      exact ⟨SeqAt.in_list_data rc r1 p2 p1 (by omega) ⟨by rw [hany], H, J, Ext.rfl'⟩, SeqAt.notIn_list_data rc r1 p2 p1 (by omega) ⟨by rw [hany], H, J, Ext.rfl'⟩⟩
    · obtain ⟨its, rr, ⟨o, e1, e2, n', e3⟩, z⟩ := J.tuple q
      obtain ⟨cs, r2⟩ := readsL_ok J si bs h ys its hall rb rr
      have rc : Reads s.heap (.ref p) (.tuple (toPL bs)) cs := .tuple e1 e2 e3 (by simpa using r2)
      exact ⟨SeqAt.in_tuple_data rc r1 p2 p1 (by omega) ⟨by rw [hany], H, J, Ext.rfl'⟩, SeqAt.notIn_tuple_data rc r1 p2 p1 (by omega) ⟨by rw [hany], H, J, Ext.rfl'⟩⟩
end
end DL
end

section
set_option Elab.async false
set_option linter.all false
set_option maxRecDepth 100000
set_option maxHeartbeats 4000000
namespace DL
open PySem L2
open Classical
noncomputable section
section
variable {X : Cx} {T : Tab} {W : WX} {tg e a b c : Expr} {f : Den D} {g : Den (List D)} {pos p : Pos}
/-- a text, sign by sign -/
def signsD (z : PySem.Str) : List D := z.cps.toList.map fun c => D.str ⟨#[c]⟩
def itS (f : Den D) : Den ItV := fun env cs => (f env cs).bind fun x cs => match x with
  | .str z => .ok ⟨signsD z, noChk⟩ cs
  | _ => .no
theorem di_str (h : DE X T W e f) : DI X T W tg e (itS f) := by
  refine PI.imp (pi_str h) ?_
  rintro σ H Q ⟨I, m, cs, env, er, sr, h⟩
  refine ⟨I, m, cs, env, er, sr, OutG.bindI h fun x cs1 v H1 I1 m1 s1 p1 sr1 r1 h1 => ?_⟩
  cases x with
  | str z =>
    refine ⟨z, rp_str.mp r1, h1.okI sr1 ?_⟩
    intro I' m' cs' H' s2 p2 sr2 _
    refine ⟨fun i d hd => ?_, ?_⟩
    · unfold signsD at hd
      rw [List.getElem?_map] at hd
      cases hc : z.cps.toList[i]? with
      | none => rw [hc] at hd; cases hd
      | some c =>
        rw [hc] at hd
        simp only [Option.map_some, Option.some.injEq] at hd
        subst hd
        have hi : i < z.cps.size := by
          have := (List.getElem?_eq_some_iff.mp hc).1
          simpa using this
        refine ⟨hi, fun x H2 y => ?_⟩
        obtain ⟨rfl, c', hc', rfl⟩ := y
        have e2 : z.cps.toList[i]? = z.cps[i]? := by simp
        rw [e2, hc'] at hc
        cases hc
        exact ⟨I', Same.refl _, sr2, rp_str.mpr rfl⟩
    · show z.cps.size ≤ (signsD z).length
      unfold signsD
      simp
  | _ => exact h1.elim
/-- enumerate of a list -/
def enumD (i : Nat) : List D → List D
  | [] => []
  | x :: r => .tup [.int (i : Int), x] :: enumD (i + 1) r
theorem enumD_get : ∀ {xs : List D} {i k : Nat} {d : D}, (enumD k xs)[i]? = some d → ∃ x, xs[i]? = some x ∧ d = .tup [.int ((k + i : Nat) : Int), x]
  | [], i, k, d, h => by simp [enumD] at h
  | x :: r, 0, k, d, h => by
    simp [enumD] at h
    exact ⟨x, rfl, h.symm⟩
  | x :: r, i + 1, k, d, h => by
    simp only [enumD, List.getElem?_cons_succ] at h
    obtain ⟨y, h1, h2⟩ := enumD_get h
    refine ⟨y, by simpa using h1, ?_⟩
    rw [h2]
    have e : k + 1 + i = k + (i + 1) := by omega
    rw [e]
theorem enumD_len : ∀ {xs : List D} {k : Nat}, (enumD k xs).length = xs.length
  | [], k => rfl
  | x :: r, k => by simp [enumD, enumD_len]
def itEn (g : Den (List D)) : Den ItV := fun env cs => (g env cs).bind fun ds cs => match ds with
  | [.lst xs] => .ok ⟨enumD 0 xs, noChk⟩ cs
  | [.cell n] => (match cs[n]? with
    | some (.lst xs) => .ok ⟨enumD 0 xs, fun cs => cs[n]? = some (.lst xs)⟩ cs
    | _ => .no)
  | _ => .no
/-- the list at a, of items xs, at every later state -/
def LsA (T : Tab) (K : PySem.W.Frag) (I : Hp) (m : List Addr) (xs : List D) (chk : List Cell → Prop) (a : Addr) : Prop :=
  ∀ I' m' cs H, Same I I' → m <+: m' → SR T K I' m' cs H → chk cs → ∃ us, SqL K H a us ∧ RpL T K I' m' xs us
theorem LsA.frz {K : PySem.W.Frag} {I : Hp} {m : List Addr} {xs : List D} {v : V} (r : Rp T K I m (.lst xs) v) {chk : List Cell → Prop} : ∃ a, v = .ref a ∧ LsA T K I m xs chk a := by
  obtain ⟨a, us, rfl, q1, q2⟩ := rp_lst.mp r
  exact ⟨a, rfl, fun I' m' cs H s p sr _ => ⟨us, ((q1.same s).same sr.same).l, RpL.mono s p q2⟩⟩
theorem LsA.cel {K : PySem.W.Frag} {I : Hp} {m : List Addr} {n : Nat} {xs : List D} {v : V} (r : Rp T K I m (.cell n) v) : ∃ a, v = .ref a ∧ LsA T K I m xs (fun cs => cs[n]? = some (.lst xs)) a := by
  obtain ⟨a, ea, rfl⟩ := rp_cell.mp r
  refine ⟨a, rfl, fun I' m' cs H s p sr hk => ?_⟩
  obtain ⟨a2, us2, e2, ea2, q3, q4⟩ := cell_lst sr (Rp.mono s p r) hk
  cases e2
  exact ⟨us2, .inl (.inl q3), q4⟩
def TpA (T : Tab) (K : PySem.W.Frag) (I : Hp) (m : List Addr) (xs : List D) (a : Addr) : Prop :=
  ∀ I' m' cs H, Same I I' → m <+: m' → SR T K I' m' cs H → ∃ us, SqT K H a us ∧ RpL T K I' m' xs us
theorem TpA.of {K : PySem.W.Frag} {I : Hp} {m : List Addr} {xs : List D} {v : V} (r : Rp T K I m (.tup xs) v) : ∃ a, v = .ref a ∧ TpA T K I m xs a := by
  obtain ⟨a, us, rfl, q1, q2⟩ := rp_tup.mp r
  exact ⟨a, rfl, fun I' m' cs H s p sr => ⟨us, SqT.same sr.same (SqT.same s q1), RpL.mono s p q2⟩⟩
theorem RI.enum {K : PySem.W.Frag} {I : Hp} {m : List Addr} {xs : List D} {chk : List Cell → Prop} {a : Addr} (h : LsA T K I m xs chk a) : RI T K I m ⟨enumD 0 xs, chk⟩ (Ite K a) := by
  intro I' m' cs' H' s2 p2 sr2 hk
  obtain ⟨us, q1, q2⟩ := h I' m' cs' H' s2 p2 sr2 hk
  refine ⟨fun i d hd => ?_, us, q1, by rw [enumD_len, q2.length]; exact Nat.le_refl _⟩
  obtain ⟨x, hx, rfl⟩ := enumD_get hd
  obtain ⟨v, e1, r1⟩ := q2.get hx
  refine ⟨⟨us, v, q1, e1⟩, fun y H2 yl => ?_⟩
  obtain ⟨Tt, x', rfl, hT, rfl, hy⟩ := yl
  have e2 := hy us q1
  rw [e1] at e2; cases e2
  obtain ⟨sr3, s3⟩ := sr2.newI (o := .tup [.int (i : Nat), v]) hT
  have e0 : ((0 + i : Nat) : Int) = ((i : Nat) : Int) := by simp
  refine ⟨_, s3, sr3, rp_tup.mpr ⟨Tt, _, rfl, .inl (.inl upd_same), RpL.cons (rp_int.mpr (by rw [e0])) (RpL.one (r1.mono s3 (List.prefix_refl _)))⟩⟩
theorem di_enum {elts : List Expr} {kk : Nat} {tpos : Pos} (hm : X.mg "enumerate" = none) (ha : DA X T W [e] g) (hg : Gl X "enumerate" := by rfl) (hs : starEach [e] X.env = [(false, eval e X.env)] := by rfl) :
    DI X T W (.Tuple elts kk tpos) (.Call (.Name "enumerate" p) [e] [] pos) (itEn g) := by
  refine PI.imp (pi_enum hg hm ha hs) ?_
  rintro σ H Q ⟨I, m, cs, env, er, sr, h⟩
  refine ⟨I, m, cs, env, er, sr, OutG.bindI h fun ds cs1 vs H1 I1 m1 s1 p1 sr1 r1 h1 => ?_⟩
  split at h1
  · obtain ⟨v, rfl, rv⟩ := r1.i1
    obtain ⟨a, rfl, L⟩ := LsA.frz (chk := noChk) rv
    obtain ⟨us, q1, q2⟩ := L I1 m1 cs1 H1 (Same.refl _) (List.prefix_refl _) sr1 trivial
    exact ⟨a, us, rfl, q1, h1.okI sr1 (RI.enum L)⟩
  · rename_i n
    obtain ⟨v, rfl, rv⟩ := r1.i1
    split at h1
    · rename_i xs hc
      obtain ⟨a, rfl, L⟩ := LsA.cel (xs := xs) rv
      obtain ⟨us, q1, q2⟩ := L I1 m1 cs1 H1 (Same.refl _) (List.prefix_refl _) sr1 hc
      exact ⟨a, us, rfl, q1, h1.okI sr1 (RI.enum L)⟩
    · exact h1.elim
  · exact h1.elim
/-- zip of two lists, of two tuples -/
def zipD : List D → List D → List D
  | x :: xs, y :: ys => .tup [x, y] :: zipD xs ys
  | _, _ => []
theorem zipD_get : ∀ {xs ys : List D} {i : Nat} {d : D}, (zipD xs ys)[i]? = some d → ∃ x y, xs[i]? = some x ∧ ys[i]? = some y ∧ d = .tup [x, y]
  | [], ys, i, d, h => by cases ys <;> simp [zipD] at h
  | x :: xs, [], i, d, h => by simp [zipD] at h
  | x :: xs, y :: ys, 0, d, h => by
    simp [zipD] at h
    exact ⟨x, y, rfl, rfl, h.symm⟩
  | x :: xs, y :: ys, i + 1, d, h => by
    simp only [zipD, List.getElem?_cons_succ] at h
    obtain ⟨x', y', h1, h2, h3⟩ := zipD_get h
    exact ⟨x', y', by simpa using h1, by simpa using h2, h3⟩
theorem zipD_len : ∀ {xs ys : List D}, (zipD xs ys).length = min xs.length ys.length
  | [], ys => by cases ys <;> simp [zipD]
  | x :: xs, [] => by simp [zipD]
  | x :: xs, y :: ys => by simp [zipD, zipD_len] <;> omega
/-- the items of a list as a loop sees them, and what keeps them -/
def liveL (cs : List Cell) : D → Option (List D × (List Cell → Prop))
  | .lst xs => some (xs, noChk)
  | .cell n => (match cs[n]? with
    | some (.lst xs) => some (xs, fun cs => cs[n]? = some (.lst xs))
    | _ => none)
  | _ => none
def itZ (g : Den (List D)) : Den ItV := fun env cs => (g env cs).bind fun ds cs => match ds with
  | [x, y] => (match x, y with
    | .tup xs, .tup ys => .ok ⟨zipD xs ys, noChk⟩ cs
    | x, y => (match liveL cs x, liveL cs y with
      | some (xs, p), some (ys, q) => .ok ⟨zipD xs ys, fun cs => p cs ∧ q cs⟩ cs
      | _, _ => .no))
  | _ => .no
theorem liveL_ok {K : PySem.W.Frag} {I : Hp} {m : List Addr} {cs : List Cell} {x : D} {v : V} {xs : List D} {q : List Cell → Prop} (r : Rp T K I m x v) (h : liveL cs x = some (xs, q)) : (∃ a, v = .ref a ∧ LsA T K I m xs q a) ∧ q cs := by
  unfold liveL at h
  split at h
  · cases h
    exact ⟨LsA.frz r, trivial⟩
  · rename_i n
    split at h
    · rename_i ys hc
      cases h
      exact ⟨LsA.cel r, hc⟩
    · cases h
  · cases h
theorem RI.zipL {K : PySem.W.Frag} {I : Hp} {m : List Addr} {xs ys : List D} {p q : List Cell → Prop} {a b : Addr} (h1 : LsA T K I m xs p a) (h2 : LsA T K I m ys q b) : RI T K I m ⟨zipD xs ys, fun cs => p cs ∧ q cs⟩ (Itz K a b) := by
  intro I' m' cs' H' s2 p2 sr2 hk
  obtain ⟨us, a1, a2⟩ := h1 I' m' cs' H' s2 p2 sr2 hk.1
  obtain ⟨ws, b1, b2⟩ := h2 I' m' cs' H' s2 p2 sr2 hk.2
  refine ⟨fun i d hd => ?_, us, ws, a1, b1, ?_⟩
  · obtain ⟨x, y, hx, hy, rfl⟩ := zipD_get hd
    obtain ⟨v, e1, r1⟩ := a2.get hx
    obtain ⟨u, e2, r2⟩ := b2.get hy
    refine ⟨⟨us, ws, v, u, a1, b1, e1, e2⟩, fun z H2 yl => ?_⟩
    obtain ⟨Tt, x', y', rfl, hT, rfl, f1, f2⟩ := yl
    have z1 := f1 us a1
    rw [e1] at z1; cases z1
    have z2 := f2 ws b1
    rw [e2] at z2; cases z2
    obtain ⟨sr3, s3⟩ := sr2.newI (o := .tup [v, u]) hT
    exact ⟨_, s3, sr3, rp_tup.mpr ⟨Tt, _, rfl, .inl (.inl upd_same), RpL.cons (r1.mono s3 (List.prefix_refl _)) (RpL.one (r2.mono s3 (List.prefix_refl _)))⟩⟩
  · have l1 := a2.length
    have l2 := b2.length
    show us.length ≤ (zipD xs ys).length ∨ ws.length ≤ (zipD xs ys).length
    rw [zipD_len]
    omega
theorem RI.zipT {K : PySem.W.Frag} {I : Hp} {m : List Addr} {xs ys : List D} {a b : Addr} (h1 : TpA T K I m xs a) (h2 : TpA T K I m ys b) : RI T K I m ⟨zipD xs ys, noChk⟩ (RZ.ItzT K a b) := by
  intro I' m' cs' H' s2 p2 sr2 hk
  obtain ⟨us, a1, a2⟩ := h1 I' m' cs' H' s2 p2 sr2
  obtain ⟨ws, b1, b2⟩ := h2 I' m' cs' H' s2 p2 sr2
  refine ⟨fun i d hd => ?_, us, ws, a1, b1, ?_⟩
  · obtain ⟨x, y, hx, hy, rfl⟩ := zipD_get hd
    obtain ⟨v, e1, r1⟩ := a2.get hx
    obtain ⟨u, e2, r2⟩ := b2.get hy
    refine ⟨⟨us, ws, v, u, a1, b1, e1, e2⟩, fun z H2 yl => ?_⟩
    obtain ⟨Tt, x', y', rfl, hT, rfl, f1, f2⟩ := yl
    have z1 := f1 us a1
    rw [e1] at z1; cases z1
    have z2 := f2 ws b1
    rw [e2] at z2; cases z2
    obtain ⟨sr3, s3⟩ := sr2.newI (o := .tup [v, u]) hT
    exact ⟨_, s3, sr3, rp_tup.mpr ⟨Tt, _, rfl, .inl (.inl upd_same), RpL.cons (r1.mono s3 (List.prefix_refl _)) (RpL.one (r2.mono s3 (List.prefix_refl _)))⟩⟩
  · have l1 := a2.length
    have l2 := b2.length
    show us.length ≤ (zipD xs ys).length ∨ ws.length ≤ (zipD xs ys).length
    rw [zipD_len]
    omega
theorem di_zip {elts : List Expr} {kk : Nat} {tpos : Pos} (hm : X.mg "zip" = none) (ha : DA X T W [a, b] g) (hg : Gl X "zip" := by rfl) (hs : starEach [a, b] X.env = (false, eval a X.env) :: starEach [b] X.env := by rfl) (hpl : (backTo pos (starEach [b] X.env)).any (·.1) = false := by rfl) :
    DI X T W (.Tuple elts kk tpos) (.Call (.Name "zip" p) [a, b] [] pos) (itZ g) := by
  refine PI.imp (RZ.pi_zipA hg hm ha hs hpl) ?_
  rintro σ H Q ⟨I, m, cs, env, er, sr, h⟩
  refine ⟨I, m, cs, env, er, sr, OutG.bindI h fun ds cs1 vs H1 I1 m1 s1 p1 sr1 r1 h1 => ?_⟩
  split at h1
  · rename_i x y
    obtain ⟨v, u, rfl, rv, ru⟩ := r1.i2
    split at h1
    · rename_i xs ys
      obtain ⟨a, rfl, A⟩ := TpA.of rv
      obtain ⟨b, rfl, B⟩ := TpA.of ru
      obtain ⟨us, a1, a2⟩ := A I1 m1 cs1 H1 (Same.refl _) (List.prefix_refl _) sr1
      obtain ⟨ws, b1, b2⟩ := B I1 m1 cs1 H1 (Same.refl _) (List.prefix_refl _) sr1
      exact ⟨a, b, us, ws, rfl, .inr ⟨a1, b1, h1.okI sr1 (RI.zipT A B)⟩⟩
    · split at h1
      · rename_i xs p ys q e1 e2
        obtain ⟨⟨a, rfl, A⟩, k1⟩ := liveL_ok rv e1
        obtain ⟨⟨b, rfl, B⟩, k2⟩ := liveL_ok ru e2
        obtain ⟨us, a1, a2⟩ := A I1 m1 cs1 H1 (Same.refl _) (List.prefix_refl _) sr1 k1
        obtain ⟨ws, b1, b2⟩ := B I1 m1 cs1 H1 (Same.refl _) (List.prefix_refl _) sr1 k2
        exact ⟨a, b, us, ws, rfl, .inl ⟨a1, b1, h1.okI sr1 (RI.zipL A B)⟩⟩
      · exact h1.elim
  · exact h1.elim
end
end
end DL
end

section
set_option Elab.async false
set_option linter.all false
set_option maxRecDepth 100000
set_option maxHeartbeats 4000000
namespace DL
open PySem L2
open Classical
noncomputable section
section
variable {X : Cx} {T : Tab} {W : WX} {tg e a b c : Expr} {f h : Den D} {g : Den (List D)} {pos p : Pos}
/-! ### x, y, z = a, b, c -/
def sPar3 (i j l : Nat) (g : Den (List D)) : SDen := fun env cs => (g env cs).bindS env fun ds cs => match ds with
  | [d, e, f] => .nx (((env.set i (some d)).set j (some e)).set l (some f)) cs
  | _ => .no
theorem ds_par3 {i j l : Nat} {x y z : PySem.Str} {px py pz pt : Pos} {kt k2 pt2} {g : Den (List D)} (hc : X.calm = true) (hN : X.N.Nodup) (ha : DA X T W [a, b, c] g) (hi : X.N[i]? = some x := by rfl) (hj : X.N[j]? = some y := by rfl) (hl : X.N[l]? = some z := by rfl) (hij : i ≠ j := by decide) (hil : i ≠ l := by decide) (hjl : j ≠ l := by decide)
    (hx : X.env.scope.names.lookup x = some .local := by rfl) (hy : X.env.scope.names.lookup y = some .local := by rfl) (hz : X.env.scope.names.lookup z = some .local := by rfl)
    (hw : swappedStores [.Tuple [.Name x px, .Name y py, .Name z pz] kt pt] (.Tuple [a, b, c] k2 pt2) X.env = pure (some [x, y, z]) := by rfl)
    (hs : swapsWithSole [.Tuple [.Name x px, .Name y py, .Name z pz] kt pt] (.Tuple [a, b, c] k2 pt2) pos.line X.env = pure false := by rfl) :
    DS X T W (.Assign [.Tuple [.Name x px, .Name y py, .Name z pz] kt pt] (.Tuple [a, b, c] k2 pt2) pos) (sPar3 i j l g) := by
  refine PS.imp (ps_par3 hc hN hi hj hl hij hil hjl hx hy hz ha hw hs) ?_
  rintro B σ H ⟨I, m, cs, env, er, sr, h⟩
  refine ⟨I, m, cs, env, er, sr, SOk.bindE h er fun ds cs1 vs H1 I1 m1 s1 p1 sr1 r1 h1 => ?_⟩
  split at h1
  · obtain ⟨v, r, rfl, q1, q2⟩ := r1.inv
    obtain ⟨u, w, rfl, q3, q4⟩ := RpL.i2 q2
    exact ⟨v, u, w, rfl, SOk.nxI h1 sr1 ((((er.mono s1 p1).set q1).set q3).set q4)⟩
  · exact h1.elim
/-! ### text * int -/
def mulSD (x y : D) (cs : List Cell) : Out D := match x, y with
  | .str z, .int n => if n < 1 then (if lo63 n then .ok (.str Str.empty) cs else .no) else if n = 1 ∨ z.length = 0 then (if hi63 n then .ok (.str z) cs else .no) else if hi63F n (z.length * n.toNat) then .ok (.str ⟨(List.replicate n.toNat z.cps).foldl (· ++ ·) #[]⟩) cs else .no
  | _, _ => .no
theorem fold_size (a : Array Nat) : ∀ (k : Nat) (acc : Array Nat), ((List.replicate k a).foldl (· ++ ·) acc).size = acc.size + a.size * k
  | 0, acc => by simp
  | k + 1, acc => by
    rw [List.replicate_succ, List.foldl_cons, fold_size a k, Array.size_append, Nat.mul_succ]
    omega
theorem op_mulS : OpR X (binaryOp .Mult) (fun x y H Q => ∃ z n, x = .str z ∧ y = .int n ∧ ((n < 1 ∧ -(2 ^ 63) ≤ n ∧ Q (.str Str.empty) H) ∨ (1 ≤ n ∧ (n = 1 ∨ z.length = 0) ∧ n < 2 ^ 63 ∧ Q (.str z) H) ∨
    (1 ≤ n ∧ ¬ (n = 1 ∨ z.length = 0) ∧ n < 2 ^ 63 ∧ z.length * n.toNat ≤ sizeLine ∧ Q (.str ⟨(List.replicate n.toNat z.cps).foldl (· ++ ·) #[]⟩) H))) := by
  intro pins s σ H x y v u Q I rx ry h
  obtain ⟨z, n, rfl, rfl, h⟩ := h
  obtain ⟨t, rfl⟩ := rx
  obtain ⟨t', rfl⟩ := ry
  have big : (sizeLine : Nat) = 16777216 := by decide
  have rng : ∀ k : Int, 1 ≤ k → k < 2 ^ 63 → (decide (k < -(2 ^ 63 : Int)) || decide (k ≥ 2 ^ 63)) = false := fun k h1 h2 => by
    rw [decide_eq_false (by omega), decide_eq_false (by omega)]; rfl
  rcases h with ⟨h1, h2, q⟩ | ⟨h1, h2, h3, q⟩ | ⟨h1, h2, h3, h4, q⟩
  · exact P.mul_str_none h1 (by omega) ⟨.str Str.empty, H, I.tok _, ⟨_, rfl⟩, q⟩
  · have e : (n == 1 || z.length == 0) = true := Bool.or_eq_true_iff.mpr (h2.imp beq_iff_eq.mpr beq_iff_eq.mpr)
    refine P.mul_str (rng n h1 h3) (fun _ k => by rw [e] at k; cases k) (fun _ k => by rw [e] at k; cases k) ?_
    rw [if_neg (by omega), if_pos e]
    exact ⟨.str z, H, I, ⟨_, rfl⟩, q⟩
  · have e : ¬ (n == 1 || z.length == 0) = true := fun k => h2 ((Bool.or_eq_true_iff.mp k).imp beq_iff_eq.mp beq_iff_eq.mp)
    refine P.mul_str (rng n h1 h3) (fun _ _ => ?_) (fun _ _ => ?_) ?_
    · have hz : (z.length : Int) * n ≤ 16777216 := by
        have e1 : ((n.toNat : Nat) : Int) = n := Int.toNat_of_nonneg (by omega)
        have e2 : ((z.length * n.toNat : Nat) : Int) = (z.length : Int) * n := by rw [Int.natCast_mul, e1]
        omega
      have hd : (z.length : Int) ≤ (2 ^ 63 - 1) / n := by
        rw [Int.le_ediv_iff_mul_le (by omega)]
        omega
      omega
    · unfold Builtin.Str.tooLong
      exact decide_eq_false (by omega)
    · rw [if_neg (by omega), if_neg e]
      exact ⟨by show ((List.replicate n.toNat z.cps).foldl (· ++ ·) #[]).size ≤ sizeLine; rw [fold_size]; have h5 : z.cps.size * n.toNat ≤ sizeLine := h4; simpa using h5, .str _, H, I.tok _, ⟨_, rfl⟩, q⟩
theorem hk_mulS {K : PySem.W.Frag} : Hk2 T K (fun x y H Q => ∃ z n, x = .str z ∧ y = .int n ∧ ((n < 1 ∧ -(2 ^ 63) ≤ n ∧ Q (.str Str.empty) H) ∨ (1 ≤ n ∧ (n = 1 ∨ z.length = 0) ∧ n < 2 ^ 63 ∧ Q (.str z) H) ∨
    (1 ≤ n ∧ ¬ (n = 1 ∨ z.length = 0) ∧ n < 2 ^ 63 ∧ z.length * n.toNat ≤ sizeLine ∧ Q (.str ⟨(List.replicate n.toNat z.cps).foldl (· ++ ·) #[]⟩) H))) mulSD := by
  intro I m cs H x y v u Q E sr rx ry h
  unfold mulSD at h
  split at h
  · rename_i z n
    refine ⟨z, n, rp_str.mp rx, rp_int.mp ry, ?_⟩
    split at h
    · rename_i h1
      split at h
      · rename_i h2
        exact .inl ⟨h1, h2, h.okI sr (rp_str.mpr rfl)⟩
      · exact h.elim
    · rename_i h1
      split at h
      · rename_i h2
        split at h
        · rename_i h3
          exact .inr (.inl ⟨by omega, h2, h3, h.okI sr (rp_str.mpr rfl)⟩)
        · exact h.elim
      · rename_i h2
        split at h
        · rename_i h3
          exact .inr (.inr ⟨by omega, h2, h3.1, h3.2, h.okI sr (rp_str.mpr rfl)⟩)
        · exact h.elim
  · exact h.elim
theorem de_mulS (ha : DE X T W a f) (hb : DE X T W b h) : DE X T W (.BinOp a .Mult b pos) (d2 f h mulSD) := de_op op_mulS hk_mulS ha hb

/-! ### a list made by + or *, a cell -/
def addLC (x y : D) (cs : List Cell) : Out D := match both (itemsL cs x) (itemsL cs y) with
  | some (i, j) => if fits (i.length + j.length) then .ok (.cell cs.length) (cs ++ [.lst (i ++ j)]) else .no
  | none => .no
theorem hk_addLC {K : PySem.W.Frag} : Hk2 T K (fun x y H Q => ∃ l b xs zs, x = .ref l ∧ y = .ref b ∧ SqX K H l xs ∧ SqX K H b zs ∧ xs.length + zs.length ≤ sizeLine ∧ ∀ p, H p = none → Q (.ref p) (upd H p (.lst (xs ++ zs)))) addLC := by
  intro I m cs H x y v u Q E sr rx ry h
  unfold addLC at h
  cases e3 : both (itemsL cs x) (itemsL cs y) with
  | some p =>
    obtain ⟨i, j⟩ := p
    obtain ⟨h1, h2⟩ := both_ok e3
    simp only [e3] at h
    split at h
    · rename_i hk
      obtain ⟨a1, vs, rfl, q1, r1⟩ := itemsL_ok sr rx h1
      obtain ⟨a2, us, rfl, q2, r2⟩ := itemsL_ok sr ry h2
      refine ⟨a1, a2, vs, us, rfl, rfl, q1, q2, by rw [← r1.length, ← r2.length]; exact hk, fun p hp => ?_⟩
      have sr2 := sr.newC (o := .lst (vs ++ us)) (c := .lst (i ++ j)) hp (r1.append r2)
      exact h (.ref p) _ I (m ++ [p]) (Same.refl I) (List.prefix_append _ _) sr2 (rp_cell.mpr ⟨p, by rw [← sr.len]; simp, rfl⟩)
    · exact h.elim
  | none => simp only [e3] at h; exact h.elim
theorem de_addC (ha : DE X T W a f) (hb : DE X T W b h) : DE X T W (.BinOp a .Add b pos) (d2 f h addLC) := de_op op_catL hk_addLC ha hb
def mulLC (x y : D) (cs : List Cell) : Out D := match both (itemsL cs x) (asI y) with
  | some (xs, k) => if in63F k (xs.length * k.toNat) then .ok (.cell cs.length) (cs ++ [.lst (List.replicate k.toNat xs).flatten]) else .no
  | none => .no
theorem hk_mulLC {K : PySem.W.Frag} : Hk2 T K (fun x y H Q => ∃ l k xs, x = .ref l ∧ y = .int k ∧ DL.SqX K H l xs ∧ -(2 ^ 63) ≤ k ∧ k < 2 ^ 63 ∧ xs.length * k.toNat ≤ sizeLine ∧ ∀ p, H p = none → Q (.ref p) (upd H p (.lst (List.replicate k.toNat xs).flatten))) mulLC := by
  intro I m cs H x y v u Q E sr rx ry h
  unfold mulLC at h
  cases e3 : both (itemsL cs x) (asI y) with
  | some p =>
    obtain ⟨xs, k⟩ := p
    obtain ⟨h1, h2⟩ := both_ok e3
    have e := asI_ok h2; subst e
    simp only [e3] at h
    split at h
    · rename_i hk
      obtain ⟨k1, k2, k3⟩ := hk
      obtain ⟨a1, vs, rfl, q1, r1⟩ := itemsL_ok sr rx h1
      refine ⟨a1, k, vs, rfl, rp_int.mp ry, q1, k1, k2, by rw [← r1.length]; exact k3, fun p hp => ?_⟩
      have sr2 := sr.newC (o := .lst (List.replicate k.toNat vs).flatten) (c := .lst (List.replicate k.toNat xs).flatten) hp (r1.rep _)
      exact h (.ref p) _ I (m ++ [p]) (Same.refl I) (List.prefix_append _ _) sr2 (rp_cell.mpr ⟨p, by rw [← sr.len]; simp, rfl⟩)
    · exact h.elim
  | none => simp only [e3] at h; exact h.elim
theorem de_mulC (ha : DE X T W a f) (hb : DE X T W b h) : DE X T W (.BinOp a .Mult b pos) (d2 f h mulLC) := de_op op_repX hk_mulLC ha hb
/-! ### int(x): an int, a flag, a text -/
def intX (xs : List D) (cs : List Cell) : Out D := match xs with
  | [.int i] => .ok (.int i) cs
  | [.bl k] => .ok (.int (if k then 1 else 0)) cs
  | [.str z] => (match PySem.intText? z with
    | some n => if le640 z.length then .ok (.int n) cs else .no
    | none => .no)
  | _ => .no
theorem CallR.or {fv : Value} {r r' : List V → Hp → VK → Prop} (h : CallR X fv r) (h' : CallR X fv r') : CallR X fv (fun xs H Q => r xs H Q ∨ r' xs H Q) := by
  intro pins s σ H xs us Q I rs q
  rcases q with q | q
  · exact h pins s σ H xs us Q I rs q
  · exact h' pins s σ H xs us Q I rs q
theorem hk_intX {K : PySem.W.Frag} : HkC T K (fun xs H Q => ((∃ i, xs = [.int i] ∧ Q (.int i) H) ∨ ∃ k, xs = [.bl k] ∧ Q (.int (if k then 1 else 0)) H) ∨ (∃ a n, xs = [.str a] ∧ PySem.intText? a = some n ∧ a.length ≤ 640 ∧ Q (.int n) H)) intX := by
  intro I m cs H xs vs Q E sr rx h
  unfold intX at h
  split at h
  · obtain ⟨v, rfl, r⟩ := rx.i1
    exact .inl (.inl ⟨_, by rw [rp_int.mp r], h.okI sr (rp_int.mpr rfl)⟩)
  · obtain ⟨v, rfl, r⟩ := rx.i1
    exact .inl (.inr ⟨_, by rw [rp_bl.mp r], h.okI sr (rp_int.mpr rfl)⟩)
  · obtain ⟨v, rfl, r⟩ := rx.i1
    split at h
    · rename_i n hn
      split at h
      · rename_i hl
        exact .inr ⟨_, n, by rw [rp_str.mp r], hn, hl, h.okI sr (rp_int.mpr rfl)⟩
      · exact h.elim
    · exact h.elim
  · exact h.elim
theorem de_int1 (hm : X.mg "int" = none) (ha : DA X T W [e] g) (hg : Gl X "int" := by rfl) (he : starEach [e] X.env = (false, eval e X.env) :: starEach [] X.env := by rfl) : DE X T W (.Call (.Name "int" p) [e] [] pos) (dCall g intX) :=
  de_callTy (CallR.or call_int1 call_int_str) hk_intX hm ha (hg := hg) (he := he) (hpl := rfl)
/-! ### isinstance(e, C) of an own class -/
/-- what isinstance asks of the class of an instance -/
structure IsX (K : PySem.W.Frag) (C : Addr) : Prop where
  cl : Cls K C
  ha : PySem.W.findIn K (.ref C) "__class__" = some (some (.builtin "object.__class__"))
  hn : PySem.W.specialIn K (.builtin "object.__class__") "__get__" = some (some (.builtin "getset_descriptor.__get__"))
  htk : PySem.W.takesIn K (.builtin "object.__class__") = some true
  hm : PySem.W.mroIn K C (.type "object") = some true
/-- the answers, by class; None is no instance -/
structure IsT (K : PySem.W.Frag) (T : Tab) (C : Addr) (L : List (Nat × Bool)) : Prop where
  ob : ∀ p ∈ L, IsX K (T.ca p.1) ∧ PySem.W.kitOne K (.ref (T.ca p.1)) (.ref C) = some p.2
  non : PySem.W.kitOne K (.type "NoneType") (.ref C) = some false
def isiD (L : List (Nat × Bool)) (x : D) (cs : List Cell) : Out D := match x with
  | .non => .ok (.bl false) cs
  | .obj c _ => (match L.lookup c with
    | some b => .ok (.bl b) cs
    | none => .no)
  | .cell n => (match cs[n]? with
    | some (.ins c _ _) => (match L.lookup c with
      | some b => .ok (.bl b) cs
      | none => .no)
    | _ => .no)
  | _ => .no
theorem mem_lk {L : List (Nat × Bool)} {c : Nat} {b : Bool} (h : L.lookup c = some b) : (c, b) ∈ L := by
  induction L with
  | nil => simp at h
  | cons q r ih =>
    rw [List.lookup_cons] at h
    cases hq : c == q.1 with
    | true =>
      rw [hq] at h
      cases h
      have : c = q.1 := eq_of_beq hq
      subst this
      exact List.mem_cons_self
    | false =>
      rw [hq] at h
      exact List.mem_cons_of_mem _ (ih h)
def rIsi (K : PySem.W.Frag) (C : Addr) : List V → Hp → VK → Prop := fun xs H Q => ∃ x t b, xs = [x, .ref C] ∧ TyOf K H x t ∧ PySem.W.kitOne K t (.ref C) = some b ∧ Q (.bl b) H
theorem call_isi {C : Addr} : CallR X (.builtin "isinstance") (rIsi X.K C) := by
  intro pins s σ H xs us Q I r h
  obtain ⟨x, t, b, rfl, ty, e, q⟩ := h
  obtain ⟨u, w', rfl, ru, rw'⟩ := vals2 r
  cases rw'
  exact isinst_ok I ru ty e fun tk => ⟨.bl b, H, I.tok _, rfl, q⟩
theorem de_isi {C : Addr} {L : List (Nat × Bool)} {y : PySem.Str} {py : Pos} (M : IsT X.K T C L) (hm : X.mg "isinstance" = none) (hC : X.mg y = some (.ref C)) (ha : DE X T W e f) (hg : Gl X "isinstance" := by rfl) (hy : Gl X y := by rfl) (hdy : (y == ("__debug__" : PySem.Str)) = false := by decide)
    (he : starEach [e, .Name y py] X.env = (false, eval e X.env) :: starEach [.Name y py] X.env := by rfl) (he2 : starEach [.Name y py] X.env = (false, eval (.Name y py) X.env) :: starEach [] X.env := by rfl) (hpl : (backTo pos (starEach [.Name y py] X.env)).any (·.1) = false := by rfl) :
    DE X T W (.Call (.Name "isinstance" p) [e, .Name y py] [] pos) (d1 f (isiD L)) := by
  have hb : bootBuiltins "isinstance" = some (.builtin "isinstance") := by decide +kernel
  refine PE.imp (pe_callB (call_isi (C := C)) hg hm hb (pa_cons ha (pa_cons (pe_glob hy hC (v := .ref C) rfl hdy) pa_nil he2) he) (by decide) (by decide) he hpl) ?_
  rintro σ H Q ⟨I, m, cs, env, er, sr, h⟩
  refine ⟨I, m, cs, env, er, sr, OutG.bindI h fun x cs1 v H1 I1 m1 s1 p1 sr1 r1 h1 => ?_⟩
  show rIsi X.K C [v, .ref C] H1 Q
  cases x with
  | non =>
    cases rp_non.mp r1
    exact ⟨_, _, _, rfl, .non, M.non, h1.okI sr1 (rp_bl.mpr rfl)⟩
  | obj c ds =>
    unfold isiD at h1
    simp only at h1
    cases hl : L.lookup c with
    | none => simp only [hl] at h1; exact h1.elim
    | some b =>
      simp only [hl] at h1
      obtain ⟨i1, k⟩ := M.ob _ (mem_lk hl)
      unfold Rp at r1
      obtain ⟨a, dx, gs, rfl, q, _⟩ := r1
      exact ⟨_, _, _, rfl, .ins (sr1.same _ _ q) i1.cl i1.ha i1.hn i1.htk i1.hm, k, h1.okI sr1 (rp_bl.mpr rfl)⟩
  | cell n =>
    unfold isiD at h1
    simp only at h1
    split at h1
    · rename_i c ks ds hc
      cases hl : L.lookup c with
      | none => simp only [hl] at h1; exact h1.elim
      | some b =>
        simp only [hl] at h1
        obtain ⟨i1, k⟩ := M.ob _ (mem_lk hl)
        obtain ⟨a, e1, rfl⟩ := rp_cell.mp r1
        obtain ⟨a', ob, q1, q2, q3, q4⟩ := sr1.at_ n _ hc (by intro z; cases z)
        rw [e1] at q1; cases q1
        cases ob with
        | ins C' dx gs =>
          obtain ⟨rfl, _, _⟩ := q4
          exact ⟨_, _, _, rfl, .ins q3 i1.cl i1.ha i1.hn i1.htk i1.hm, k, h1.okI sr1 (rp_bl.mpr rfl)⟩
        | _ => exact q4.elim
    · exact h1.elim
  | _ => exact h1.elim
end
section
variable {fa : List He.Fa} {fn : List He.DefD} {fb : List Fb} {K : PySem.W.Frag} {mg : PySem.Str → Option Value}
theorem Kn.isx (z : Kn fa fn fb K mg) (i : Nat) {x : PySem.Str} (h : fb[i]? = some (.isx x) := by rfl) : IsX K (He.ga K x) := by
  obtain ⟨h1, h2⟩ := He.ba (z.fb_ i h)
  obtain ⟨h3, h4⟩ := He.ba h2
  obtain ⟨h5, h6⟩ := He.ba h4
  obtain ⟨h7, h8⟩ := He.ba h6
  exact ⟨He.cls_ok h1, He.eqO_ok h3, He.eqO_ok h5, of_decide_eq_true h7, of_decide_eq_true h8⟩
theorem Kn.kit (z : Kn fa fn fb K mg) (i : Nat) {x y : PySem.Str} {b : Bool} (h : fb[i]? = some (.kit x y b) := by rfl) : PySem.W.kitOne K (.ref (He.ga K x)) (.ref (He.ga K y)) = some b := of_decide_eq_true (z.fb_ i h)
theorem Kn.kitN (z : Kn fa fn fb K mg) (i : Nat) {y : PySem.Str} (h : fb[i]? = some (.kitN y) := by rfl) : PySem.W.kitOne K (.type "NoneType") (.ref (He.ga K y)) = some false := of_decide_eq_true (z.fb_ i h)
end
end
end DL
end

section
set_option Elab.async false
set_option linter.all false
set_option maxRecDepth 100000
set_option maxHeartbeats 4000000
namespace DL
open PySem L2
section
variable {P : Program} {w : World} {K : PySem.W.Frag} {mg : PySem.Str → Option Value} {base : Heap} {T : Tab}
/-- the law's def, its function object in hand -/
theorem fn_mk {x qual : PySem.Str} {params : Arguments} {body : List Stmt} {scope : Scope} {f : Addr} {fd : FuncData} {N ps : List PySem.Str} {n np k : Nat} {b : SDen} (F : FunD K x qual params body scope [] [] f fd) (S : FnScope N ps scope) (hn : N.length = n := by rfl) (hp : ps.length = np := by rfl)
    (hbody : ∀ (cdv : Value) (A : Around) (outer : List PySem.Env) (s : Shared) (H : Hp) (E : XK), Room k (A.deeper (PyProof.Rows.envOfC qual scope s.heap.objs.size f cdv)) →
      DSs (cxOf (L2.CX P w) P w K mg base N qual scope f cdv A outer s H E) T (fun cls d _ H => E cls d H) body b) : FnOk P w K mg base (L2.CX P w) (k + 1) f fd ps (spD T K np (mkF n np b)) := by
  subst hn hp
  have hpl : ps.length ≤ N.length := by have := congrArg List.length S.pre; rw [List.length_take] at this; omega
  refine F.ok S (fun vs H Q E h => h.1) fun cdv A outer s H vs Q E hr h => ⟨_, hbody cdv A outer s H E hr, ?_⟩
  obtain ⟨hl, I, m, cs, ds, sr, r, h⟩ := h
  refine ⟨I, m, cs, env0 N.length ds, er_start r (by omega), sr, ?_⟩
  unfold mkF at h
  rw [if_pos (by rw [r.length]; exact hl)] at h
  exact sok_fin sr h
end
end DL
end

section
set_option Elab.async false
set_option linter.all false
set_option maxRecDepth 100000
set_option maxHeartbeats 4000000
namespace DL
open PySem L2
open Classical
noncomputable section
/-! DL17: split, join, partition, str(i), f-strings, dict displays and d[k]. -/
def joinOk (n : Nat) : Prop := n ≤ 16777216
theorem joinOk_of {n : Nat} (h : n ≤ 1000000) : joinOk n := by unfold joinOk; omega
def lg1920 (i : Int) : Prop := i.natAbs.log2 < 1920
theorem lg1920_of {i : Int} (h : i.natAbs.log2 < 1900) : lg1920 i := by unfold lg1920; omega
section
variable {X : Cx} {T : Tab} {W : WX} {e o i a b : Expr} {es : List Expr} {f g : Den D} {pos apos p : Pos}
/-- x.m(y), x a text -/
def dM1 (f g : Den D) (k : Str → D → List Cell → Out D) : Den D := fun env cs => (f env cs).bind fun x cs => match x with
  | .str a => (g env cs).bind fun y cs => k a y cs
  | _ => .no
abbrev HkT (T : Tab) (K : PySem.W.Frag) (r : V → List V → Hp → VK → Prop) (k : Str → D → List Cell → Out D) : Prop :=
  ∀ (I : Hp) (m : List Addr) (cs : List Cell) (H : Hp) (x : Str) (y : D) (u : V) (Q : VK) (E : XK), SR T K I m cs H → Rp T K I m y u → OutG T K (RD T K) I m (k x y cs) Q E → r (.str x) [u] H Q
theorem tM1_of {r : V → List V → Hp → VK → Prop} {k : Str → D → List Cell → Out D} (hk : HkT T X.K r k) {ta tb : TE} (ha : ta = tG T X.K W (RD T X.K) f) (hb : tb = tG T X.K W (RD T X.K) g) :
    ∀ σ H Q, tG T X.K W (RD T X.K) (dM1 f g k) σ H Q → tM1 r ta tb σ H Q := by
  subst ha hb
  rintro σ H Q ⟨I, m, cs, env, er, sr, h⟩
  refine ⟨I, m, cs, env, er, sr, OutG.bindI h fun x cs1 v H1 I1 m1 s1 p1 sr1 r1 h1 => ?_⟩
  cases x with
  | str a =>
    have e := rp_str.mp r1; subst e
    refine ⟨⟨a, rfl⟩, I1, m1, cs1, env, er.mono s1 p1, sr1, OutG.bindI h1 fun y cs2 u H2 I2 m2 s2 p2 sr2 r2 h2 => ?_⟩
    exact hk I2 m2 cs2 H2 a y u Q _ sr2 r2 h2
  | _ => exact h1.elim
theorem rpl_strs {K : PySem.W.Frag} {I : Hp} {m : List Addr} : ∀ ys : List Str, RpL T K I m (ys.map D.str) (ys.map V.str)
  | [] => RpL.nil
  | y :: ys => RpL.cons (rp_str.mpr rfl) (rpl_strs ys)
/-- x.split(y) -/
def splitD (a : Str) (y : D) (cs : List Cell) : Out D := match y with
  | .str b => if (b.length == 0) = false ∧ fits (a.length + 2) then .ok (.lst ((Txt.split a b).map .str)) cs else .no
  | _ => .no
theorem de_split (ho : DE X T W o f) (he : DE X T W e g) (hs : starEach [e] X.env = [(false, eval e X.env)] := by rfl) (hbase : attributeBase o "split" X.env (eval o X.env) = eval o X.env := by rfl) (hline : (apos.endLine == pos.line) = true := by rfl) :
    DE X T W (.Call (.Attribute o "split" apos) [e] [] pos) (dM1 f g splitD) := by
  refine PE.imp (pe_split ho he hs hbase hline) (tM1_of (fun I m cs H x y u Q E sr ry h => ?_) rfl rfl)
  unfold splitD at h
  cases y with
  | str b =>
    have e := rp_str.mp ry; subst e
    simp only at h
    split at h
    · rename_i hz
      exact ⟨x, b, rfl, rfl, hz.1, hz.2, fun p hp => rp_newL sr hp (rpl_strs _) h⟩
    · exact h.elim
  | _ => exact h.elim
/-- x.partition(y) -/
def partD (a : Str) (y : D) (cs : List Cell) : Out D := match y with
  | .str b => if (b.length == 0) = false ∧ fits a.length then .ok (.tup [.str (Txt.partition a b).1, .str (Txt.partition a b).2.1, .str (Txt.partition a b).2.2]) cs else .no
  | _ => .no
theorem de_partition (ho : DE X T W o f) (he : DE X T W e g) (hs : starEach [e] X.env = [(false, eval e X.env)] := by rfl) (hbase : attributeBase o "partition" X.env (eval o X.env) = eval o X.env := by rfl) (hline : (apos.endLine == pos.line) = true := by rfl) :
    DE X T W (.Call (.Attribute o "partition" apos) [e] [] pos) (dM1 f g partD) := by
  refine PE.imp (pe_partition ho he hs hbase hline) (tM1_of (fun I m cs H x y u Q E sr ry h => ?_) rfl rfl)
  unfold partD at h
  cases y with
  | str b =>
    have e := rp_str.mp ry; subst e
    simp only at h
    split at h
    · rename_i hz
      exact ⟨x, b, rfl, rfl, hz.1, hz.2, fun p hp => rp_newT sr hp (RpL.cons (rp_str.mpr rfl) (RpL.cons (rp_str.mpr rfl) (RpL.one (rp_str.mpr rfl)))) h⟩
    · exact h.elim
  | _ => exact h.elim
/-- texts -/
def strsD : List D → Option (List Str)
  | [] => some []
  | .str s :: r => (strsD r).map (s :: ·)
  | _ => none
theorem strsD_map : ∀ ys : List Str, strsD (ys.map D.str) = some ys
  | [] => rfl
  | y :: ys => by
    show (strsD (ys.map D.str)).map (y :: ·) = _
    rw [strsD_map ys]; rfl
theorem strsD_ok {K : PySem.W.Frag} {I : Hp} {m : List Addr} : ∀ {ds : List D} {vs : List V} {ns : List Str}, RpL T K I m ds vs → strsD ds = some ns → vs = ns.map V.str
  | [], vs, ns, h, e => by
    have q := h.inil; subst q
    cases e; rfl
  | d :: ds, vs, ns, h, e => by
    obtain ⟨v, r, rfl, q, k⟩ := h.inv
    cases d with
    | str s =>
      unfold strsD at e
      cases h2 : strsD ds with
      | none => rw [h2] at e; cases e
      | some l =>
        rw [h2] at e
        cases e
        rw [strsD_ok k h2, rp_str.mp q]; rfl
    | _ => cases e
/-- x.join(ys) -/
def joinD (a : Str) (y : D) (cs : List Cell) : Out D := match (itemsS cs y).bind strsD with
  | some ys => if joinOk ((ys.map (·.length)).sum + ys.length * a.length) then .ok (.str (Txt.join a ys)) cs else .no
  | none => .no
theorem de_join (ho : DE X T W o f) (he : DE X T W e g) (hs : starEach [e] X.env = [(false, eval e X.env)] := by rfl) (hbase : attributeBase o "join" X.env (eval o X.env) = eval o X.env := by rfl) (hline : (apos.endLine == pos.line) = true := by rfl) :
    DE X T W (.Call (.Attribute o "join" apos) [e] [] pos) (dM1 f g joinD) := by
  refine PE.imp (pe_join ho he hs hbase hline) (tM1_of (fun I m cs H x y u Q E sr ry h => ?_) rfl rfl)
  unfold joinD at h
  cases hi : (itemsS cs y).bind strsD with
  | none => rw [hi] at h; exact h.elim
  | some ys =>
    simp only [hi] at h
    obtain ⟨ds, h1, h2⟩ := Option.bind_eq_some_iff.mp hi
    obtain ⟨a, vs, rfl, q, rl⟩ := itemsS_ok sr ry h1
    have e := strsD_ok rl h2; subst e
    split at h
    · rename_i hz
      exact ⟨x, a, ys, rfl, rfl, q.imp (fun z => z.l) (fun z => z), hz, h.okI sr (rp_str.mpr rfl)⟩
    · exact h.elim
/-- str(i) -/
def strD (xs : List D) (cs : List Cell) : Out D := match xs with
  | [.int i] => if lg1920 i then .ok (.str (toString i)) cs else .no
  | [.str s] => .ok (.str s) cs
  | _ => .no
theorem hk_str {K : PySem.W.Frag} : HkC T K (fun xs H Q => (∃ i, xs = [.int i] ∧ i.natAbs.log2 < 1920 ∧ Q (.str (toString i)) H) ∨ ∃ a, xs = [.str a] ∧ Q (.str a) H) strD := by
  intro I m cs H xs vs Q E sr rx h
  unfold strD at h
  split at h
  · rename_i i
    obtain ⟨v, rfl, rv⟩ := rx.i1
    have e := rp_int.mp rv; subst e
    split at h
    · rename_i hz
      exact .inl ⟨i, rfl, hz, h.okI sr (rp_str.mpr rfl)⟩
    · exact h.elim
  · rename_i s
    obtain ⟨v, rfl, rv⟩ := rx.i1
    have e := rp_str.mp rv; subst e
    exact .inr ⟨s, rfl, h.okI sr (rp_str.mpr rfl)⟩
  · exact h.elim
theorem de_tostr {g : Den (List D)} (hm : X.mg "str" = none) (ha : DA X T W [e] g) (hg : Gl X "str" := by rfl) (he : starEach [e] X.env = (false, eval e X.env) :: starEach [] X.env := by rfl) : DE X T W (.Call (.Name "str" p) [e] [] pos) (dCall g strD) :=
  de_callTy (call_str_int.or SkE.call_str_str) hk_str hm ha (hg := hg) (he := he) (hpl := rfl)
/-- {x} in an f-string -/
def dFmt (f : Den D) : Den D := fun env cs => (f env cs).bind fun x cs => match x with
  | .str y => if fits y.length then .ok (.str y) cs else .no
  | .int i => if lg1920 i then .ok (.str (toString i)) cs else .no
  | _ => .no
theorem de_fmt (he : DE X T W e f) : DE X T W (.FormattedValue e (-1) none pos) (dFmt f) := by
  refine PE.imp (pe_fmt he) ?_
  rintro σ H Q ⟨I, m, cs, env, er, sr, h⟩
  refine ⟨I, m, cs, env, er, sr, OutG.bindI h fun x cs1 v H1 I1 m1 s1 p1 sr1 r1 h1 => ?_⟩
  cases x with
  | str y =>
    have e := rp_str.mp r1; subst e
    simp only at h1
    split at h1
    · rename_i hz
      exact .inl ⟨y, rfl, hz, h1.okI sr1 (rp_str.mpr rfl)⟩
    · exact h1.elim
  | int i =>
    have e := rp_int.mp r1; subst e
    simp only at h1
    split at h1
    · rename_i hz
      exact .inr ⟨i, rfl, hz, h1.okI sr1 (rp_str.mpr rfl)⟩
    · exact h1.elim
  | _ => exact h1.elim
def dJs : List (Den D) → Str → Den D
  | [], acc => fun env cs => .ok (.str acc) cs
  | f :: fs, acc => fun env cs => (f env cs).bind fun x cs => match x with
    | .str y => if fits (acc ++ y).length then dJs fs (acc ++ y) env cs else .no
    | _ => .no
def DJ (X : Cx) (T : Tab) (W : WX) (es : List Expr) (fs : List (Den D)) : Prop := PJ X es (fs.map fun f => tG T X.K W (RD T X.K) f)
theorem dj_nil : DJ X T W [] [] := PJ.nil
theorem dj_cons {fs : List (Den D)} (h : DE X T W e f) (r : DJ X T W es fs) : DJ X T W (e :: es) (f :: fs) := PJ.cons h r
theorem tJs_of {K : PySem.W.Frag} {σ : L2.St} {Q : VK} {W : WX} : ∀ (fs : List (Den D)) (acc : Str) (H : Hp) (I : Hp) (m : List Addr) (cs : List Cell) (env : Env), ER T K I m env σ → SR T K I m cs H → OutG T K (RD T K) I m (dJs fs acc env cs) Q (fun cls od H' => W cls od σ H') →
    tJs (fs.map fun f => tG T K W (RD T K) f) acc σ H fun out H1 => Q (.str out) H1
  | [], acc, H, I, m, cs, env, er, sr, h => h.okI sr (rp_str.mpr rfl)
  | f :: fs, acc, H, I, m, cs, env, er, sr, h => by
    refine ⟨I, m, cs, env, er, sr, OutG.bindI h fun x cs1 v H1 I1 m1 s1 p1 sr1 r1 h1 => ?_⟩
    cases x with
    | str y =>
      have e := rp_str.mp r1; subst e
      simp only at h1
      split at h1
      · rename_i hz
        exact ⟨y, rfl, hz, tJs_of fs (acc ++ y) H1 I1 m1 cs1 env (er.mono s1 p1) sr1 h1⟩
      · exact h1.elim
    | _ => exact h1.elim
theorem de_joined {v1 v2 : Expr} {rest : List Expr} {fs : List (Den D)} (h : DJ X T W (v1 :: v2 :: rest) fs) : DE X T W (.JoinedStr (v1 :: v2 :: rest) pos) (dJs fs Str.empty) := by
  refine PE.imp (pe_joined h) ?_
  rintro σ H Q ⟨I, m, cs, env, er, sr, h⟩
  exact tJs_of fs Str.empty H I m cs env er sr h
/-! ### {k: v, ..} and d[k] -/
def keyD : D → Option Key
  | .int i => some (.inl i)
  | .str s => some (.inr s)
  | _ => none
theorem keyD_ok {K : PySem.W.Frag} {I : Hp} {m : List Addr} {d : D} {v : V} {k : Key} (r : Rp T K I m d v) (h : keyD d = some k) : v = kV k := by
  cases d with
  | int i => cases h; exact rp_int.mp r
  | str s => cases h; exact rp_str.mp r
  | _ => cases h
def keysD : List D → Option (List Key)
  | [] => some []
  | d :: r => match keyD d, keysD r with
    | some k, some ks => some (k :: ks)
    | _, _ => none
theorem keysD_ok {K : PySem.W.Frag} {I : Hp} {m : List Addr} : ∀ {ds : List D} {vs : List V} {ks : List Key}, RpL T K I m ds vs → keysD ds = some ks → vs = ks.map kV
  | [], vs, ks, h, e => by have q := h.inil; subst q; cases e; rfl
  | d :: ds, vs, ks, h, e => by
    obtain ⟨v, r, rfl, q, k⟩ := h.inv
    unfold keysD at e
    cases h1 : keyD d with
    | none => simp [h1] at e
    | some k1 =>
      cases h2 : keysD ds with
      | none => simp [h1, h2] at e
      | some k2 =>
        simp only [h1, h2, Option.some.injEq] at e
        subst e
        rw [keyD_ok q h1, keysD_ok k h2]; rfl
def dPairs : List (Den D × Den D) → Den (List D × List D)
  | [] => fun env cs => .ok ([], []) cs
  | (f, g) :: r => fun env cs => (f env cs).bind fun x cs => (g env cs).bind fun y cs => (dPairs r env cs).bind fun p cs => .ok (x :: p.1, y :: p.2) cs
def RPs (T : Tab) (K : PySem.W.Frag) : Hp → List Addr → List D × List D → List (V × V) → Prop := fun I m p ps => RpL T K I m p.1 (ps.map (·.1)) ∧ RpL T K I m p.2 (ps.map (·.2))
theorem tPairs_of {K : PySem.W.Frag} {σ : L2.St} {W : WX} : ∀ (fs : List (Den D × Den D)) (H : Hp) (I : Hp) (m : List Addr) (cs : List Cell) (env : Env) (Q : List (V × V) → Hp → Prop), ER T K I m env σ → SR T K I m cs H →
    OutG T K (RPs T K) I m (dPairs fs env cs) Q (fun cls od H' => W cls od σ H') →
    tPairs (fs.map fun f => (tG T K W (RD T K) f.1, tG T K W (RD T K) f.2)) σ H Q
  | [], H, I, m, cs, env, Q, er, sr, h => h.okI sr ⟨RpL.nil, RpL.nil⟩
  | (f, g) :: r, H, I, m, cs, env, Q, er, sr, h => by
    refine ⟨I, m, cs, env, er, sr, OutG.bindI h fun x cs1 v H1 I1 m1 s1 p1 sr1 r1 h1 => ?_⟩
    refine ⟨I1, m1, cs1, env, er.mono s1 p1, sr1, OutG.bindI h1 fun y cs2 u H2 I2 m2 s2 p2 sr2 r2 h2 => ?_⟩
    refine tPairs_of r H2 I2 m2 cs2 env _ ((er.mono s1 p1).mono s2 p2) sr2 ?_
    exact OutG.bindI h2 fun p cs3 ps H3 I3 m3 s3 p3 sr3 r3 h3 => h3.okI sr3 ⟨RpL.cons ((r1.mono s2 p2).mono s3 p3) r3.1, RpL.cons (r2.mono s3 p3) r3.2⟩
def DPs (X : Cx) (T : Tab) (W : WX) (pos : Pos) (ks : List (Option Expr)) (vs : List Expr) (fs : List (Den D × Den D)) : Prop := PPs X pos ks vs (fs.map fun f => (tG T X.K W (RD T X.K) f.1, tG T X.K W (RD T X.K) f.2))
theorem dp_nil : DPs X T W pos [] [] [] := pps_nil
theorem dp_cons {k v : Expr} {ks : List (Option Expr)} {vs : List Expr} {fs : List (Den D × Den D)} (hk : DE X T W k f) (hv : DE X T W v g) (r : DPs X T W pos ks vs fs) : DPs X T W pos (some k :: ks) (v :: vs) ((f, g) :: fs) := pps_cons hk hv r
theorem mergeK_new : ∀ (more kvs : List (Key × V)), ((kvs ++ more).map (·.1)).Nodup → mergeK kvs more = kvs ++ more
  | [], kvs, _ => by show kvs = _; simp
  | (k, v) :: more, kvs, h => by
    show mergeK (L2.putK kvs k v) more = _
    have hno : (kvs.any fun kv => decide (kv.1 = k)) = false := by
      rw [List.any_eq_false]
      intro p hp
      simp only [decide_eq_true_eq]
      intro e
      rw [List.map_append, List.map_cons] at h
      exact (List.nodup_append.mp h).2.2 p.1 (List.mem_map_of_mem hp) k List.mem_cons_self e
    have e : L2.putK kvs k v = kvs ++ [(k, v)] := by unfold L2.putK; rw [hno]; rfl
    rw [e, mergeK_new more (kvs ++ [(k, v)]) (by simpa using h)]
    simp
/-- a new dict, its keys different -/
def dDisp (fs : List (Den D × Den D)) : Den D := fun env cs => (dPairs fs env (cs ++ [.dic [] []])).bind fun p cs' => match keysD p.1 with
  | some ks => if ks.Nodup ∧ ks.length ≤ 15 ∧ cs'[cs.length]? = some (.dic [] []) ∧ p.2.length = ks.length then .ok (.cell cs.length) (cs'.set cs.length (.dic ks p.2)) else .no
  | none => .no
theorem zip_fst {α β : Type} : ∀ (xs : List α) (ys : List β), xs.length = ys.length → (xs.zip ys).map (·.1) = xs
  | [], [], _ => rfl
  | x :: xs, y :: ys, h => by rw [List.zip_cons_cons, List.map_cons, zip_fst xs ys (by simpa using h)]
theorem zip_snd {α β : Type} : ∀ (xs : List α) (ys : List β), xs.length = ys.length → (xs.zip ys).map (·.2) = ys
  | [], [], _ => rfl
  | x :: xs, y :: ys, h => by rw [List.zip_cons_cons, List.map_cons, zip_snd xs ys (by simpa using h)]
theorem prs_eq {ps : List (V × V)} {ks : List Key} (h : ps.map (·.1) = ks.map kV) : ps = (ks.zip (ps.map (·.2))).map fun kv => (kV kv.1, kv.2) := by
  induction ps generalizing ks with
  | nil =>
    cases ks with
    | nil => rfl
    | cons k ks => cases h
  | cons p ps ih =>
    cases ks with
    | nil => cases h
    | cons k ks =>
      simp only [List.map_cons, List.cons.injEq] at h
      rw [List.map_cons, List.zip_cons_cons, List.map_cons, ← ih h.2, ← h.1]
theorem de_disp {keys : List (Option Expr)} {values : List Expr} {fs : List (Den D × Den D)} (h : DPs X T W pos keys values fs) (hall : keys.all (·.isSome) = true := by rfl) (hl : keys.length = values.length := by rfl) (h0 : keys ≠ [] := by intro z; cases z) (h15 : keys.length ≤ 15 := by decide) :
    DE X T W (.Dict keys values pos) (dDisp fs) := by
  refine PE.imp (pe_disp h hall hl h0 h15) ?_
  rintro σ H Q ⟨I, m, cs, env, er, sr, h⟩
  intro q hq
  have sr0 := sr.newC (c := .dic [] []) (o := .dK []) hq ⟨rfl, RpL.nil⟩
  refine tPairs_of fs _ I (m ++ [q]) _ env _ (er.mono (Same.refl I) (List.prefix_append _ _)) sr0 ?_
  refine OutG.bindI (OutG.up (Same.refl I) (List.prefix_append _ _) h) fun p cs1 ps H1 I1 m1 s1 p1 sr1 r1 h1 => ?_
  cases hk : keysD p.1 with
  | none => simp only [hk] at h1; exact h1.elim
  | some ks =>
    simp only [hk] at h1
    split at h1
    · rename_i hz
      obtain ⟨z1, z2, z3, z4⟩ := hz
      have gq : (m ++ [q])[cs.length]? = some q := by rw [← sr.len]; simp
      have gq1 := pre_get p1 gq
      obtain ⟨q', o, e1, e2, e3, e4⟩ := sr1.at_ _ _ z3 (by intro z; cases z)
      rw [gq1] at e1; cases e1
      cases o with
      | dK kvs0 =>
        obtain ⟨k1, k2⟩ := e4
        have k0 : kvs0 = [] := List.map_eq_nil_iff.mp k1
        subst k0
        have ek := keysD_ok r1.1 hk
        have lp : ks.length = (ps.map (·.2)).length := by rw [← r1.2.length]; exact z4.symm
        refine ⟨e3, ks.zip (ps.map (·.2)), prs_eq ek, by rw [List.length_zip]; omega, ?_⟩
        rw [mergeK_new _ [] (by rw [List.nil_append, zip_fst _ _ lp]; exact z1), List.nil_append]
        have sr2 := sr1.setC (o := .dK (ks.zip (ps.map (·.2)))) (c := .dic ks p.2) z3 (by intro z; cases z) gq1 ⟨zip_fst _ _ lp, by rw [zip_snd _ _ lp]; exact r1.2⟩
        exact h1 (.ref q) _ I1 m1 (Same.refl _) (List.prefix_refl _) sr2 (rp_cell.mpr ⟨q, gq1, rfl⟩)
      | _ => exact e4.elim
    · exact h1.elim
def lkD : List Key → List D → Key → Option D
  | k :: ks, d :: ds, x => if k = x then some d else lkD ks ds x
  | _, _, _ => none
def itemsK (cs : List Cell) : D → Option (List Key × List D)
  | .dic ks ds => some (ks, ds)
  | .cell n => match cs[n]? with
    | some (.dic ks ds) => some (ks, ds)
    | _ => none
  | _ => none
def dgetD (x y : D) (cs : List Cell) : Out D := match itemsK cs x, keyD y with
  | some (ks, ds), some k => match lkD ks ds k with
    | some d => .ok d cs
    | none => .no
  | _, _ => .no
theorem lkD_ok {K : PySem.W.Frag} {I : Hp} {m : List Addr} {k : Key} {d : D} : ∀ {ks : List Key} {ds : List D} {kvs : List (Key × V)}, kvs.map (·.1) = ks → RpL T K I m ds (kvs.map (·.2)) → lkD ks ds k = some d → ∃ v, valV kvs k = some v ∧ Rp T K I m d v
  | [], ds, kvs, e, r, h => by cases ds <;> cases h
  | k1 :: ks, [], kvs, e, r, h => by cases h
  | k1 :: ks, x :: ds, [], e, r, h => by cases e
  | k1 :: ks, x :: ds, p :: kvs, e, r, h => by
    simp only [List.map_cons, List.cons.injEq] at e
    obtain ⟨v, r', e2, q, r2⟩ := r.inv
    simp only [List.map_cons, List.cons.injEq] at e2
    unfold lkD at h
    by_cases hk : k1 = k
    · rw [if_pos hk] at h
      cases h
      exact ⟨p.2, valV_pos (e.1.trans hk), by rw [e2.1]; exact q⟩
    · rw [if_neg hk] at h
      rw [valV_neg (by rw [e.1]; exact hk)]
      exact lkD_ok e.2 (by rw [e2.2]; exact r2) h
theorem itemsK_ok {K : PySem.W.Frag} {I H : Hp} {m : List Addr} {cs : List Cell} {d : D} {ks : List Key} {ds : List D} {v : V} (sr : SR T K I m cs H) (r : Rp T K I m d v) (h : itemsK cs d = some (ks, ds)) :
    ∃ a kvs, v = .ref a ∧ Rd H a (.dK kvs) ∧ kvs.map (·.1) = ks ∧ RpL T K I m ds (kvs.map (·.2)) := by
  cases d with
  | dic ks' ds' =>
    cases h
    unfold Rp at r
    obtain ⟨a, kvs, e, q, k1, k2⟩ := r
    exact ⟨a, kvs, e, Rd.same sr.same q, k1, k2⟩
  | cell n =>
    obtain ⟨a, e1, e2⟩ := rp_cell.mp r
    unfold itemsK at h
    cases hc : cs[n]? with
    | none => simp [hc] at h
    | some c =>
      cases c with
      | dic ks' ds' =>
        simp only [hc] at h
        cases h
        obtain ⟨a', o, q1, q2, q3, q4⟩ := sr.at_ n _ hc (by intro z; cases z)
        rw [e1] at q1; cases q1
        cases o with
        | dK kvs => exact ⟨a, kvs, e2, .inl q3, q4.1, q4.2⟩
        | _ => exact q4.elim
      | _ => simp [hc] at h
  | _ => cases h
theorem de_dget (hu : X.A.units + 1 < cLine) (ho : DE X T W o f) (hi : DE X T W i g) (hs : NoSl i) : DE X T W (.Subscript o i pos) (d2 f g dgetD) := by
  refine PE.imp (pe_dget hu ho hi hs) ?_
  rintro σ H Q ⟨I, m, cs, env, er, sr, h⟩
  refine ⟨I, m, cs, env, er, sr, OutG.bindI h fun x cs1 v H1 I1 m1 s1 p1 sr1 r1 h1 => ?_⟩
  refine ⟨I1, m1, cs1, env, er.mono s1 p1, sr1, OutG.bindI h1 fun y cs2 u H2 I2 m2 s2 p2 sr2 r2 h2 => ?_⟩
  unfold dgetD at h2
  cases hi : itemsK cs2 x with
  | none => simp only [hi] at h2; exact h2.elim
  | some p =>
    obtain ⟨ks, ds⟩ := p
    cases hk : keyD y with
    | none => simp only [hi, hk] at h2; exact h2.elim
    | some k =>
      simp only [hi, hk] at h2
      cases hl : lkD ks ds k with
      | none => simp only [hl] at h2; exact h2.elim
      | some d =>
        simp only [hl] at h2
        obtain ⟨a, kvs, rfl, q, k1, k2⟩ := itemsK_ok sr2 (r1.mono s2 p2) hi
        obtain ⟨w, ev, rw'⟩ := lkD_ok k1 k2 hl
        have e := keyD_ok r2 hk
        exact ⟨a, w, rfl, .inl ⟨kvs, k, q, e, ev.symm⟩, h2.okI sr2 rw'⟩
end
end
end DL
end

section
set_option Elab.async false
set_option linter.all false
set_option maxRecDepth 100000
set_option maxHeartbeats 4000000
/-! DL18: == and != by the text's own __eq__. -/
namespace OwnNe
open PySem PySem.Spec PyProof.Rows PySem.SeqAt Builtin
section
variable {prog : Program} {w : World} {A : Around} {E : Value → Shared → Prop} {s : Shared} {K : PySem.W.Frag} {x y C f : Addr} {ox : Obj} {od : Option Obj}
theorem entry_ne {Q : Fin → Shared → Prop} (X : K.In s.heap) (I : PySem.W.InstAt s.heap x ox C od) (hs : PySem.W.findIn K (.ref C) "__eq__" = some (some (.ref f))) (hf : PySem.W.isFn K (.ref f) = true) (hu : A.units < cLine)
    (hc : wpAny (model prog w) A (call (.ref f) [.ref x, .ref y]) (fun v s' => ∃ b, v = .bool b ∧ Q (.done (.ret (.bool (!b)))) s') E s) :
    wpAny (model prog w) A (Builtin.«object.__ne__» ⟨[.ref x, .ref y], []⟩) Q E s := by
  unfold Builtin.«object.__ne__»
  repeat (first
    | with_reducible refine wpAny_cRoomFor hu ?_
    | (refine wpAny_bind (m := callSpecialIfBound? (.ref x) (Str.ofString "__eq__") [.ref y])
        (PySem.W.ifBound_K X I hs hf (wpAny_mono hc (fun r s' hr => by
          obtain ⟨b, rfl, hq⟩ := hr
          repeat (first | exact hq | exact wpAny_pure hq | exact wpAny_truthy_bool hq | (refine wpAny_bind (m := truthy (.bool _)) (wpAny_truthy_bool ?_)) | wp_step)) fun _ _ e => e)))
    | wp_step)
theorem call_ne {Q : Value → Shared → Prop} (X : K.In s.heap) (I : PySem.W.InstAt s.heap x ox C od) (hm : PySem.W.mroIn K C (.type "object") = some true) (hs : PySem.W.findIn K (.ref C) "__eq__" = some (some (.ref f))) (hf : PySem.W.isFn K (.ref f) = true)
    (hu : A.units + 1 < cLine) (hc : wpAny (model prog w) A.in1 (call (.ref f) [.ref x, .ref y]) (fun v s' => ∃ b, v = .bool b ∧ Q (.bool (!b)) s') E s) :
    wpAny (model prog w) A (call (.builtin "object.__ne__") [.ref x, .ref y]) Q E s :=
  wpAny_call (codeAny_call_builtin F.cmp_object.ne.plain F.cmpEntry_ne (PySem.W.check_slot F.cmpKind_ne F.cmpSplit_ne (I.type.andThen (PySem.W.looks_mroIn X hm)) (F.cmpArgs_ne _ _)
    (entry_ne (A := A.in1) X I hs hf hu (wpAny_mono hc (fun v s' hv => by
      obtain ⟨b, rfl, hq⟩ := hv
      exact ⟨b, rfl, hq⟩) fun _ _ e => e))))
theorem ifBound_ne {M : Model} {args : List Value} {Q : Option Value → Shared → Prop} (X : K.In s.heap) (I : PySem.W.InstAt s.heap x ox C od) (hs : PySem.W.findIn K (.ref C) "__ne__" = some (some (.builtin "object.__ne__")))
    (h : wpAny M A (call (.builtin "object.__ne__") (.ref x :: args)) (fun v => Q (some v)) E s) : wpAny M A (callSpecialIfBound? (.ref x) "__ne__" args) Q E s := by
  simp only [callSpecialIfBound?, bindSpecialIfBound?]
  refine wpAny_holding (wpAny_bind (wpAny_bind (wpAny_bind (I.type.here ((PySem.W.looks_findIn X hs).here ?_)))))
  refine wpAny_bind (wpAny_askSetting (wpAny_ite ?_))
  have fin : wpAny M A (call (.builtin "object.__ne__") ([.ref x] ++ args) >>= fun v => pure (some v)) Q E s := wpAny_bind (wpAny_mono h (fun v s' h' => wpAny_pure h') fun _ _ h' => h')
  split
  · exact wpAny_bind (wpAny_of_eq (F.cmp_object.ne.bind _) (wpAny_pure (by exact fin)))
  · exact wpAny_tryCatch (wpAny_bind (wpAny_of_eq (F.cmp_object.ne.bind _) (wpAny_pure (by exact fin))))
theorem cmp_ne {tb : Value} {Q : Value → Shared → Prop} (hu : A.units + 1 < cLine) (X : K.In s.heap) (I : PySem.W.InstAt s.heap x ox C od) (hb : PySem.W.Looks (model prog w) s.heap (typeOf (.ref y)) tb) (hn : PySem.W.notFirst K C tb = true)
    (hne : PySem.W.findIn K (.ref C) "__ne__" = some (some (.builtin "object.__ne__"))) (hm : PySem.W.mroIn K C (.type "object") = some true) (hs : PySem.W.findIn K (.ref C) "__eq__" = some (some (.ref f))) (hf : PySem.W.isFn K (.ref f) = true)
    (h : wpAny (model prog w) A.in1 (call (.ref f) [.ref x, .ref y]) (fun v s' => ∃ b, v = .bool b ∧ Q (.bool (!b)) s') E s) : wpAny (model prog w) A (richCompare .NotEq (.ref x) (.ref y)) Q E s := by
  have one : wpAny (model prog w) A (tryCompare (.ref x) (cmpInfo .NotEq).2.1 (.ref y)) (fun r s' => ∃ v, r = some v ∧ Q v s') E s := by
    unfold tryCompare
    refine wpAny_bind (ifBound_ne X I hne (call_ne X I hm hs hf hu (wpAny_mono h (fun v s' hv => ?_) fun _ _ e => e)))
    obtain ⟨b, rfl, hq⟩ := hv
    exact ⟨b, rfl, wpAny_pure ⟨_, rfl, hq⟩⟩
  unfold richCompare
  simp only [oneThing_ref]
  refine wpAny_holding (wpAny_bind (wpAny_cRoomFor (Nat.lt_of_succ_lt hu) ?_))
  refine wpAny_bind (I.type.here (wpAny_bind (hb.here ?_)))
  split
  · rename_i q
    have e : PySem.W.subIn K tb (.ref C) = some false := by
      rcases Bool.or_eq_true_iff.mp hn with e | e
      · rw [beq_iff_eq.mp e] at q; simp at q
      · exact beq_iff_eq.mp e
    refine wpAny_bind ((PySem.W.looks_subIn X e).here ?_)
    simp only [Bool.false_eq_true, if_false]
    refine wpAny_bind (wpAny_mono one (fun r s' z => ?_) fun _ _ e => e)
    obtain ⟨v, rfl, hq⟩ := z
    exact wpAny_pure hq
  · refine wpAny_bind (wpAny_pure ?_)
    simp only [Bool.false_eq_true, if_false]
    refine wpAny_bind (wpAny_mono one (fun r s' z => ?_) fun _ _ e => e)
    obtain ⟨v, rfl, hq⟩ := z
    exact wpAny_pure hq
end
end OwnNe
end

section
set_option Elab.async false
set_option linter.all false
set_option maxRecDepth 100000
set_option maxHeartbeats 4000000
namespace DL
open PySem L2 PyProof.Rows
open Classical
noncomputable section
/-! DL19: == and != by the text's own __eq__, by its denotation. -/
section
variable {X : Cx} {T : Tab} {W : WX} {k : Nat} {f : Addr} {den : FDen}
theorem pass_no : Passes (L2.CX X.prog X.w) X (fun _ _ _ => False) := fun _ _ _ _ _ _ _ ⟨_, _, _, _, _, _, _, _, _, _, _, _, h⟩ => h.elim
/-- the own == is called -/
theorem eq_call (c : DF X.prog X.w X.K X.mg X.base T k f 2 den) {A : Around} {pins : List (Addr × Obj)} {s : Shared} {σ : L2.St} {H : Hp} {a b : Addr} {Q : VK} (hr : Room k A) (fr : A.frames = X.A.frames) (I : Inv X pins σ H s)
    (h : ∃ I m cs d1 d2, SR T X.K I m cs H ∧ Rp T X.K I m d1 (.ref a) ∧ Rp T X.K I m d2 (.ref b) ∧ OutG T X.K (RD T X.K) I m (den [d1, d2] cs) Q (fun _ _ _ => False)) :
    wpAny (model X.prog X.w) A (call (.ref f) [.ref a, .ref b]) (fun w s' => ∃ z H', Inv X pins σ H' s' ∧ RelV z w ∧ Q z H') X.xe s := by
  obtain ⟨fd, ps, hl, F, hb⟩ := c.ex
  obtain ⟨I0, m, cs, d1, d2, sr, r1, r2, ho⟩ := h
  have hsp : spD T X.K 2 den [.ref a, .ref b] H Q (fun _ _ _ => False) := ⟨rfl, I0, m, cs, [d1, d2], sr, RpL.cons r1 (RpL.one r2), ho⟩
  have e0 : Env0 X.prog X.w X.K X.mg X.base A X.stack s H := by
    have e := I.env0
    exact ⟨by rw [fr]; exact e.frames, e.mod, e.bs, e.bsz, e.funs, e.frf, e.hok, e.bare⟩
  have rr : Vals [V.ref a, V.ref b] [Value.ref a, Value.ref b] := .cons rfl (.cons rfl .nil)
  refine wpAny_call (codeAny_mono (F.run A X.stack s H ⟨[.ref a, .ref b], []⟩ [.ref a, .ref b] [.ref a, .ref b] _ (fun _ _ _ => False) hr e0 (by
    have := hb s [.ref a, .ref b] I.kIn (by simpa using hl.symm)
    simpa using this) rr hsp) fun r s' hq => ?_)
  cases r with
  | error e => exact (pass_no (X := X) pins σ H s e s' I hq)
  | ok fl =>
    cases fl with
    | ret w =>
      obtain ⟨z, H', I', rz, ez⟩ := I.after hq
      exact ⟨z, H', I', rz, ez⟩
    | next => exact False.elim hq
    | brk => exact False.elim hq
    | cont => exact False.elim hq
/-- a class whose == is the def at f -/
structure OwnC (K : PySem.W.Frag) (f C : Addr) : Prop where
  eq : PySem.W.findIn K (.ref C) "__eq__" = some (some (.ref f))
  ne : PySem.W.findIn K (.ref C) "__ne__" = some (some (.builtin "object.__ne__"))
  fn : PySem.W.isFn K (.ref f) = true
  mro : PySem.W.mroIn K C (.type "object") = some true
/-- the classes CS: each has the own ==, none is another's subclass -/
def OwnS (T : Tab) (K : PySem.W.Frag) (f : Addr) (CS : List Nat) : Prop := (∀ c ∈ CS, OwnC K f (T.ca c)) ∧ ∀ c ∈ CS, ∀ c' ∈ CS, PySem.W.notFirst K (T.ca c) (.ref (T.ca c')) = true
def rOwn (T : Tab) (K : PySem.W.Frag) (f : Addr) (den : FDen) (neg : Bool) : R2 := fun x y H Q => ∃ a b C C' dx dy gs hs, x = .ref a ∧ y = .ref b ∧ H a = some (.ins C dx gs) ∧ H b = some (.ins C' dy hs) ∧ OwnC K f C ∧ PySem.W.notFirst K C (.ref C') = true ∧
  ∃ I m cs d1 d2, SR T K I m cs H ∧ Rp T K I m d1 x ∧ Rp T K I m d2 y ∧ OutG T K (RD T K) I m (den [d1, d2] cs) (fun v H' => ∃ r, v = .bl r ∧ Q (.bl (if neg then !r else r)) H') (fun _ _ _ => False)
theorem op_ownEq (c : DF X.prog X.w X.K X.mg X.base T k f 2 den) (hr : Room k X.A) : OpR X (compareOp .Eq) (rOwn T X.K f den false) := by
  intro pins s σ H x y v u Q I rx ry h
  obtain ⟨a, b, C, C', dx, dy, gs, hs, rfl, rfl, ha, hb, oc, nf, h⟩ := h
  cases rx
  cases ry
  obtain ⟨mA, J, _⟩ := ins_get I.hok ha
  obtain ⟨mB, J', _⟩ := ins_get I.hok hb
  obtain ⟨od, J, _⟩ := J.look
  obtain ⟨od', J', _⟩ := J'.look
  obtain ⟨m, hF⟩ := I.fr
  show wpAny (model X.prog X.w) X.A (richCompare .Eq (.ref a) (.ref b)) (EP X pins σ Q) X.xe s
  refine PySem.W.cmp_K (op := .Eq) (tb := .ref C') hr.units0 hF I.ok.mod.kin J J'.type nf oc.eq oc.fn (wpAny_mono (eq_call c hr rfl I h) (fun w s' z => ?_) fun _ _ x => x)
  obtain ⟨z, H', I', rz, r, rfl, q⟩ := z
  cases rz
  exact ⟨.bl r, H', I', rfl, q⟩
theorem op_ownNe (c : DF X.prog X.w X.K X.mg X.base T k f 2 den) (hr : Room (k + 1) X.A) : OpR X (compareOp .NotEq) (rOwn T X.K f den true) := by
  intro pins s σ H x y v u Q I rx ry h
  obtain ⟨a, b, C, C', dx, dy, gs, hs, rfl, rfl, ha, hb, oc, nf, h⟩ := h
  cases rx
  cases ry
  obtain ⟨mA, J, _⟩ := ins_get I.hok ha
  obtain ⟨mB, J', _⟩ := ins_get I.hok hb
  obtain ⟨od, J, _⟩ := J.look
  obtain ⟨od', J', _⟩ := J'.look
  show wpAny (model X.prog X.w) X.A (richCompare .NotEq (.ref a) (.ref b)) (EP X pins σ Q) X.xe s
  refine OwnNe.cmp_ne (tb := .ref C') hr.in1.units0 I.kIn J J'.type nf oc.ne oc.mro oc.eq oc.fn (wpAny_mono (eq_call c hr.in1 rfl I h) (fun w s' z => ?_) fun _ _ x => x)
  obtain ⟨z, H', I', rz, r, rfl, q⟩ := z
  cases rz
  exact ⟨r, rfl, .bl (!r), H', I', rfl, q⟩
/-! ### their denotations -/
def isOb : D → Option Nat
  | .obj c _ => some c
  | _ => none
def outB (neg : Bool) : Out D → Out D
  | .ok (.bl r) cs => .ok (.bl (if neg then !r else r)) cs
  | _ => .no
def ownD (CS : List Nat) (den : FDen) (neg : Bool) (x y : D) (cs : List Cell) : Out D := match isOb x, isOb y with
  | some c, some c' => if c ∈ CS ∧ c' ∈ CS then outB neg (den [x, y] cs) else .no
  | _, _ => .no
theorem hk_own {K : PySem.W.Frag} {CS : List Nat} {neg : Bool} (S : OwnS T K f CS) : Hk2 T K (rOwn T K f den neg) (ownD CS den neg) := by
  intro I m cs H x y v u Q E sr rx ry h
  unfold ownD at h
  cases x with
  | obj c xs =>
    cases y with
    | obj c' ys =>
      simp only [isOb] at h
      split at h
      · rename_i hc
        have rx' := rx
        have ry' := ry
        unfold Rp at rx' ry'
        obtain ⟨a, dx, gs, rfl, ea, _, _⟩ := rx'
        obtain ⟨b, dy, hs, rfl, eb, _, _⟩ := ry'
        refine ⟨a, b, _, _, dx, dy, gs, hs, rfl, rfl, sr.same _ _ ea, sr.same _ _ eb, S.1 c hc.1, S.2 c hc.1 c' hc.2, I, m, cs, _, _, sr, rx, ry, ?_⟩
        unfold outB at h
        cases hd : den [.obj c xs, .obj c' ys] cs with
        | ok d cs1 =>
          rw [hd] at h
          cases d with
          | bl r =>
            intro v H' I' m' s p sr' r'
            have e := rp_bl.mp r'
            subst e
            exact ⟨r, rfl, h (.bl (if neg then !r else r)) H' I' m' s p sr' (rp_bl.mpr rfl)⟩
          | _ => exact h.elim
        | exn => rw [hd] at h; exact h.elim
        | no => rw [hd] at h; exact h.elim
      · exact h.elim
    | _ => exact h.elim
  | _ => exact h.elim
variable {a b e : Expr} {g h : Den D} {pos : Pos}
theorem dc_ownEq {CS : List Nat} {j : Nat} (c : DF X.prog X.w X.K X.mg X.base T k f 2 den) (S : OwnS T X.K f CS) (hr : Room j X.A) (hk : k ≤ j := by decide) (ha : DE X T W a g) (hb : DE X T W b h) : DC X T W .Eq a b (d2 g h (ownD CS den false)) :=
  dc_op (op_ownEq c (hr.mono hk)) (hk_own S) ha hb
theorem dc_ownNe {CS : List Nat} {j : Nat} (c : DF X.prog X.w X.K X.mg X.base T k f 2 den) (S : OwnS T X.K f CS) (hr : Room j X.A) (hk : k + 1 ≤ j := by decide) (ha : DE X T W a g) (hb : DE X T W b h) : DC X T W .NotEq a b (d2 g h (ownD CS den true)) :=
  dc_op (op_ownNe c (hr.mono hk)) (hk_own S) ha hb
/-! ### == of tuples that hold such objects: only where it is True -/
/-- the own == says True of two frozen objects -/
def OwnT (CS : List Nat) (den : FDen) (x y : D) : Prop := (∃ c c', isOb x = some c ∧ isOb y = some c' ∧ c ∈ CS ∧ c' ∈ CS) ∧ D.lt 0 x = true ∧ D.lt 0 y = true ∧ ∃ cs', den [x, y] [] = .ok (.bl true) cs'
def DOwn (T : Tab) (K : PySem.W.Frag) (f : Addr) (CS : List Nat) (den : FDen) : Eqv := fun v u H => ∃ a b C C' dx dy gs hs, v = .ref a ∧ u = .ref b ∧ H a = some (.ins C dx gs) ∧ H b = some (.ins C' dy hs) ∧ OwnC K f C ∧ PySem.W.notFirst K C (.ref C') = true ∧
  ∃ x y, Rp T K H [] x v ∧ Rp T K H [] y u ∧ ∃ cs', den [x, y] [] = .ok (.bl true) cs'
theorem mon_own {K : PySem.W.Frag} {CS : List Nat} : Mon (DOwn T K f CS den) := by
  intro v u H H' e h
  obtain ⟨a, b, C, C', dx, dy, gs, hs, rfl, rfl, ha, hb, oc, nf, x, y, rx, ry, q⟩ := h
  exact ⟨a, b, C, C', dx, dy, gs, hs, rfl, rfl, e _ _ ha, e _ _ hb, oc, nf, x, y, Rp.mono (fun b u z => e b u z) (List.prefix_refl _) rx, Rp.mono (fun b u z => e b u z) (List.prefix_refl _) ry, q⟩
theorem sr_all {K : PySem.W.Frag} {H : Hp} (htb : T.tb = []) : SR T K H [] [] H := ⟨fun _ _ e => e, rfl, fun n c e => by simp at e, fun n n' c c' a e => by simp at e, (by rw [htb]; exact fun _ h => nomatch h), fun h => absurd htb h⟩
theorem rcG_own {CS : List Nat} (htb : T.tb = []) (c : DF X.prog X.w X.K X.mg X.base T k f 2 den) : RcG X k (DOwn T X.K f CS den) := by
  intro A pins s σ H v u w z sb I rv ru h
  obtain ⟨a, b, C, C', dx, dy, gs, hs, rfl, rfl, ha, hb, oc, nf, x, y, rx, ry, cs', q⟩ := h
  cases rv
  cases ru
  obtain ⟨mA, J, _⟩ := ins_get I.hok ha
  obtain ⟨mB, J', _⟩ := ins_get I.hok hb
  obtain ⟨od, J, _⟩ := J.look
  obtain ⟨od', J', _⟩ := J'.look
  obtain ⟨m, hF⟩ := I.fr
  refine PySem.W.cmp_K (op := .Eq) (tb := .ref C') sb.room.units0 hF I.ok.mod.kin J J'.type nf oc.eq oc.fn (wpAny_mono (eq_call (Q := fun z H' => z = .bl true ∧ Ext H H') c sb.room sb.fr I ⟨H, [], [], x, y, sr_all htb, rx, ry, ?_⟩) (fun w s' z => ?_) fun _ _ x => x)
  · rw [q]
    intro v H' I' m' s p sr' r'
    exact ⟨rp_bl.mp r', fun b u z => sr'.same _ _ (s _ _ z)⟩
  · obtain ⟨z, H', I', rz, rfl, e⟩ := z
    cases rz
    exact ⟨rfl, H', I', e⟩
def scal : D → Bool
  | .non => true
  | .bl _ => true
  | .int _ => true
  | .str _ => true
  | _ => false
/-- equal in depth n: the same scalar, own, or tuples item by item -/
def EqN (CS : List Nat) (den : FDen) : Nat → D → D → Prop
  | 0, x, y => OwnT CS den x y ∨ (scal x = true ∧ x = y)
  | n + 1, x, y => EqN CS den n x y ∨ ∃ xs ys, x = .tup xs ∧ y = .tup ys ∧ xs.length = ys.length ∧ ∀ (i : Nat) (p q : D), xs[i]? = some p → ys[i]? = some q → EqN CS den n p q
def DN (T : Tab) (K : PySem.W.Frag) (f : Addr) (CS : List Nat) (den : FDen) : Nat → Eqv
  | 0 => fun v u H => DOwn T K f CS den v u H ∨ DFlat v u H
  | n + 1 => fun v u H => DN T K f CS den n v u H ∨ DTup K (DN T K f CS den n) v u H
theorem mon_dn {K : PySem.W.Frag} {CS : List Nat} : ∀ n, Mon (DN T K f CS den n)
  | 0 => mon_own.or mon_flat
  | n + 1 => (mon_dn n).or (mon_tup (mon_dn n))
theorem eqG_dn {CS : List Nat} (htb : T.tb = []) (c : DF X.prog X.w X.K X.mg X.base T k f 2 den) : ∀ n, EqG X (k + n) (DN T X.K f CS den n)
  | 0 => ((rcG_own htb c).eqG fun _ _ _ d => let ⟨a, b, _, _, _, _, _, _, hx, hy, _⟩ := d; ⟨a, b, hx, hy⟩).or (eqG_flat.mono (Nat.zero_le _))
  | n + 1 => ((eqG_dn htb c n).mono (by omega)).or (eqG_tup (mon_dn n) (eqG_dn htb c n))
theorem scal_ok {K : PySem.W.Frag} {I : Hp} {m : List Addr} {x : D} {v u : V} (h : scal x = true) (r : Rp T K I m x v) (r2 : Rp T K I m x u) (H : Hp) : DFlat v u H := by
  cases x with
  | non => rw [rp_non.mp r, rp_non.mp r2]; exact ⟨rfl, rfl, by simp [eqV]⟩
  | bl b => rw [rp_bl.mp r, rp_bl.mp r2]; exact ⟨rfl, rfl, by simp [eqV]⟩
  | int b => rw [rp_int.mp r, rp_int.mp r2]; exact ⟨rfl, rfl, by simp [eqV]⟩
  | str b => rw [rp_str.mp r, rp_str.mp r2]; exact ⟨rfl, rfl, by simp [eqV]⟩
  | _ => cases h
theorem eqN_ok {K : PySem.W.Frag} {CS : List Nat} (S : OwnS T K f CS) {I H : Hp} {m : List Addr} {cs : List Cell} (sr : SR T K I m cs H) : ∀ (n : Nat) (x y : D) (v u : V), Rp T K I m x v → Rp T K I m y u → EqN CS den n x y → DN T K f CS den n v u H
  | 0, x, y, v, u, rx, ry, h => by
    rcases h with ⟨⟨c, c', e1, e2, h1, h2⟩, l1, l2, q⟩ | ⟨h, e⟩
    · left
      have rx0 := Rp.mono sr.same (List.prefix_refl _) (Rp.cut l1 rx)
      have ry0 := Rp.mono sr.same (List.prefix_refl _) (Rp.cut l2 ry)
      rw [List.take_zero] at rx0 ry0
      cases x with
      | obj cx xs =>
        cases y with
        | obj cy ys =>
          cases e1; cases e2
          have rx' := rx
          have ry' := ry
          unfold Rp at rx' ry'
          obtain ⟨a, dx, gs, rfl, ea, _, _⟩ := rx'
          obtain ⟨b, dy, hs, rfl, eb, _, _⟩ := ry'
          exact ⟨a, b, _, _, dx, dy, gs, hs, rfl, rfl, sr.same _ _ ea, sr.same _ _ eb, S.1 _ h1, S.2 _ h1 _ h2, _, _, rx0, ry0, q⟩
        | _ => cases e2
      | _ => cases e1
    · subst e
      exact .inr (scal_ok h rx ry H)
  | n + 1, x, y, v, u, rx, ry, h => by
    rcases h with h | ⟨xs, ys, rfl, rfl, hl, h⟩
    · exact .inl (eqN_ok S sr n x y v u rx ry h)
    · right
      obtain ⟨a, vs, rfl, q1, r1⟩ := rp_tup.mp rx
      obtain ⟨b, us, rfl, q2, r2⟩ := rp_tup.mp ry
      refine ⟨a, b, vs, us, rfl, rfl, SqT.same sr.same q1, SqT.same sr.same q2, by rw [← r1.length, ← r2.length]; exact hl, fun i w z hw hz => ?_⟩
      obtain ⟨p, hp, rp⟩ := r1.getV hw
      obtain ⟨q, hq, rq⟩ := r2.getV hz
      exact eqN_ok S sr n p q w z rp rq (h i p q hp hq)
theorem SR.extH {K : PySem.W.Frag} {I H H' : Hp} {m : List Addr} {cs : List Cell} (s : SR T K I m cs H) (e : Ext H H') : SR T K I m cs H' :=
  ⟨fun b u z => e _ _ (s.same _ _ z), s.len, fun n c z l => let ⟨a, o, h1, h2, h3, h4⟩ := s.at_ n c z l; ⟨a, o, h1, h2, e _ _ h3, h4⟩, s.inj, s.tabs.ext e, s.ntb⟩
/-- tuples, True alone -/
def eqOT (CS : List Nat) (den : FDen) (n : Nat) (x y : D) (cs : List Cell) : Out D := if (∃ xs ys, x = .tup xs ∧ y = .tup ys ∧ xs.length = ys.length ∧ ∀ (i : Nat) (p q : D), xs[i]? = some p → ys[i]? = some q → EqN CS den n p q) then .ok (.bl true) cs else .no
theorem hk_eqOT {K : PySem.W.Frag} {CS : List Nat} {n : Nat} (S : OwnS T K f CS) : Hk2 T K (rEqG (DTup K (DN T K f CS den n))) (eqOT CS den n) := by
  intro I m cs H x y v u Q E sr rx ry h
  unfold eqOT at h
  split at h
  · rename_i hq
    obtain ⟨xs, ys, rfl, rfl, hl, hp⟩ := hq
    obtain ⟨a, vs, rfl, q1, r1⟩ := rp_tup.mp rx
    obtain ⟨b, us, rfl, q2, r2⟩ := rp_tup.mp ry
    refine ⟨⟨a, b, vs, us, rfl, rfl, SqT.same sr.same q1, SqT.same sr.same q2, by rw [← r1.length, ← r2.length]; exact hl, fun i w z hw hz => ?_⟩, fun H' e => ?_⟩
    · obtain ⟨p, hp1, rp⟩ := r1.getV hw
      obtain ⟨q, hq1, rq⟩ := r2.getV hz
      exact eqN_ok S sr n p q w z rp rq (hp i p q hp1 hq1)
    · exact h (.bl true) H' I m (Same.refl I) (List.prefix_refl _) (sr.extH e) (rp_bl.mpr rfl)
  · exact h.elim
theorem dc_eqOT {CS : List Nat} {j n : Nat} (c : DF X.prog X.w X.K X.mg X.base T k f 2 den) (S : OwnS T X.K f CS) (hr : Room j X.A) (hk : k + n + 1 ≤ j := by decide) (ha : DE X T W a g) (hb : DE X T W b h) (htb : T.tb = [] := by rfl) : DC X T W .Eq a b (d2 g h (eqOT CS den n)) :=
  dc_op (op_eqG (rcG_tup (mon_dn n) (eqG_dn htb c n)) (hr.mono hk)) (hk_eqOT S) ha hb
/-! ### the own + of two objects of one class -/
def rBin (T : Tab) (K : PySem.W.Frag) (C : Addr) (den : FDen) : R2 := fun x y H Q => ∃ a b dx dy gs hs, x = .ref a ∧ y = .ref b ∧ H a = some (.ins C dx gs) ∧ H b = some (.ins C dy hs) ∧
  ∃ I m cs d1 d2, SR T K I m cs H ∧ Rp T K I m d1 x ∧ Rp T K I m d2 y ∧ OutG T K (RD T K) I m (den [d1, d2] cs) (fun v H' => ∃ r, v = .ref r ∧ Q (.ref r) H') (fun _ _ _ => False)
theorem op_ownAdd {C : Addr} (c : DF X.prog X.w X.K X.mg X.base T k f 2 den) (hr : Room k X.A) (sf : PySem.W.selfFirst X.K C = true) (hm : Meth X.K C "__add__" f) : OpR X (binaryOp .Add) (rBin T X.K C den) := by
  intro pins s σ H x y v u Q I rx ry h
  obtain ⟨a, b, dx, dy, gs, hs, rfl, rfl, ha, hb, h⟩ := h
  cases rx
  cases ry
  obtain ⟨mA, J, _⟩ := ins_get I.hok ha
  obtain ⟨mB, J', _⟩ := ins_get I.hok hb
  obtain ⟨od, J, _⟩ := J.look
  obtain ⟨od', J', _⟩ := J'.look
  obtain ⟨m, hF⟩ := I.fr
  refine PySem.W.binop_K (op := .Add) hF I.ok.mod.kin J J'.type sf hm.at_ hm.fn (wpAny_mono (eq_call c hr rfl I h) (fun w s' z => ?_) fun _ _ x => x)
  obtain ⟨z, H', I', rz, r, rfl, q⟩ := z
  cases rz
  exact ⟨.ref r, H', I', rfl, q⟩
def ownAddD (C : Nat) (den : FDen) (x y : D) (cs : List Cell) : Out D := if isOb x = some C ∧ isOb y = some C then (match den [x, y] cs with
  | .ok (.obj c fs) cs => .ok (.obj c fs) cs
  | _ => .no) else .no
theorem hk_ownAdd {K : PySem.W.Frag} {C : Nat} : Hk2 T K (rBin T K (T.ca C) den) (ownAddD C den) := by
  intro I m cs H x y v u Q E sr rx ry h
  unfold ownAddD at h
  split at h
  · rename_i hc
    cases x with
    | obj cx xs =>
      cases y with
      | obj cy ys =>
        obtain ⟨e1, e2⟩ := hc
        cases e1; cases e2
        have rx' := rx
        have ry' := ry
        unfold Rp at rx' ry'
        obtain ⟨a, dx, gs, rfl, ea, _, _⟩ := rx'
        obtain ⟨b, dy, hs, rfl, eb, _, _⟩ := ry'
        refine ⟨a, b, dx, dy, gs, hs, rfl, rfl, sr.same _ _ ea, sr.same _ _ eb, I, m, cs, _, _, sr, rx, ry, ?_⟩
        cases hd : den [.obj C xs, .obj C ys] cs with
        | ok d cs1 =>
          rw [hd] at h
          cases d with
          | obj c fs =>
            intro v H' I' m' s p sr' r'
            have r2 := r'
            unfold RD Rp at r2
            obtain ⟨a2, _, _, rfl, _⟩ := r2
            exact ⟨a2, rfl, h (.ref a2) H' I' m' s p sr' r'⟩
          | _ => exact h.elim
        | exn => rw [hd] at h; exact h.elim
        | no => rw [hd] at h; exact h.elim
      | _ => cases hc.2
    | _ => cases hc.1
  · exact h.elim
theorem de_ownAdd {C j : Nat} (c : DF X.prog X.w X.K X.mg X.base T k f 2 den) (hr : Room j X.A) (sf : PySem.W.selfFirst X.K (T.ca C) = true) (hm : Meth X.K (T.ca C) "__add__" f) (ha : DE X T W a g) (hb : DE X T W b h) (hk : k ≤ j := by decide) : DE X T W (.BinOp a .Add b pos) (d2 g h (ownAddD C den)) :=
  de_op (op_ownAdd c (hr.mono hk) sf hm) hk_ownAdd ha hb
end
section
variable {X : Cx} {T : Tab} {W : WX} {a b : Expr} {g h : Den D} {pos : Pos}
/-! ### == with the empty tuple -/
def rEqE (K : PySem.W.Frag) : R2 := fun x y H Q => ∃ a b xs, x = .ref a ∧ y = .ref b ∧ SqT K H a xs ∧ SqT K H b [] ∧ Q (.bl (xs.length == 0)) H
theorem op_eqE (hu : X.A.units < cLine) : OpR X (compareOp .Eq) (rEqE X.K) := by
  intro pins s σ H x y v u Q I rx ry h
  obtain ⟨a, b, xs, rfl, rfl, ha, hb, q⟩ := h
  cases rx
  cases ry
  obtain ⟨its, r1, t1, _⟩ := I.tuple ha
  obtain ⟨its2, r2, t2, _⟩ := I.tuple hb
  cases r2
  refine SeqAt.eq_tupleAt (e := fun _ => true) t1 t2 hu (fun j h1 h2 => by simp at h2) ⟨.bl (xs.length == 0), H, I, ?_, q⟩
  have e := r1.length
  simp [e]
  rfl
def eqE (x y : D) (cs : List Cell) : Out D := match x, y with
  | .tup xs, .tup [] => .ok (.bl (xs.length == 0)) cs
  | _, _ => .no
theorem hk_eqE {K : PySem.W.Frag} : Hk2 T K (rEqE K) eqE := by
  intro I m cs H x y v u Q E sr rx ry h
  unfold eqE at h
  split at h
  · rename_i xs
    obtain ⟨a, vs, rfl, q1, r1⟩ := rp_tup.mp rx
    obtain ⟨b, us, rfl, q2, r2⟩ := rp_tup.mp ry
    have e := r2.inil
    subst e
    exact ⟨a, b, vs, rfl, rfl, SqT.same sr.same q1, SqT.same sr.same q2, by rw [← r1.length]; exact h.okI sr (rp_bl.mpr rfl)⟩
  · exact h.elim
theorem dc_eqE {j : Nat} (hr : Room j X.A) (ha : DE X T W a g) (hb : DE X T W b h) : DC X T W .Eq a b (d2 g h eqE) :=
  dc_op (op_eqE (hr.mono (Nat.zero_le _)).units0) hk_eqE ha hb
theorem hu_of {j : Nat} (hr : Room j X.A) (hk : 1 ≤ j := by decide) : X.A.units + 1 < cLine := (hr.mono hk).in1.units0
end
section
variable {fa : List He.Fa} {fn : List He.DefD} {fb : List Fb} {K : PySem.W.Frag} {mg : PySem.Str → Option Value}
theorem Kn.own (z : Kn fa fn fb K mg) (i : Nat) {x : PySem.Str} {p : PySem.Str × Option PySem.Str} (h : fb[i]? = some (.own x p) := by rfl) : OwnC K (He.fAd K p) (He.ga K x) := by
  obtain ⟨h1, h2⟩ := He.ba (z.fb_ i h)
  obtain ⟨h3, h4⟩ := He.ba h2
  obtain ⟨h5, h6⟩ := He.ba h4
  exact ⟨He.eqO_ok h1, He.eqO_ok h3, h5, of_decide_eq_true h6⟩
theorem Kn.nf (z : Kn fa fn fb K mg) (i : Nat) {x y : PySem.Str} (h : fb[i]? = some (.nf x y) := by rfl) : PySem.W.notFirst K (He.ga K x) (.ref (He.ga K y)) = true := z.fb_ i h
theorem Kn.slf (z : Kn fa fn fb K mg) (i : Nat) {x : PySem.Str} (h : fb[i]? = some (.slf x) := by rfl) : PySem.W.selfFirst K (He.ga K x) = true := z.fb_ i h
end
end
end DL
end

section
set_option Elab.async false
set_option linter.all false
set_option maxRecDepth 100000
set_option maxHeartbeats 4000000
/-! DL20: several except clauses, each with or without a name; raise C(e, ..). -/
namespace DL
open PySem PySem.Spec PyProof.Rows L2
/-- what the clauses wish: class, the name's slot, the suite -/
abbrev Cl : Type := Value × Option Nat × (Addr → Value → Option Addr → TS)
def wCl (K : PySem.W.Frag) (Wout : WX) (D : Ends) : List Cl → WX
  | [] => Wout
  | (c, some i, ts) :: r => fun cls d σ H => ∃ b, PySem.W.exmOne K cls c = some b ∧
      (b = true → ∀ a, H a = none → ts a cls d { nx := fun σ' H' => D.nx (σ'.set i none) H', rt := D.rt, bk := fun σ' H' => D.bk (σ'.set i none) H', ct := fun σ' H' => D.ct (σ'.set i none) H' } (σ.set i (some (.ref a))) H) ∧ (b = false → wCl K Wout D r cls d σ H)
  | (c, none, ts) :: r => fun cls d σ H => ∃ b, PySem.W.exmOne K cls c = some b ∧ (b = true → ∀ a, H a = none → ts a cls d D σ H) ∧ (b = false → wCl K Wout D r cls d σ H)
inductive HdA (X : Cx) : List ExceptHandler → List Cl → Prop
  | nil : HdA X [] []
  | cons {x : PySem.Str} {c : Value} {ts : Addr → Value → Option Addr → TS} {b₀ : Stmt} {suite : List Stmt} {np pos' : Pos} {hds : List ExceptHandler} {l : List Cl} (hc : Names X x c)
      (hsu : ∀ (a : Addr) (oe : Obj) (cls : Value) (d : Option Addr) (pn : List (Addr × Obj)), Zc cls d oe → (∃ vs, oe.data = .fields vs) → PSs (X.suite a ((a, oe) :: pn)) (b₀ :: suite) (ts a cls d)) (r : HdA X hds l) :
      HdA X (.ExceptHandler (some (.Name x np)) none (b₀ :: suite) pos' :: hds) ((c, none, ts) :: l)
  | consA {x n : PySem.Str} {i : Nat} {c : Value} {ts : Addr → Value → Option Addr → TS} {b₀ : Stmt} {suite : List Stmt} {np pos' : Pos} {hds : List ExceptHandler} {l : List Cl} (hi : X.N[i]? = some n) (hln : X.env.kindOf n = some .local) (hc : Names X x c)
      (hsu : ∀ (a : Addr) (oe : Obj) (cls : Value) (d : Option Addr) (pn : List (Addr × Obj)), Zc cls d oe → (∃ vs, oe.data = .fields vs) → PSs (X.suite a ((a, oe) :: pn)) (b₀ :: suite) (ts a cls d)) (r : HdA X hds l) :
      HdA X (.ExceptHandler (some (.Name x np)) (some n) (b₀ :: suite) pos' :: hds) ((c, some i, ts) :: l)
section
variable {X : Cx} {body : List Stmt} {h₀ : ExceptHandler} {hds : List ExceptHandler} {l : List Cl} {pos : Pos} {tb : WX → TS} {Wout : WX}
theorem ps_tryA (hs : X.stack = X.env :: X.outer) (hf : X.env.frame = some X.env.locals) (hN : X.N.Nodup) (tk : Takes X Wout)
    (hb : ∀ (W : WX) (pn : List (Addr × Obj)) (xe : Value → Shared → Prop), Takes (X.tr pn xe) W → PassesOwn (model X.prog X.w) X.A X.env xe → PSs (X.tr pn xe) body (tb W))
    (hh : HdA X (h₀ :: hds) l) : PS X (.Try body (h₀ :: hds) [] [] pos) (fun D σ H => tb (wCl X.K Wout D l) D σ H) := by
  refine ⟨fun pins s σ H D I h => ?_⟩
  have ok := I.ok
  have hfr : X.A.frames = some (X.env :: X.outer) := by rw [ok.frames, hs]
  refine wpAny_Try_except ?_
  refine wpAny_mono ((hb (wCl X.K Wout D l) (X.pn ++ pins) (fun e s₁ => wpAny (model X.prog X.w) X.A (noteFrame e X.env) (fun _ s₂ => wpAny (model X.prog X.w) X.A (setFlight e none) (fun _ s₃ =>
    wpAny (model X.prog X.w) X.A (handleBy e X.env (h₀ :: hds)) (SP X pins D) X.xe s₃) X.xe s₂) X.xe s₁) (fun u s' xx => ?_) PassesOwn.looking).run [] s σ H D (I.toTry _) h) (fun f s1 hsp => ?_) (fun e s1 he => he)
  · obtain ⟨a, B, sI, pins', σ', H', cls, d, rfl, J', nb, up, sky, na, os, ag, w⟩ := xx
    have J : Inv X pins σ' H' sI := J'.ofTry ok
    have sky' : Sky B (X.env :: X.outer) a (Zc cls d) X.env.locals s'.heap := by rw [← hs]; exact sky
    show wpAny _ X.A (noteFrame (.ref a) X.env) _ _ _
    refine Sky.land Zc.steady hfr hf sky' fun h3 fl3 up3 => ?_
    have J3 : Inv X pins σ' H' { s' with heap := h3 } := J.landed nb fl3.1 (up.trans up3) os ag
    obtain ⟨oe3, vs3, he3, hz3, hd3⟩ := fl3.there
    have notFr : ∀ {h : Heap} {o : Obj} {vs : Array Value}, h.FunFrames B (X.env :: X.outer) → h.get? a = some o → o.data = .fields vs → a ∉ frs (X.env :: X.outer) := fun {h o vs} ff e dd hm => by
      obtain ⟨_, o', e', hnf⟩ := ff.mem hm
      rw [e] at e'; cases e'
      exact hnf _ dd
    have nfr := notFr fl3.2.2.1 he3 hd3
    have nL : a ≠ X.env.locals := fun z => nfr (List.mem_filterMap.mpr ⟨X.env, List.mem_cons_self, by rw [hf, z]⟩)
    have nF : a ∉ X.fs := fun hm => by
      obtain ⟨e, he, q⟩ := List.mem_filterMap.mp hm
      exact nfr (List.mem_filterMap.mpr ⟨e, List.mem_cons_of_mem _ he, q⟩)
    have S3 := J3.suite he3 hd3 na nL nF
    have go : ∀ {hds' : List ExceptHandler} {l' : List Cl}, HdA X hds' l' → wCl X.K Wout D l' cls d σ' H' →
        wpAny (model X.prog X.w) X.A (handleBy (.ref a) X.env hds') (SP X pins D) X.xe { s' with heap := h3 } := by
      intro hds' l' hk
      induction hk with
      | nil =>
        intro w
        refine wpAny_handleBy_nil ?_
        obtain ⟨k1, k2, k3, oe, vs, T, oT, ts', he, hz, hd, h1, hr⟩ := id fl3
        unfold PySem.passOn
        refine wpAny_bind (wpAny_field he hd h1 ?_)
        rw [if_neg (show ¬ ((Value.ref T == Value.none) = true) from by simp)]
        have fin : wpAny (model X.prog X.w) X.A (setFlight (.ref a) X.env.frame) (fun _ s4 => wpAny (model X.prog X.w) X.A (throw (.ref a) : Sem Flow) (SP X pins D) X.xe s4) X.xe { s' with heap := h3 } := by
          rw [hf]
          refine HandSPX.setFlight_upZ fl3 fun h4 hh4 up4 => wpAny_throw (tk _ _ ?_)
          exact ⟨a, B, sI, pins, σ', H', cls, d, rfl, J, nb, (up.trans up3).trans up4, .inr (.inr (by rw [hs]; exact hh4)), na, os, ag, w⟩
        first
          | exact wpAny_bind (wpAny_pure (wpAny_bind fin))
          | exact wpAny_bind fin
      | @cons x c ts b₀ suite np pos' hds2 l2 hc hsu r ih =>
        intro w
        obtain ⟨b, hb1, hyes, hno⟩ := w
        refine wpAny_handleBy_cons (codeAny_handlers_test ?_) (by intro q; cases q)
        have LT : PySem.W.Looks (model X.prog X.w) h3 (typeOf (.ref a)) cls := fun A Q E s k q => wpAny_typeOf_ref (k _ _ he3) (by rw [hz3.1]; exact q)
        have LM := PySem.W.exm_one (M := model X.prog X.w) (J3.kIn) LT hb1
        have test : ∀ {Q : Value → Shared → Prop} {E : Value → Shared → Prop}, Q c { s' with heap := h3 } → wpAny (model X.prog X.w) (X.A.mark (some (.ref a))) (eval (.Name x np) X.env) Q E { s' with heap := h3 } := fun {Q E} q => by
          obtain ⟨hg, hdbg, hm | ⟨hm, hv, hnn⟩⟩ := hc
          · exact ld_glob (X := X.suite a ((a, oe3) :: (X.pn ++ pins))) S3 hg hm q hdbg
          · exact ld_blt (X := X.suite a ((a, oe3) :: (X.pn ++ pins))) S3 hg hm hv q hnn hdbg
        refine test (LM.here ?_)
        cases b with
        | true =>
          refine codeAny_handlers_suite ?_
          refine HandSPX.lands_againZ fl3 fun h4 fl4 up4 => ?_
          have J4 : Inv X pins σ' H' { s' with heap := h4 } := J.landed nb fl4.1 ((up.trans up3).trans up4) os ag
          obtain ⟨oe4, vs4, he4, hz4, hd4⟩ := fl4.there
          have S4 := J4.suite he4 hd4 na nL nF
          refine wpAny_mono ((hsu a oe4 cls d (X.pn ++ pins) hz4 ⟨_, hd4⟩).run [] _ _ H' _ S4 (hyes rfl a na)) (fun f s6 hsp => ?_) (fun _ _ z => False.elim z)
          cases f with
          | next =>
            obtain ⟨σ6, H6, S6, q6⟩ := hsp
            exact ⟨_, _, S6.unsuite ok, q6⟩
          | brk =>
            obtain ⟨σ6, H6, S6, q6⟩ := hsp
            exact ⟨_, _, S6.unsuite ok, q6⟩
          | cont =>
            obtain ⟨σ6, H6, S6, q6⟩ := hsp
            exact ⟨_, _, S6.unsuite ok, q6⟩
          | ret u =>
            obtain ⟨v6, σ6, H6, S6, r6, q6⟩ := hsp
            exact ⟨_, _, _, S6.unsuite ok, r6, q6⟩
        | false =>
          show wpAny _ X.A (handleBy (.ref a) X.env hds2) _ _ _
          exact ih (hno rfl)
      | @consA x n i c ts b₀ suite np pos' hds2 l2 hi hln hc hsu r ih =>
        intro w
        obtain ⟨b, hb1, hyes, hno⟩ := w
        have hloc : Loc X.env.scope n := .inl hln
        refine wpAny_handleBy_cons (codeAny_handlers_test ?_) (by intro q; cases q)
        have LT : PySem.W.Looks (model X.prog X.w) h3 (typeOf (.ref a)) cls := fun A Q E s k q => wpAny_typeOf_ref (k _ _ he3) (by rw [hz3.1]; exact q)
        have LM := PySem.W.exm_one (M := model X.prog X.w) (J3.kIn) LT hb1
        have test : ∀ {Q : Value → Shared → Prop} {E : Value → Shared → Prop}, Q c { s' with heap := h3 } → wpAny (model X.prog X.w) (X.A.mark (some (.ref a))) (eval (.Name x np) X.env) Q E { s' with heap := h3 } := fun {Q E} q => by
          obtain ⟨hg, hdbg, hm | ⟨hm, hv, hnn⟩⟩ := hc
          · exact ld_glob (X := X.suite a ((a, oe3) :: (X.pn ++ pins))) S3 hg hm q hdbg
          · exact ld_blt (X := X.suite a ((a, oe3) :: (X.pn ++ pins))) S3 hg hm hv q hnn hdbg
        refine test (LM.here ?_)
        cases b with
        | true =>
          refine codeAny_handlers_suite_as ?_
          refine HandSPX.lands_againZ fl3 fun h4 fl4 up4 => ?_
          have J4 : Inv X pins σ' H' { s' with heap := h4 } := J.landed nb fl4.1 ((up.trans up3).trans up4) os ag
          obtain ⟨oe4, vs4, he4, hz4, hd4⟩ := fl4.there
          have S4 := J4.suite he4 hd4 na nL nF
          refine store_ok (X := X.suite a ((a, oe4) :: (X.pn ++ pins))) (v := .ref a) S4 hN hi hloc rfl (fun s5 S5 => ?_) (.inr hln)
          refine wpAny_mono ((hsu a oe4 cls d (X.pn ++ pins) hz4 ⟨_, hd4⟩).run [] s5 _ H' _ S5 (hyes rfl a na)) (fun f s6 hsp => ?_) (fun _ _ z => False.elim z)
          have end_ : ∀ {σ6 : L2.St} {H6 : Hp} {Q : Shared → Prop}, Inv (X.suite a ((a, oe4) :: (X.pn ++ pins))) [] σ6 H6 s6 → (∀ s7, Inv X pins (σ6.set i none) H6 s7 → Q s7) →
              wpAny (model X.prog X.w) X.A (do bindName X.env n .none; unbindBehindTheSuite X.env n pos') (fun _ s7 => Q s7) X.xe s6 := fun {σ6 H6 Q} S6 hq => gone_ok (S6.unsuite ok) hN hi hln hq
          cases f with
          | next =>
            obtain ⟨σ6, H6, S6, q6⟩ := hsp
            exact end_ S6 fun s7 J7 => ⟨_, _, J7, q6⟩
          | brk =>
            obtain ⟨σ6, H6, S6, q6⟩ := hsp
            exact end_ S6 fun s7 J7 => ⟨_, _, J7, q6⟩
          | cont =>
            obtain ⟨σ6, H6, S6, q6⟩ := hsp
            exact end_ S6 fun s7 J7 => ⟨_, _, J7, q6⟩
          | ret u =>
            obtain ⟨v6, σ6, H6, S6, r6, q6⟩ := hsp
            exact end_ S6 fun s7 J7 => ⟨_, _, _, J7, r6, q6⟩
        | false =>
          show wpAny _ X.A (handleBy (.ref a) X.env hds2) _ _ _
          exact ih (hno rfl)
    exact go hh w
  · cases f with
    | next =>
      obtain ⟨σ', H', J', q⟩ := hsp
      exact wpAny_execs_nil ⟨σ', H', J'.ofTry ok, q⟩
    | brk =>
      obtain ⟨σ', H', J', q⟩ := hsp
      exact ⟨σ', H', J'.ofTry ok, q⟩
    | cont =>
      obtain ⟨σ', H', J', q⟩ := hsp
      exact ⟨σ', H', J'.ofTry ok, q⟩
    | ret u =>
      obtain ⟨v, σ', H', J', r, q⟩ := hsp
      exact ⟨v, σ', H', J'.ofTry ok, r, q⟩
end
end DL
end

section
set_option Elab.async false
set_option linter.all false
set_option maxRecDepth 100000
set_option maxHeartbeats 4000000
/-! DL21: try, its clauses of one `return`; raise C(e, ..). -/
namespace DL
open PySem PySem.Spec PyProof.Rows L2
open Classical
noncomputable section
/-- a denotation that sees the caught exception: class, keys, fields -/
abbrev XDen (α : Type) := Nat → List Nat → List D → Den α
def tX {α β : Type} (T : Tab) (K : PySem.W.Frag) (a : Addr) (cls : Value) (od : Option Addr) (i : Option Nat) (R : Hp → List Addr → α → β → Prop) (f : XDen α) : L2.St → Hp → (β → Hp → Prop) → Prop := fun σ H Q =>
  ∃ c ks fs I m cs env, ER T K I m env σ ∧ SR T K I m cs H ∧ ExR T K I m c ks fs cls od ∧ (∀ j, i = some j → σ[j]? = some (some (.ref a))) ∧ OutG T K R I m (f c ks fs env cs) Q (fun _ _ _ => False)
section
variable {X : Cx} {T : Tab} {a : Addr} {oe : Obj} {pn : List (Addr × Obj)} {cls : Value} {od : Option Addr} {i : Option Nat} {e : Expr} {es : List Expr} {pos p : Pos}
def DX (X : Cx) (T : Tab) (a : Addr) (oe : Obj) (pn : List (Addr × Obj)) (cls : Value) (od : Option Addr) (i : Option Nat) (e : Expr) (f : XDen D) : Prop := PE (X.suite a ((a, oe) :: pn)) e (tX T X.K a cls od i (RD T X.K) f)
def DXs (X : Cx) (T : Tab) (a : Addr) (oe : Obj) (pn : List (Addr × Obj)) (cls : Value) (od : Option Addr) (i : Option Nat) (es : List Expr) (f : XDen (List D)) : Prop := PA (X.suite a ((a, oe) :: pn)) es (tX T X.K a cls od i (RL T X.K) f)
theorem dx_of {f : Den D} (h : DE (X.suite a ((a, oe) :: pn)) T (fun _ _ _ _ => False) e f) : DX X T a oe pn cls od i e (fun _ _ _ => f) :=
  PE.imp h fun σ H Q ⟨_, _, _, I, m, cs, env, er, sr, _, _, h⟩ => ⟨I, m, cs, env, er, sr, h⟩
/-- e.k, e the clause's name -/
def xAt (C k : Nat) : XDen D := fun c ks fs _ cs => if c = C then (match atK k ks fs with
  | some d => .ok d cs
  | none => .no) else .no
theorem dx_attr {j k C : Nat} {n fn : PySem.Str} (inj : ∀ i j, T.nm i = T.nm j → i = j) (hf : T.nm k = fn) (xf : XfC X.K (T.ca C)) (hno : PySem.W.findIn X.K (.ref (T.ca C)) fn = some none) (hz : Zc cls od oe) (hfs : ∃ vs, oe.data = .fields vs)
    (hv : PE (X.suite a ((a, oe) :: pn)) (.Name n p) (tVar j)) (hb : attributeBase (.Name n p) fn X.env (eval (.Name n p) X.env) = eval (.Name n p) X.env := by rfl) :
    DX X T a oe pn cls od (some j) (.Attribute (.Name n p) fn pos) (xAt C k) := by
  subst hf
  refine PE.imp (pe_xf xf hno hz hfs hv hb) ?_
  rintro σ H Q ⟨c, ks, fs, I, m, cs, env, er, sr, xr, hs, h⟩
  refine ⟨.ref a, hs j rfl, rfl, ?_⟩
  unfold xAt at h
  by_cases hc : c = C
  · rw [if_pos hc] at h
    subst hc
    refine ⟨xr.1, ?_⟩
    rcases xr.2 with ⟨_, rfl, rfl⟩ | ⟨dd, gs, h1, h2, h3, h4⟩
    · simp [atK] at h
      exact h.elim
    · cases hk : atK k ks fs with
      | none => simp only [hk] at h; exact h.elim
      | some d =>
        simp only [hk] at h
        obtain ⟨mk, w, h5, h6⟩ := atK_ok inj h3 h4 hk
        exact ⟨dd, gs, w, h1, sr.same _ _ h2, h5, h.okI sr h6⟩
  · rw [if_neg hc] at h; exact h.elim
def xNil : XDen (List D) := fun _ _ _ _ cs => .ok [] cs
def xCons (f : XDen D) (g : XDen (List D)) : XDen (List D) := fun c ks fs env cs => (f c ks fs env cs).bind fun x cs => (g c ks fs env cs).bind fun xs cs => .ok (x :: xs) cs
theorem dxs_nil : DXs X T a oe pn cls od i [] xNil := PA.imp pa_nil fun σ H Q ⟨_, _, _, I, m, cs, env, er, sr, _, _, h⟩ => OutG.okI h sr RpL.nil
theorem dxs_cons {f : XDen D} {g : XDen (List D)} (ha : DX X T a oe pn cls od i e f) (hb : DXs X T a oe pn cls od i es g) (hs : starEach (e :: es) X.env = (false, eval e X.env) :: starEach es X.env := by rfl) : DXs X T a oe pn cls od i (e :: es) (xCons f g) := by
  refine PA.imp (pa_cons ha hb hs) ?_
  rintro σ H Q ⟨c, ks, fs, I, m, cs, env, er, sr, xr, hsl, h⟩
  refine ⟨c, ks, fs, I, m, cs, env, er, sr, xr, hsl, OutG.bindI h fun x cs1 v H1 I1 m1 s1 p1 sr1 r1 h1 => ?_⟩
  refine ⟨c, ks, fs, I1, m1, cs1, env, er.mono s1 p1, sr1, xr.mono s1 p1, hsl, OutG.bindI h1 fun y cs2 u H2 I2 m2 s2 p2 sr2 r2 h2 => ?_⟩
  exact h2.okI sr2 (RpL.cons (r1.mono s2 p2) r2)
def xTup (f : XDen (List D)) : XDen D := fun c ks fs env cs => (f c ks fs env cs).bind fun xs cs => if fits xs.length then .ok (.tup xs) cs else .no
theorem dx_tup {g : XDen (List D)} {j} (h : DXs X T a oe pn cls od i es g) : DX X T a oe pn cls od i (.Tuple es j pos) (xTup g) := by
  refine PE.imp (pe_tup h) ?_
  rintro σ H Q ⟨c, ks, fs, I, m, cs, env, er, sr, xr, hsl, h⟩
  refine ⟨c, ks, fs, I, m, cs, env, er, sr, xr, hsl, OutG.bindI h fun x cs1 v H1 I1 m1 s1 p1 sr1 r1 h1 => ?_⟩
  split at h1
  · rename_i hz
    exact ⟨by rw [← RpL.length r1]; exact hz, fun p hp => rp_newT sr1 hp r1 h1⟩
  · exact h1.elim
end
/-! ### the clauses -/
structure Hd where
  tbl : List (Nat × Bool)
  slot : Option Nat
  f : XDen D
def offE : Option Nat → Env → Env
  | some i, env => env.set i none
  | none, env => env
def slotOk : Option Nat → Env → Bool
  | some i, env => decide (i < env.length)
  | none, _ => true
def sHd : List Hd → Nat → List Nat → List D → SDen
  | [], c, ks, fs => fun env cs => .ex c ks fs env cs
  | h :: r, c, ks, fs => fun env cs => match h.tbl.lookup c with
    | some true => if slotOk h.slot env = true then (match h.f c ks fs (offE h.slot env) cs with
      | .ok d cs => .rt d cs
      | _ => .no) else .no
    | some false => sHd r c ks fs env cs
    | none => .no
def sTry (g : SDen) (hs : List Hd) : SDen := fun env cs => match g env cs with
  | .ex c ks fs env' cs' => sHd hs c ks fs env' cs'
  | o => o
/-- the table tells of each class whether the clause's class takes it -/
def TblOk (T : Tab) (K : PySem.W.Frag) (cv : Value) (tbl : List (Nat × Bool)) : Prop := ∀ p ∈ tbl, PySem.W.exmOne K (.ref (T.ca p.1)) cv = some p.2
theorem TblOk.nil {T : Tab} {K : PySem.W.Frag} {cv : Value} : TblOk T K cv [] := fun _ h => nomatch h
theorem TblOk.cons {T : Tab} {K : PySem.W.Frag} {cv : Value} {n : Nat} {b : Bool} {r : List (Nat × Bool)} (h : PySem.W.exmOne K (.ref (T.ca n)) cv = some b) (hr : TblOk T K cv r) : TblOk T K cv ((n, b) :: r) := fun p hp => by
  rcases List.mem_cons.mp hp with e | e
  · subst e; exact h
  · exact hr p e
inductive HdX (X : Cx) (T : Tab) : List ExceptHandler → List Hd → Prop
  | nil : HdX X T [] []
  | cons {x : PySem.Str} {cv : Value} {e : Expr} {p np pos' : Pos} {hds : List ExceptHandler} {l : List Hd} {tbl : List (Nat × Bool)} {f : XDen D} (hc : Names X x cv) (ht : TblOk T X.K cv tbl)
      (hsu : ∀ (a : Addr) (oe : Obj) (cls : Value) (d : Option Addr) (pn : List (Addr × Obj)), Zc cls d oe → (∃ vs, oe.data = .fields vs) → DX X T a oe pn cls d none e f) (r : HdX X T hds l) :
      HdX X T (.ExceptHandler (some (.Name x np)) none [.Return (some e) p] pos' :: hds) (⟨tbl, none, f⟩ :: l)
  | consA {x n : PySem.Str} {i : Nat} {cv : Value} {e : Expr} {p np pos' : Pos} {hds : List ExceptHandler} {l : List Hd} {tbl : List (Nat × Bool)} {f : XDen D} (hi : X.N[i]? = some n) (hln : X.env.kindOf n = some .local) (hc : Names X x cv) (ht : TblOk T X.K cv tbl)
      (hsu : ∀ (a : Addr) (oe : Obj) (cls : Value) (d : Option Addr) (pn : List (Addr × Obj)), Zc cls d oe → (∃ vs, oe.data = .fields vs) → DX X T a oe pn cls d (some i) e f) (r : HdX X T hds l) :
      HdX X T (.ExceptHandler (some (.Name x np)) (some n) [.Return (some e) p] pos' :: hds) (⟨tbl, some i, f⟩ :: l)
section
variable {X : Cx} {T : Tab} {W : WX} {pos : Pos}
theorem hd_all {hds : List ExceptHandler} {hs : List Hd} (h : HdX X T hds hs) : ∃ l : List Cl, HdA X hds l ∧
    ∀ (D : Ends) (c : Nat) (ks : List Nat) (fs : List DL.D) (env : Env) (cs : List Cell) (I : Hp) (m : List Addr) (cls : Value) (od : Option Addr) (σ : L2.St) (H : Hp), ER T X.K I m env σ → SR T X.K I m cs H → ExR T X.K I m c ks fs cls od →
      SOk T X.K W I m (sHd hs c ks fs env cs) D → wCl X.K W D l cls od σ H := by
  induction h with
  | nil =>
    refine ⟨[], .nil, fun D c ks fs env cs I m cls od σ H er sr xr h => ?_⟩
    exact h cls od σ H I m (Same.refl I) (List.prefix_refl _) sr er xr
  | @cons x cv e p np pos' hds l tbl f hc ht hsu r ih =>
    obtain ⟨l', hA, ih⟩ := ih
    refine ⟨(cv, none, fun a cls d => fun D σ H => tX T X.K a cls d none (RD T X.K) f σ H D.rt) :: l', .cons hc (fun a oe cls d pn hz hf => pss_one (ps_ret (hsu a oe cls d pn hz hf))) hA, ?_⟩
    intro D c ks fs env cs I m cls od σ H er sr xr h
    unfold sHd at h
    cases ht2 : tbl.lookup c with
    | none => simp only [ht2] at h; exact h.elim
    | some b =>
      have hex : PySem.W.exmOne X.K cls cv = some b := by
        rw [xr.1]
        exact ht (c, b) (mem_lk ht2)
      refine ⟨b, hex, fun hb a _ => ?_, fun hb => ?_⟩
      · subst hb
        simp only [ht2] at h
        refine ⟨c, ks, fs, I, m, cs, env, er, sr, xr, (fun j z => nomatch z), ?_⟩
        show OutG T X.K (RD T X.K) I m (f c ks fs env cs) D.rt _
        rw [if_pos (show slotOk none env = true from rfl)] at h
        change SOk T X.K W I m (match f c ks fs env cs with
          | .ok d cs => SO.rt d cs
          | _ => .no) D at h
        cases hf : f c ks fs env cs with
        | ok d cs1 =>
          rw [hf] at h
          exact fun v H' I' m' s p sr' r' => h v H' I' m' s p sr' r'
        | exn => rw [hf] at h; exact h.elim
        | no => rw [hf] at h; exact h.elim
      · subst hb
        simp only [ht2] at h
        exact ih D c ks fs env cs I m cls od σ H er sr xr h
  | @consA x n i cv e p np pos' hds l tbl f hi hln hc ht hsu r ih =>
    obtain ⟨l', hA, ih⟩ := ih
    refine ⟨(cv, some i, fun a cls d => fun D σ H => tX T X.K a cls d (some i) (RD T X.K) f σ H D.rt) :: l', .consA hi hln hc (fun a oe cls d pn hz hf => pss_one (ps_ret (hsu a oe cls d pn hz hf))) hA, ?_⟩
    intro D c ks fs env cs I m cls od σ H er sr xr h
    unfold sHd at h
    cases ht2 : tbl.lookup c with
    | none => simp only [ht2] at h; exact h.elim
    | some b =>
      have hex : PySem.W.exmOne X.K cls cv = some b := by
        rw [xr.1]
        exact ht (c, b) (mem_lk ht2)
      refine ⟨b, hex, fun hb a _ => ?_, fun hb => ?_⟩
      · subst hb
        simp only [ht2] at h
        by_cases hso : slotOk (some i) env = true
        rotate_left
        · rw [if_neg hso] at h; exact h.elim
        rw [if_pos hso] at h
        have hi2 : i < σ.length := by rw [← er.len]; exact of_decide_eq_true hso
        refine ⟨c, ks, fs, I, m, cs, env.set i none, er.setN, sr, xr, fun j z => ?_, ?_⟩
        · cases z
          exact List.getElem?_set_self hi2
        · show OutG T X.K (RD T X.K) I m (f c ks fs (env.set i none) cs) D.rt _
          change SOk T X.K W I m (match f c ks fs (env.set i none) cs with
            | .ok d cs => SO.rt d cs
            | _ => .no) D at h
          cases hf : f c ks fs (env.set i none) cs with
          | ok d cs1 =>
            rw [hf] at h
            exact fun v H' I' m' s p sr' r' => h v H' I' m' s p sr' r'
          | exn => rw [hf] at h; exact h.elim
          | no => rw [hf] at h; exact h.elim
      · subst hb
        simp only [ht2] at h
        exact ih D c ks fs env cs I m cls od σ H er sr xr h
theorem ds_try {body : List Stmt} {h₀ : ExceptHandler} {hds : List ExceptHandler} {hs : List Hd} {g : SDen} (hs' : X.stack = X.env :: X.outer) (hf : X.env.frame = some X.env.locals) (hN : X.N.Nodup) (tk : Takes X W)
    (hb : ∀ (W : WX) (pn : List (Addr × Obj)) (xe : Value → Shared → Prop), Takes (X.tr pn xe) W → DSs (X.tr pn xe) T W body g) (hh : HdX X T (h₀ :: hds) hs) : DS X T W (.Try body (h₀ :: hds) [] [] pos) (sTry g hs) := by
  obtain ⟨l, hA, hl⟩ := hd_all (W := W) hh
  refine PS.imp (ps_tryA (tb := fun W => tS T X.K W g) hs' hf hN tk (fun W pn xe tk _ => hb W pn xe tk) hA) ?_
  rintro B σ H ⟨I, m, cs, env, er, sr, h⟩
  refine ⟨I, m, cs, env, er, sr, ?_⟩
  unfold sTry at h
  cases hg : g env cs with
  | ex c ks fs env' cs' =>
    rw [hg] at h
    intro cls od σ' H' I' m' s p sr' er' xr
    exact hl B c ks fs env' cs' I' m' cls od σ' H' er' sr' xr (SOk.up s p h)
  | nx => rw [hg] at h; exact h
  | rt => rw [hg] at h; exact h
  | bk => rw [hg] at h; exact h
  | ct => rw [hg] at h; exact h
  | no => rw [hg] at h; exact h
end
end
end DL
end

section
set_option Elab.async false
set_option linter.all false
set_option maxRecDepth 100000
set_option maxHeartbeats 4000000
/-! DL22: raise C(e, ..), C an own class whose __init__ keeps its arguments. -/
namespace DL
open PySem PySem.Spec PyProof.Rows L2
open Classical
noncomputable section
/-- what such an __init__ promises -/
def spI (K : PySem.W.Frag) (fns : List PySem.Str) : Sp := fun vs H Q _ => ∃ (a C : Addr) (ws : List V), vs = .ref a :: ws ∧ ws.length = fns.length ∧ OexC K C ∧ (∀ f ∈ fns, PySem.W.findIn K (.ref C) f = some none) ∧ H a = some (exo a C none) ∧
  ∀ (dx : Addr) (H2 : Hp), H dx = none → dx ≠ a → H2 a = some (exo a C (some dx)) → H2 dx = some (exd dx (fns.zip ws).reverse) → (∀ b, b ≠ a → b ≠ dx → H2 b = H b) → Q .non H2
section
variable {P : Program} {w : World} {K : PySem.W.Frag} {mg : PySem.Str → Option Value} {base : Heap}
theorem init1 {x qual : PySem.Str} {params : Arguments} {scope : Scope} {f : Addr} {fd : FuncData} {p fn : PySem.Str} {q1 q2 q3 q4 : Pos} (F : FunD K x qual params [.Assign [.Attribute (.Name "self" q1) fn q2] (.Name p q3) q4] scope [] [] f fd) (S : FnScope ["self", p] ["self", p] scope)
    (v0 : Vis scope "self") (v1 : Vis scope p) (d1 : (p == ("__debug__" : PySem.Str)) = false) (d2 : (p == ("__classdict__" : PySem.Str)) = false) : FnOk P w K mg base (L2.CX P w) 1 f fd ["self", p] (spI K [fn]) := by
  refine F.ok S (fun vs H Q E h => ?_) fun cdv A outer s H vs Q E hr h => ⟨_, pss_one (ps_ost (pe_var (i := 0) rfl v0) (pe_var (i := 1) rfl v1 d1 d2)), ?_⟩
  · obtain ⟨a, C, ws, rfl, hl, _⟩ := h
    simp at hl ⊢; omega
  · obtain ⟨a, C, ws, rfl, hl, T, hno, ea, h⟩ := h
    match ws, hl with
    | [y], _ =>
      refine ⟨y, rfl, .ref a, rfl, a, C, rfl, T, hno fn (by simp), .inl ⟨ea, fun dx hn ne => ?_⟩⟩
      refine h dx _ hn ne upd_same ?_ fun b h1 h2 => ?_
      · rw [upd_ne ne, upd_same]; rfl
      · rw [upd_ne h1, upd_ne h2]
theorem init2 {x qual : PySem.Str} {params : Arguments} {scope : Scope} {f : Addr} {fd : FuncData} {p r fn gn : PySem.Str} {q1 q2 q3 q4 q5 q6 q7 q8 : Pos}
    (F : FunD K x qual params [.Assign [.Attribute (.Name "self" q1) fn q2] (.Name p q3) q4, .Assign [.Attribute (.Name "self" q5) gn q6] (.Name r q7) q8] scope [] [] f fd) (S : FnScope ["self", p, r] ["self", p, r] scope)
    (v0 : Vis scope "self") (v1 : Vis scope p) (d1 : (p == ("__debug__" : PySem.Str)) = false) (d2 : (p == ("__classdict__" : PySem.Str)) = false) (v2 : Vis scope r) (d3 : (r == ("__debug__" : PySem.Str)) = false) (d4 : (r == ("__classdict__" : PySem.Str)) = false) : FnOk P w K mg base (L2.CX P w) 1 f fd ["self", p, r] (spI K [fn, gn]) := by
  refine F.ok S (fun vs H Q E h => ?_) fun cdv A outer s H vs Q E hr h => ⟨_, pss_cons (ps_ost (pe_var (i := 0) rfl v0) (pe_var (i := 1) rfl v1 d1 d2)) (pss_one (ps_ost (pe_var (i := 0) rfl v0) (pe_var (i := 2) rfl v2 d3 d4))), ?_⟩
  · obtain ⟨a, C, ws, rfl, hl, _⟩ := h
    simp at hl ⊢; omega
  · obtain ⟨a, C, ws, rfl, hl, T, hno, ea, h⟩ := h
    match ws, hl with
    | [y, z], _ =>
      refine ⟨y, rfl, .ref a, rfl, a, C, rfl, T, hno fn (by simp), .inl ⟨ea, fun dx hn ne => ?_⟩⟩
      refine ⟨z, rfl, .ref a, rfl, a, C, rfl, T, hno gn (by simp), .inr ⟨dx, [(fn, y)], upd_same, by rw [upd_ne ne, upd_same], by simp, ?_⟩⟩
      refine h dx _ hn ne ?_ ?_ fun b h1 h2 => ?_
      · rw [upd_ne (Ne.symm ne), upd_same]
      · rw [upd_same]; rfl
      · rw [upd_ne h2, upd_ne h1, upd_ne h2]
end
/-- an own exception class c that keeps its arguments under the keys ks -/
structure EX (P : Program) (w : World) (K : PySem.W.Frag) (mg : PySem.Str → Option Value) (base : Heap) (T : Tab) (c : Nat) (ks : List Nat) : Prop where
  oex : OexC K (T.ca c)
  no : ∀ f ∈ ks.map T.nm, PySem.W.findIn K (.ref (T.ca c)) f = some none
  ini : ∃ f fd ps, PySem.W.findIn K (.ref (T.ca c)) "__init__" = some (some (.ref f)) ∧ PySem.W.typeIn K (.ref f) = some (.type "function") ∧ FnOk P w K mg base (L2.CX P w) 1 f fd ps (spI K (ks.map T.nm)) ∧ Binds K fd ps []
def sRaise (c : Nat) (ks : List Nat) (g : Den (List D)) : SDen := fun env cs => (g env cs).bindS env fun ds cs => if ds.length = ks.length ∧ few ds.length then .ex c ks.reverse ds.reverse env cs else .no
section
variable {X : Cx} {T : Tab} {W : WX} {e : Expr} {es : List Expr} {p pos pos' : Pos}
theorem ds_raise {c j : Nat} {ks : List Nat} {x : PySem.Str} {g : Den (List D)} (hc : X.calm = true) (tk : Takes X W) (Z : EX X.prog X.w X.K X.mg X.base T c ks) (hr : Room j X.A) (hm : X.mg x = some (.ref (T.ca c))) (ha : DA X T W (e :: es) g) (hj : 2 ≤ j := by decide) (hg : Gl X x := by rfl)
    (hdb : (x == ("__debug__" : PySem.Str)) = false := by decide) (he : starEach (e :: es) X.env = (false, eval e X.env) :: starEach es X.env := by rfl) (hpl : (backTo pos (starEach es X.env)).any (·.1) = false := by rfl) :
    DS X T W (.Raise (some (.Call (.Name x p) (e :: es) [] pos)) none pos') (sRaise c ks g) := by
  obtain ⟨f, fd, ps, i1, i2, F, hb⟩ := Z.ini
  refine PS.imp (ps_raise hc tk (pmk_oex (ds := []) (dvs := []) Z.oex i1 i2 F (hr.mono hj) hb .nil pass_no hg hm ha hdb he hpl)) ?_
  rintro B σ H ⟨I, m, cs, env, er, sr, h⟩
  refine ⟨I, m, cs, env, er, sr, SOk.bindE h er fun ds cs1 vs H1 I1 m1 s1 p1 sr1 r1 h1 => ?_⟩
  by_cases hz : ds.length = ks.length ∧ few ds.length
  · rw [if_pos hz] at h1
    have lv : vs.length = ks.length := by rw [← r1.length]; exact hz.1
    have fw : vs.length ≤ 1000 := by rw [← r1.length]; exact Nat.le_of_lt hz.2
    refine ⟨fw, fun a hn => ⟨a, T.ca c, vs, by rw [List.append_nil], by rw [List.length_map]; exact lv, Z.oex, Z.no, upd_same, fun dx H2 hdx ne ea ed hrest => ?_⟩⟩
    have hd1 : H1 dx = none := by rw [upd_ne ne] at hdx; exact hdx
    refine ⟨rfl, dx, _, ea, ed, hd1, ?_⟩
    have eH : upd (del H2 a) dx (.xd ((ks.map T.nm).zip vs).reverse) = upd H1 dx (.xd ((ks.map T.nm).zip vs).reverse) := by
      funext b
      by_cases hb1 : b = dx
      · subst hb1; rw [upd_same, upd_same]
      · rw [upd_ne hb1, upd_ne hb1]
        by_cases hb2 : b = a
        · subst hb2; rw [del_same, hn]
        · rw [del_ne hb2, hrest b hb2 hb1, upd_ne hb2]
    rw [eH]
    obtain ⟨sr2, s2⟩ := sr1.newI (o := .xd ((ks.map T.nm).zip vs).reverse) hd1
    refine h1 (.ref (T.ca c)) (some dx) σ _ _ _ s2 (List.prefix_refl _) sr2 ((er.mono s1 p1).mono s2 (List.prefix_refl _)) ⟨rfl, .inr ⟨dx, _, rfl, upd_same, ?_, ?_⟩⟩
    · rw [List.map_reverse, zip_fst _ _ (by rw [List.length_map]; exact lv.symm), List.map_reverse]
    · rw [List.map_reverse, zip_snd _ _ (by rw [List.length_map]; exact lv.symm)]
      exact (RpL.mono s2 (List.prefix_refl _) r1).reverse
  · rw [if_neg hz] at h1; exact h1.elim
end
section
variable {fa : List He.Fa} {fn : List He.DefD} {fb : List Fb} {K : PySem.W.Frag} {mg : PySem.Str → Option Value}
theorem Kn.xcls (z : Kn fa fn fb K mg) (i : Nat) {x : PySem.Str} (h : fb[i]? = some (.xcls x) := by rfl) : OexC K (He.ga K x) ∧ XfC K (He.ga K x) ∧ PySem.W.findIn K (.ref (He.ga K x)) "__init__" = some (some (.ref (He.ma K (He.ga K x) "__init__"))) ∧ PySem.W.typeIn K (.ref (He.ma K (He.ga K x) "__init__")) = some (.type "function") := by
  obtain ⟨h1, h2⟩ := He.ba (z.fb_ i h)
  obtain ⟨h3, h4⟩ := He.ba h2
  obtain ⟨h5, h6⟩ := He.ba h4
  exact ⟨oexB_ok h1, xfB_ok h3, He.eqO_ok h5, of_decide_eq_true h6⟩
end
end
end DL
end

section
set_option Elab.async false
set_option linter.all false
set_option maxRecDepth 100000
set_option maxHeartbeats 4000000
/-! DL23: x(lambda: e), x a def whose body is try: a() / except ..: return .. and a rest. -/
namespace DL
open PySem PySem.Spec PyProof.Rows L2 LamX
open Classical
noncomputable section
section
variable {T : Tab} {K : PySem.W.Frag} {I H H1 : Hp} {m : List Addr} {cs : List Cell}
theorem SR.extN (s : SR T K I m cs H) (ht : T.tb ≠ []) (e : ExtN H H1) (t : Tabs T.tb H1) : SR T K I m cs H1 :=
  ⟨fun b u z => e b u (s.same b u z) fun ps q => s.ntb ht b ps (by rw [z, q]), s.len, fun n c h l => let ⟨a, o, q1, q2, q3, q4⟩ := s.at_ n c h l; ⟨a, o, q1, q2, e a o q3 q4.plain.1, q4⟩, s.inj, t, s.ntb⟩
/-- a thing of the heap, known from now on -/
theorem SR.know {p : Addr} {f : Heap → Prop} (s : SR T K I m cs H) (e : H p = some (.ext f)) : SR T K (L2.upd I p (.ext f)) m cs H ∧ Same I (L2.upd I p (.ext f)) := by
  refine ⟨⟨fun b u z => ?_, s.len, fun n c h l => ?_, s.inj, s.tabs, fun ht b ps z => ?_⟩, fun b u z => ?_⟩
  · by_cases hb : b = p
    · subst hb; rw [upd_same] at z; rw [e, ← z]
    · rw [upd_ne hb] at z; exact s.same b u z
  · obtain ⟨a, o, q1, q2, q3, q4⟩ := s.at_ n c h l
    have hb : a ≠ p := fun z => by
      rw [z, e] at q3
      exact q4.plain.2 f (Option.some.inj q3).symm
    exact ⟨a, o, q1, by rw [upd_ne hb]; exact q2, q3, q4.mono (fun b u z => by
      by_cases hb : b = p
      · subst hb; rw [upd_same, ← e, s.same b u z]
      · rw [upd_ne hb]; exact z) (List.prefix_refl _)⟩
  · by_cases hb : b = p
    · subst hb; rw [upd_same] at z; cases z
    · rw [upd_ne hb] at z; exact s.ntb ht b ps z
  · by_cases hb : b = p
    · subst hb; rw [upd_same, ← e, s.same b u z]
    · rw [upd_ne hb]; exact z
end
section
variable {X : Cx} {pins : List (Addr × Obj)} {σ : L2.St} {H HZ : Hp} {s s1 : Shared}
/-- a(), in the def that got the lambda, its exceptions told of the very state -/
theorem act_here {CXg : CXT} {Eg : XK} {Ng : List PySem.Str} {qg : PySem.Str} {sg : Scope} {g f c' : Addr} {cdg pm ctv : Value} {params : Arguments} {body : Expr} {scope : Scope} {k i : Nat} {a : PySem.Str} {pn : List (Addr × Obj)} {xe : Value → Shared → Prop} {W : WX} {tb : XK → TE} {p1 p2 : Pos}
    (I : Inv X pins σ H s) (L : LamS X.env.scope scope) (hf : s.heap.get? f = some (PySem.W.kla_obj "<lambda>" (X.env.qual ++ "<lambda>") params body scope (cloFrom X.env.cells scope.names []) pm c' ctv)) (hfn : H f = none) (hfr : f ∉ frs X.stack)
    (hbind : bindArgs (PySem.W.kla_fn "<lambda>" (X.env.qual ++ "<lambda>") params body scope (cloFrom X.env.cells scope.names []) pm (.ref c') ctv) ⟨[], []⟩ = pure [])
    (tk : Takes ((cxOf CXg X.prog X.w X.K X.mg X.base Ng qg sg g cdg X.A X.stack s H Eg).tr pn xe) W) (hr : Room (k + 1) (X.A.deeper (envOfC qg sg s.heap.objs.size g cdg)))
    (hbody : ∀ (A : Around) (outer : List PySem.Env) (s : Shared) (H : Hp) (E : XK), Room k (A.deeper (lamEnv X scope s.heap.objs.size f c')) → PE (lamCx X A outer s H E scope f c') body (tb E))
    (hN : Ng[i]? = some a) (hv : Vis sg a) (hd : (a == ("__debug__" : PySem.Str)) = false := by decide) (hcd : (a == ("__classdict__" : PySem.Str)) = false := by decide) :
    PE ((cxOf CXg X.prog X.w X.K X.mg X.base Ng qg sg g cdg X.A X.stack s H Eg).tr pn xe) (.Call (.Name a p1) [] [] p2)
      (fun σZ HZ Q => σZ[i]? = some (some (.ref f)) ∧ HZ c' = some (CodeO c' (X.env.qual ++ "<lambda>")) ∧ tb (WE W σZ) σ HZ Q) := by
  refine ⟨fun pinsZ sZ σZ HZ Q IZ h => ?_⟩
  obtain ⟨hs, hc, ht⟩ := h
  refine wpAny_Call_Name_kw (thn ((pe_var (pos := p1) (i := i) hN hv hd hcd).run pinsZ sZ σZ HZ (fun v H1 => v = .ref f ∧ H1 = HZ) IZ ⟨.ref f, hs, rfl, rfl⟩) fun u s1 ⟨v, H1, I1, r1, q1⟩ => ?_)
  obtain ⟨ev, eH⟩ := q1
  subst ev
  rw [eH] at I1
  obtain rfl : u = Value.ref f := r1
  have of1 : s1.heap.get? f = some (PySem.W.kla_obj "<lambda>" (X.env.qual ++ "<lambda>") params body scope (cloFrom X.env.cells scope.names []) pm c' ctv) := I1.base.keep f _ hf hfn hfr (fun z => nomatch (show f ∈ ([] : List Addr) from z))
  refine PySem.W.callWith_F0 ⟨_, _, _, _, of1⟩ ?_
  have un : Un (frs X.stack) [] H HZ s.heap s1.heap := I1.base
  obtain ⟨⟨oc, vs, t, hoc, hdc, hvc⟩, _, _⟩ := I1.hok c' _ hc
  have rc : codeAny (model X.prog X.w) (X.A.deeper (envOfC qg sg s.heap.objs.size g cdg)) (.call (.ref f) ⟨[], []⟩) (CR (L2.CX X.prog X.w) (envOfC qg sg s.heap.objs.size g cdg :: X.stack) X.prog X.w HZ s1 Q (WE W σZ)) s1 := by
    refine PySem.W.kla_callFunE hr.depth of1 rfl L.co L.gen rfl ⟨c', oc, vs, t, rfl, hoc, hdc, hvc⟩ ?_
    rw [hbind]
    refine wpAny_pure (wpAny_newFunctionEnv (fun y hy => (L.own y hy).2) (fun y hy => absurd hy (by simp)) (fun h₁ hns hsb => ⟨I1.nolimit.fresh _ hsb, ?_⟩) L.kind)
    show codeAny _ _ (.expr body (lamEnv X scope s1.heap.objs.size f c')) _ _
    have kp : ∀ b o, s1.heap.get? b = some o → h₁.get? b = some o := fun b o e => hsb.extBut b o (Nat.ne_of_lt (Heap.lt_size e)) (Heap.get?_push_of_some _ e)
    have J : Inv (lamCx X (X.A.deeper (envOfC qg sg s.heap.objs.size g cdg)) (envOfC qg sg s.heap.objs.size g cdg :: X.stack) s1 HZ (WE W σZ) scope f c') [] σ HZ { s1 with heap := h₁, toks := s1.toks + ([] : List (PySem.Str × Value)).length } :=
      lam_start2 I L I1.env0 hr.hd un hns kp
    refine PySem.W.kla_codeExpr (wpAny_mono ((hbody _ _ s1 HZ (WE W σZ) (hr.deeper _)).run [] _ _ HZ Q J ht) (fun v s' hq => ?_) fun e s' hq => hq)
    obtain ⟨w', H', J', rv, q⟩ := hq
    exact ⟨w', H', J'.os, J'.bare, J'.base, J'.hok, rv, q⟩
  have hx := passAt tk σZ
  refine wpAny_call (codeAny_mono rc fun r s' hq => ?_)
  cases r with
  | error e => exact hx pinsZ HZ s1 e s' I1 hq
  | ok fl =>
    cases fl with
    | ret u => exact I1.after hq
    | next => exact False.elim hq
    | brk => exact False.elim hq
    | cont => exact False.elim hq
end
/-- the def's context: nothing leaves it -/
abbrev zCx (X : Cx) (Ng : List PySem.Str) (x : PySem.Str) (sg : Scope) (g : Addr) (cdg : Value) (s : Shared) (H : Hp) : Cx := cxOf C8.CX0 X.prog X.w X.K X.mg X.base Ng x sg g cdg X.A X.stack s H C8.E0
/-- the def that calls what it got -/
def Gives (X : Cx) (Ng : List PySem.Str) (x : PySem.Str) (sg : Scope) (g : Addr) (cdg : Value) (bg : List Stmt) (a : PySem.Str) (q : PySem.Str) (TT : (XK → Hp → VK → Prop) → Hp → VK → Prop) : Prop :=
  ∀ (f c' : Addr) (s : Shared) (H : Hp) (Q : VK) (tl : XK → Hp → VK → Prop),
    (∀ (W : WX) (pn : List (Addr × Obj)) (xe : Value → Shared → Prop) (p1 p2 : Pos), Takes ((zCx X Ng x sg g cdg s H).tr pn xe) W →
      PE ((zCx X Ng x sg g cdg s H).tr pn xe) (.Call (.Name a p1) [] [] p2) (fun σZ HZ Q => σZ[0]? = some (some (.ref f)) ∧ HZ c' = some (CodeO c' q) ∧ tl (WE W σZ) HZ Q)) →
    H c' = some (CodeO c' q) → TT tl H Q →
    ∃ t, PSs (zCx X Ng x sg g cdg s H).nox bg t ∧ t { nx := fun _ H' => Q .non H', rt := Q } (L2.start Ng [.ref f]) H
section
variable {X : Cx}
/-- x(lambda: body) -/
theorem pe_lamS {T : List (Addr × PySem.Str)} {TT : (XK → Hp → VK → Prop) → Hp → VK → Prop} {x a : PySem.Str} {g c P : Addr} {k : Nat} {pg : Arguments} {bg : List Stmt} {sg : Scope} {dV kV doc pm cdv ct oc : Value} {an od : Option Addr} {osl : Array (Option Value)} {Ng : List PySem.Str}
    {params : Arguments} {body : Expr} {scope : Scope} {t : XK → TE} {p lpos pos : Pos} (hg : Gl X x) (hm : X.mg x = some (.ref g)) (hk : PySem.W.keepIn X.K (.ref g) = true)
    (lk : X.K.lookup g = some ⟨oc, od, .func (PySem.W.fnOf x x pg bg sg dV kV doc pm an cdv ct), osl⟩) (hcg : PySem.W.codeIn X.K cdv x = true) (hb : L2.Binds X.K (PySem.W.fnOf x x pg bg sg dV kV doc pm an cdv ct) [a] []) (Sg : FnScope Ng [a] sg) (hNg : Ng[0]? = some a) (hva : Vis sg a)
    (hG : Gives X Ng x sg g cdv bg a (X.env.qual ++ "<lambda>") TT)
    (TB : TabB X.base X.mg c P) (hcode : X.env.code = .ref c) (hmT : (P, X.env.qual ++ "<lambda>") ∈ T) (hu : ∀ p ∈ T, p.1 = P → p.2 = X.env.qual ++ "<lambda>") (hr : Room (k + 2) X.A) (L : LamS X.env.scope scope) (hdef : defaultsOf params X.env = ([], []))
    (hbind : ∀ (q : PySem.Str) (cl : List (PySem.Str × Addr)) (pm cv ctv : Value), bindArgs (PySem.W.kla_fn "<lambda>" q params body scope cl pm cv ctv) ⟨[], []⟩ = pure [])
    (hbody : ∀ (A : Around) (outer : List PySem.Env) (s : Shared) (H : Hp) (E : XK) (f c' : Addr), Room k (A.deeper (lamEnv X scope s.heap.objs.size f c')) → PE (lamCx X A outer s H E scope f c') body (t E))
    (hdb : (x == ("__debug__" : PySem.Str)) = false := by decide) (hd : (a == ("__debug__" : PySem.Str)) = false := by decide) (hcd : (a == ("__classdict__" : PySem.Str)) = false := by decide) :
    PE X (.Call (.Name x p) [.Lambda params body scope lpos] [] pos) (tLam T TT t) := by
  refine ⟨fun pins s σ H Q I h => ?_⟩
  obtain ⟨hT, h⟩ := h
  refine wpAny_Call_Name_kw (ld_glob I hg hm ?_ hdb)
  refine PySem.W.callWith_K (h₀ := X.base) I.ok.mod.kin hk ?_ (by rfl) (by rfl)
  show wpAny _ _ (spliced ((false, eval (.Lambda params body scope lpos) X.env) :: backTo pos (starEach [] X.env))) _ _ s
  refine Calls.spliced_cons (lam_make2 I TB hcode hmT hu hT hdef (L.has I.ok) fun f c' pm' ctv H1 s' I1 eN T1 hf hfn hfr hco => ?_)
  refine Calls.spliced_nil ⟨I1.kIn, ?_⟩
  have rc : codeAny (model X.prog X.w) X.A (.call (.ref g) ⟨[.ref f], []⟩) (CR C8.CX0 X.stack X.prog X.w H1 s' Q C8.E0) s' := by
    refine run_ofS (N := Ng) (ps := [a]) (us := [.ref f]) (vs := [.ref f]) lk hcg Sg hr I1.env0 (hb s' [.ref f] I1.kIn rfl) (.cons rfl .nil) rfl fun hr' => ?_
    obtain ⟨t', ht', hq'⟩ := hG f c' s' H1 Q (fun E H' Q' => t E σ H' Q') (fun W pn xe p1 p2 tk => act_here (i := 0) I1 L hf hfn hfr (hbind _ _ _ _ _) tk hr' (fun A outer s H E hr2 => hbody A outer s H E f c' hr2) hNg hva hd hcd) hco (h H1 eN T1)
    exact ⟨t', ht'.nox, hq'⟩
  refine wpAny_call (codeAny_mono rc fun r s2 hq => ?_)
  cases r with
  | error e => exact (show False from hq).elim
  | ok fl =>
    cases fl with
    | ret u => exact I1.after hq
    | next => exact False.elim hq
    | brk => exact False.elim hq
    | cont => exact False.elim hq
end
end
end DL
end

section
set_option Elab.async false
set_option linter.all false
set_option maxRecDepth 100000
set_option maxHeartbeats 4000000
/-! DL24: x(lambda: e) by denotations. -/
namespace DL
open PySem PySem.Spec PyProof.Rows L2 LamX
open Classical
noncomputable section
/-- the action's statement -/
def sAct (act : List Cell → Out D) : SDen := fun env cs => (act cs).bindS env fun _ cs => .nx env cs
/-- what the def makes of an action: try: a() / clauses, then g -/
def dActF (n : Nat) (hs : List Hd) (g : SDen) (act : List Cell → Out D) : List Cell → Out D := fun cs => match finS cs (sSeq (sTry (sAct act) hs) g (List.replicate n none) cs) with
  | .ok d cs => .ok d cs
  | _ => .no
/-- the reading of such a def: act is what the action comes to -/
def TTd (T : Tab) (K : PySem.W.Frag) (n : Nat) (hs : List Hd) (g : SDen) : (XK → Hp → VK → Prop) → Hp → VK → Prop := fun tl H Q =>
  ∃ I m cs act, SR T K I m cs H ∧ (∀ I' m' cs' H' Q' E', Same I I' → m <+: m' → SR T K I' m' cs' H' → OutG T K (RD T K) I' m' (act cs') Q' E' → tl E' H' Q') ∧ OutG T K (RD T K) I m (dActF n hs g act cs) Q (fun _ _ _ => False)
theorem er_none {T : Tab} {K : PySem.W.Frag} {I : Hp} {m : List Addr} {σ : L2.St} {n : Nat} (h : σ.length = n) : ER T K I m (List.replicate n none) σ := ⟨by simp [h], fun i d e => by
  rw [List.getElem?_replicate] at e
  split at e <;> cases e⟩
section
variable {X : Cx} {T : Tab}
theorem act_gives {Ng : List PySem.Str} {x a q : PySem.Str} {sg : Scope} {g : Addr} {cdg : Value} {p1 p2 p3 pos : Pos} {h₀ : ExceptHandler} {hds : List ExceptHandler} {rest : List Stmt} {hs : List Hd} {gd : SDen} (hnd : Ng.Nodup) (hlen : 1 ≤ Ng.length)
    (hh : ∀ (s : Shared) (H : Hp), HdX (zCx X Ng x sg g cdg s H).nox T (h₀ :: hds) hs) (hr : ∀ (s : Shared) (H : Hp), DSs (zCx X Ng x sg g cdg s H).nox T (fun _ _ _ _ => False) rest gd) (hsw : ∀ (s : Shared) (H : Hp) (pn : List (Addr × Obj)) (xe : Value → Shared → Prop), swapsWith (.Call (.Name a p1) [] [] p2) none p3.line ((zCx X Ng x sg g cdg s H).nox.tr pn xe).env = pure false) :
    Gives X Ng x sg g cdg (.Try [.Expr (.Call (.Name a p1) [] [] p2) p3] (h₀ :: hds) [] [] pos :: rest) a q (TTd T X.K Ng.length hs gd) := by
  intro f c' s H Q tl act hc hTT
  obtain ⟨I, m, cs, actd, sr, htl, ho⟩ := hTT
  obtain ⟨l, hA, hl⟩ := hd_all (W := fun _ _ _ _ => False) (hh s H)
  have hs0 : (L2.start Ng [V.ref f])[0]? = some (some (V.ref f)) := rfl
  have ls : (L2.start Ng [V.ref f]).length = Ng.length := by unfold L2.start; simp; omega
  have er := er_none (T := T) (K := X.K) (I := I) (m := m) ls
  refine ⟨_, pss_cons (ps_tryA (X := (zCx X Ng x sg g cdg s H).nox) (tb := fun W D σ H => σ[0]? = some (some (V.ref f)) ∧ H c' = some (CodeO c' q) ∧ tl (WE W σ) H (fun _ H1 => D.nx σ H1)) rfl rfl hnd L2.takes0
    (fun W pn xe tk _ => pss_one (ps_expr (act W pn xe p1 p2 tk) (hsw s H pn xe))) hA) (hr s H), hs0, hc, ?_⟩
  have ho' : OutG T X.K (RD T X.K) I m (finS cs (sSeq (sTry (sAct actd) hs) gd (List.replicate Ng.length none) cs)) Q (fun _ _ _ => False) := by
    unfold dActF at ho
    cases hf : finS cs (sSeq (sTry (sAct actd) hs) gd (List.replicate Ng.length none) cs) with
    | ok d cs1 => rw [hf] at ho; exact ho
    | exn => rw [hf] at ho; exact ho.elim
    | no => rw [hf] at ho; exact ho.elim
  have hk := sok_fin sr ho'
  refine htl I m cs H _ _ (Same.refl I) (List.prefix_refl _) sr ?_
  unfold sSeq sTry sAct at hk
  cases ha : actd cs with
  | ok d cs1 =>
    simp only [ha, Out.bindS] at hk
    intro v H' I' m' s1 p1 sr1 r1
    exact ⟨I', m', cs1, _, er.mono s1 p1, sr1, SOk.up s1 p1 hk⟩
  | exn c ks fs cs1 =>
    simp only [ha, Out.bindS] at hk
    intro cls od H' I' m' s1 p1 sr1 xr
    refine hl _ c ks fs _ cs1 I' m' cls od _ H' (er.mono s1 p1) sr1 xr ?_
    cases hq : sHd hs c ks fs (List.replicate Ng.length none) cs1 with
    | nx env2 cs2 =>
      simp only [hq] at hk
      intro σ' H2 I2 m2 s2 p2 sr2 er2
      exact ⟨I2, m2, cs2, env2, er2, sr2, SOk.up (s1.trans s2) (p1.trans p2) hk⟩
    | rt d cs2 =>
      simp only [hq] at hk
      exact SOk.up s1 p1 hk
    | bk => simp only [hq] at hk; exact fun σ' H2 I2 m2 s2 p2 => hk σ' H2 I2 m2 (s1.trans s2) (p1.trans p2)
    | ct => simp only [hq] at hk; exact fun σ' H2 I2 m2 s2 p2 => hk σ' H2 I2 m2 (s1.trans s2) (p1.trans p2)
    | ex => simp only [hq] at hk; exact fun cls2 od2 σ' H2 I2 m2 s2 p2 sr2 er2 xr2 => hk cls2 od2 σ' H2 I2 m2 (s1.trans s2) (p1.trans p2) sr2 er2 xr2
    | no => simp only [hq] at hk; exact hk.elim
  | no =>
    simp only [ha, Out.bindS] at hk
    exact hk.elim
/-- x(lambda: body) -/
def dLam (n : Nat) (hs : List Hd) (g : SDen) (fb : Den D) : Den D := fun env cs => dActF n hs g (fun cs => fb env cs) cs
theorem de_lam {W : WX} {n : Nat} {hs : List Hd} {gd : SDen} {fb : Den D} {e : Expr} (ht : T.tb ≠ []) (h : PE X e (tLam T.tb (TTd T X.K n hs gd) fun E => tG T X.K (fun cls od _ H => E cls od H) (RD T X.K) fb)) : DE X T W e (dLam n hs gd fb) := by
  refine PE.imp h ?_
  rintro σ H Q ⟨I, m, cs, env, er, sr, h⟩
  refine ⟨sr.tabs, fun H1 eN T1 => ?_⟩
  have sr1 := sr.extN ht eN T1
  refine ⟨I, m, cs, fun cs' => fb env cs', sr1, fun I' m' cs' H' Q' E' s p sr' ho => ⟨I', m', cs', env, er.mono s p, sr', ho⟩, ?_⟩
  unfold dLam at h
  cases hd : dActF n hs gd (fun cs => fb env cs) cs with
  | ok d cs1 => rw [hd] at h; exact h
  | exn c ks fs cs1 =>
    unfold dActF at hd
    split at hd <;> cases hd
  | no => rw [hd] at h; exact h.elim
end
end
end DL
end

section
set_option Elab.async false
set_option linter.all false
set_option maxRecDepth 100000
set_option maxHeartbeats 4000000
/-! DL25: defs that make lambdas; the law's end with tables of code objects. -/
namespace DL
open PySem PySem.Spec PyProof.Rows L2 LamX
open Classical
noncomputable section
section
variable {P : Program} {w : World} {K : PySem.W.Frag} {mg : PySem.Str → Option Value} {base : Heap} {T : Tab}
/-- a def that makes lambdas: its code object is known -/
theorem df_mkL {x qual : PySem.Str} {params : Arguments} {body : List Stmt} {scope : Scope} {pd : He.Defn} {N ps : List PySem.Str} {n np k : Nat} {b : SDen} (F : ∃ fd, FunD K x qual params body scope [] [] (He.fAd K pd) fd) (S : FnScope N ps scope) (hn : N.length = n := by rfl) (hp : ps.length = np := by rfl)
    (hb : ∀ (kV doc pm : Value) (an : Option Addr) (cdv ct : Value) (us : List Value), us.length = ps.length → bindArgs (PySem.W.fnOf x qual params body scope .none kV doc pm an cdv ct) ⟨us, []⟩ = pure (ps.zip us))
    (hbody : ∀ (A : Around) (outer : List PySem.Env) (s : Shared) (H : Hp) (E : XK), Room k (A.deeper (envOfC qual scope s.heap.objs.size (He.fAd K pd) (.ref (He.cT K pd).1))) →
      DSs (cxOf (L2.CX P w) P w K mg base N qual scope (He.fAd K pd) (.ref (He.cT K pd).1) A outer s H E) T (fun cls d _ H => E cls d H) body b) : DF P w K mg base T (k + 1) (He.fAd K pd) np (mkF n np b) := by
  subst hn hp
  obtain ⟨fd, F⟩ := F
  have hpl : ps.length ≤ N.length := by have := congrArg List.length S.pre; rw [List.length_take] at this; omega
  have F0 := F
  refine ⟨⟨fd, ps, rfl, ?_, F0.bindsN hb⟩, F.kp, fun ds cs hn => if_neg hn⟩
  obtain ⟨oc, od, dV, kV, doc, pm, an, cdv, ct, osl, rfl, lk, hcd, _, _⟩ := F.ex
  obtain ⟨c, rfl⟩ := He.codeIn_ref hcd
  have ec : (He.cT K pd).1 = c := He.codeOf_eq lk rfl
  refine fn_of lk hcd S (fun vs H Q E h => h.1) fun A outer s H vs Q E hr h => ?_
  rw [← ec] at hr ⊢
  refine ⟨_, hbody A outer s H E hr, ?_⟩
  obtain ⟨hl, I, m, cs, ds, sr, r, h⟩ := h
  refine ⟨I, m, cs, env0 N.length ds, er_start r (by omega), sr, ?_⟩
  unfold mkF at h
  rw [if_pos (by rw [r.length]; exact hl)] at h
  exact sok_fin sr h
end
theorem tb_uniq {tb : List (Addr × PySem.Str)} (h : (tb.map (·.1)).Nodup) {i : Nat} {P : Addr} {q : PySem.Str} (e : tb[i]? = some (P, q)) : (P, q) ∈ tb ∧ ∀ p ∈ tb, p.1 = P → p.2 = q := by
  refine ⟨List.mem_of_getElem? e, fun p hp e2 => ?_⟩
  obtain ⟨j, hj, e3⟩ := List.mem_iff_getElem.mp hp
  have e4 : (tb.map (·.1))[i]? = (tb.map (·.1))[j]? := by
    rw [List.getElem?_map, List.getElem?_map, e, List.getElem?_eq_getElem hj, e3]
    simp [e2]
  have hi : i < (tb.map (·.1)).length := by simpa using (List.getElem?_eq_some_iff.mp e).1
  have ij := (List.getElem?_inj hi h).mp e4
  subst ij
  rw [List.getElem?_eq_getElem hj] at e
  have := Option.some.inj e
  rw [← e3, this]
section
variable {X : Cx} {T : Tab} {W : WX}
theorem de_lamcall {x a : PySem.Str} {g c Pt : Addr} {pg : Arguments} {bg : List Stmt} {sg : Scope} {Ng : List PySem.Str} {n k j i : Nat} {hs : List Hd} {gd : SDen} {fb : Den D} {params : Arguments} {body : Expr} {scope : Scope} {p lpos pos : Pos}
    (F : ∃ fd, FunD X.K x x pg bg sg [] [] g fd) (Sg : FnScope Ng [a] sg) (hm : X.mg x = some (.ref g)) (hG : ∀ cdv : Value, Gives X Ng x sg g cdv bg a (X.env.qual ++ "<lambda>") (TTd T X.K n hs gd))
    (TB : TabB X.base X.mg c Pt) (hcode : X.env.code = .ref c) (hnd : (T.tb.map (·.1)).Nodup) (hi : T.tb[i]? = some (Pt, X.env.qual ++ "<lambda>")) (hr : Room j X.A) (L : LamS X.env.scope scope)
    (hbd : ∀ (kV doc pm : Value) (an : Option Addr) (cdv ct : Value) (us : List Value), us.length = [a].length → bindArgs (PySem.W.fnOf x x pg bg sg .none kV doc pm an cdv ct) ⟨us, []⟩ = pure ([a].zip us))
    (hbind : ∀ (q : PySem.Str) (cl : List (PySem.Str × Addr)) (pm cv ctv : Value), bindArgs (PySem.W.kla_fn "<lambda>" q params body scope cl pm cv ctv) ⟨[], []⟩ = pure [])
    (hbody : ∀ (A : Around) (outer : List PySem.Env) (s : Shared) (H : Hp) (E : XK) (f c' : Addr), Room k (A.deeper (lamEnv X scope s.heap.objs.size f c')) → DE (lamCx X A outer s H E scope f c') T (fun cls od _ H => E cls od H) body fb)
    (hk : k + 2 ≤ j := by decide) (hNg : Ng[0]? = some a := by rfl) (hva : Vis sg a := by first | exact Or.inl rfl | exact Or.inr (Or.inl rfl)) (hdef : defaultsOf params X.env = ([], []) := by rfl) (hg : Gl X x := by rfl)
    (hdb : (x == ("__debug__" : PySem.Str)) = false := by decide) (hd : (a == ("__debug__" : PySem.Str)) = false := by decide) (hcd : (a == ("__classdict__" : PySem.Str)) = false := by decide) :
    DE X T W (.Call (.Name x p) [.Lambda params body scope lpos] [] pos) (dLam n hs gd fb) := by
  obtain ⟨fd, F⟩ := F
  have hb := F.bindsN hbd
  have kp := F.kp
  obtain ⟨oc, od, dV, kV, doc, pm, an, cdv, ct, osl, rfl, lk, hcd', _, _⟩ := F.ex
  obtain ⟨h1, h2⟩ := tb_uniq hnd hi
  exact de_lam (fun z => by rw [z] at hi; cases hi) (pe_lamS (T := T.tb) hg hm kp lk hcd' hb Sg hNg hva (hG cdv) TB hcode h1 h2 (hr.mono hk) L hdef hbind hbody hdb hd hcd)
end
/-! ### the law's end -/
theorem walk_ofXT {l : PySem.W.OpenLaw} {n k : Nat} {q : Program} {loose : List PySem.Str} {XP : (PySem.Str → Option Value) → Heap → Prop} {YP : World → Heap → Prop} {d : DefRec} {x : PySem.Str}
    (hn : l.most = some n) (hn2 : n ≤ sizeLine) (hdf : d.params.defaults = []) (hr : Room k callerA)
    (F : ∀ (w : World) (mg : PySem.Str → Option Value) (fa : Addr) (h : Heap), YP w h → h.Ns mainGlobals mg → mg d.name = some (.ref fa) →
      ∃ (K : PySem.W.Frag) (fd : FuncData) (cs : List (Addr × Addr)) (sp : Sp), K.In h ∧ (∀ p ∈ cs, h.get? p.2 = some { cls := .none, data := .fields #[] }) ∧ (∀ p ∈ cs, K.lookup p.2 = none) ∧ (∀ p ∈ cs, PySem.W.CodeHd h p.1 p.2) ∧ (∀ (s : Shared) (u : Value), BindsTo s fd ⟨[u], []⟩ [(x, u)]) ∧
        (∀ (H : Hp) (a : Addr) (ns : List Int), ns.length ≤ n → (∀ z ∈ ns, Builtin.Int.intBits z ≤ 1048576) → (∀ p ∈ cs, H p.2 = some (.tbl #[])) → SqX K H a (ns.map V.int) → sp [.ref a] H (fun v _ => v = .bl true) fun _ _ _ => False) ∧
        ∀ base : Heap, K.In base → base.Ns mainGlobals mg → (∀ p ∈ cs, TabB base mg p.1 p.2) → FnOk l.prog w K mg base (L2.CX l.prog w) k fa fd [x] sp) :
    PySem.W.WalkO q loose XP YP l.row.toRowW d [] (fun f vs => PySem.call f vs) := by
  refine Att.attach_callB hn hdf fun w s₀ s₁ mg mb fa o pm cd doc a vs ns G Y ho hd hcd hmg hobj hints hlen hbits hg => ?_
  obtain ⟨K, fd, cs, sp, KX, hT, nT, C, hb, hsp, hF⟩ := F w mg fa _ Y G.T.g hmg
  refine law_callTs KX G.T.g G.T.b G.T.builtins G.T.nolimit hg hT nT C G.T.bmain hobj hints (Nat.le_trans hlen hn2) hr hF hb (fun H hH hS => hsp H a ns hlen hbits hH ?_) fun H e s' hc => ?_
  · rcases hS with h | ⟨o', its, n', h1, h2, h3, h4, h5, h6⟩
    · exact .inl h
    · have e := KX a o' h1
      rw [hobj] at e
      cases e
      have h4' : Data.seq vs.toArray 0 = Data.seq its n' := h4
      cases h4'
      exact .inr ⟨vs.toArray, _, h1, h5, h6⟩
  · obtain ⟨_, _, _, _, _, _, _, _, _, _, _, _, z⟩ := hc
    exact z
/-- the heap without the tables -/
def noT (H : Hp) : Hp := fun a => match H a with
  | some (.tbl _) => none
  | o => o
theorem noT_some {H : Hp} {a : Addr} {o : HO} (h : H a = some o) (n : ∀ ps, o ≠ .tbl ps) : noT H a = some o := by
  unfold noT
  rw [h]
  cases o with
  | tbl ps => exact absurd rfl (n ps)
  | _ => rfl
theorem noT_of {H : Hp} {a : Addr} {o : HO} (h : noT H a = some o) : H a = some o ∧ ∀ ps, o ≠ .tbl ps := by
  unfold noT at h
  cases e : H a with
  | none => rw [e] at h; cases h
  | some u =>
    rw [e] at h
    cases u with
    | tbl ps => cases h
    | _ => cases h; exact ⟨rfl, fun ps z => nomatch z⟩
theorem law_spT {T : Tab} {K : PySem.W.Frag} {den : FDen} {H : Hp} {a : Addr} {ns : List Int} (hS : SqX K H a (ns.map V.int)) (hT : Tabs T.tb H) (h : ∃ cs, den [.lst (ns.map D.int)] [] = .ok (.bl true) cs) : spD T K 1 den [.ref a] H (fun v _ => v = .bl true) fun _ _ _ => False := by
  obtain ⟨cs, e⟩ := h
  have r : RpL T K (noT H) [] (ns.map D.int) (ns.map V.int) := by
    clear e hS
    induction ns with
    | nil => exact RpL.nil
    | cons i r ih => exact RpL.cons (rp_int.mpr rfl) ih
  have hS' : SqX K (noT H) a (ns.map V.int) := by
    rcases hS with (h | ⟨o, h⟩) | h
    · exact .inl (.inl (noT_some h fun ps z => nomatch z))
    · exact .inl (.inr ⟨o, noT_some h fun ps z => nomatch z⟩)
    · exact .inr h
  refine ⟨rfl, noT H, [], [], [.lst (ns.map D.int)], ⟨fun b u z => (noT_of z).1, rfl, fun n c e => by simp at e, fun n n' c c' a e => by simp at e, hT, fun _ b ps z => (noT_of z).2 ps rfl⟩, RpL.one (rp_lst.mpr ⟨a, _, rfl, hS', r⟩), ?_⟩
  rw [e]
  exact fun v H' I' m' _ _ _ r => rp_bl.mp r
end
end DL
end

section
set_option Elab.async false
set_option linter.all false
set_option maxRecDepth 100000
set_option maxHeartbeats 4000000
/-! DL26: xs.insert(i, y). -/
namespace DL
open PySem L2
open Classical
noncomputable section
section
variable {X : Cx} {T : Tab} {W : WX} {o e e2 : Expr} {f : Den D} {pos apos : Pos}
def insertD (x : D) (xs : List D) (cs : List Cell) : Out D := match x, xs with
  | .cell n, [.int i, y] => match cs[n]? with
    | some (.lst ys) => if fitsL ys.length ∧ 0 ≤ i ∧ in63 i then .ok .non (cs.set n (.lst (ys.take i.toNat ++ [y] ++ ys.drop i.toNat))) else .no
    | _ => .no
  | _, _ => .no
theorem hk_insert {K : PySem.W.Frag} : HkM T K (fun x vs H Q => ∃ (l : Addr) (xs : List V) (i : Int) (y : V), x = .ref l ∧ vs = [.int i, y] ∧ H l = some (.lst xs) ∧ xs.length < sizeLine ∧ 0 ≤ i ∧ i < 2 ^ 63 ∧ Q .non (upd H l (.lst (xs.take i.toNat ++ [y] ++ xs.drop i.toNat)))) insertD := by
  intro I m cs H x xs v vs Q E sr rx rxs h
  unfold insertD at h
  split at h
  · rename_i n i y
    obtain ⟨w, u, rfl, r1, r2⟩ := rxs.i2
    have ew := rp_int.mp r1
    subst ew
    split at h
    · rename_i ys hc
      split at h
      · rename_i hz
        obtain ⟨a, us, rfl, ea, q1, q2⟩ := cell_lst sr rx hc
        have sr2 := sr.setC (o := .lst (us.take i.toNat ++ [u] ++ us.drop i.toNat)) (c := .lst (ys.take i.toNat ++ [y] ++ ys.drop i.toNat)) hc (by intro z; cases z) ea ((q2.take.append (RpL.one r2)).append q2.drop)
        exact ⟨a, us, i, u, rfl, rfl, q1, by rw [← q2.length]; exact hz.1, hz.2.1, hz.2.2.2, h.okI sr2 (rp_non.mpr rfl)⟩
      · exact h.elim
    · exact h.elim
  · exact h.elim
theorem de_insert {g : Den (List D)} (ho : DE X T W o f) (ha : DA X T W [e, e2] g) (hbase : attributeBase o "insert" X.env (eval o X.env) = eval o X.env := by rfl) (hs : starEach [e, e2] X.env = (false, eval e X.env) :: starEach [e2] X.env := by rfl)
    (hfew : ((backTo pos (starEach [e, e2] X.env)).all (fun x => !x.1) && (backToKw pos (keywordEach [] X.env)).all (fun x => x.1.isSome) && decide ([e, e2].length + ([] : List Keyword).length + (if ([] : List Keyword).isEmpty then 0 else 1) < 30)) = true := by rfl) (hline : (apos.endLine == pos.line) = true := by rfl) (hpl : (backTo pos (starEach [e2] X.env)).any (·.1) = false := by rfl) :
    DE X T W (.Call (.Attribute o "insert" apos) [e, e2] [] pos) (dML f g insertD) :=
  PE.imp (pe_bm PySem.F.plainAttrs_list PySem.F.slot_list_insert PySem.F.type_list_insert mt_insert ho ha hbase hfew hline hs hpl) (tBM_of hk_insert rfl rfl)
/-! list(range(e)), kept as a cell -/
def small24 (i : Int) : Prop := i ≤ 16777216
def lRngD (x : D) (cs : List Cell) : Out D := match x with
  | .int j => if in62 j ∧ small24 j then .ok (.cell cs.length) (cs ++ [.lst (rngL 0 j.toNat)]) else .no
  | _ => .no
theorem rpl_rng {K : PySem.W.Frag} {I : Hp} {m : List Addr} (l : List Nat) : RpL T K I m (l.map fun (i : Nat) => D.int (0 + (i : Int))) (l.map fun i => V.int (0 + (i : Nat))) := by
  induction l with
  | nil => exact RpL.nil
  | cons a r ih => exact RpL.cons (rp_int.mpr rfl) ih
theorem de_lRng {p p2 pos2 : Pos} (hm1 : X.mg "list" = none) (hm2 : X.mg "range" = none) (ha : DE X T W e f) (hc : X.calm = true := by rfl) (hg1 : Gl X "list" := by rfl) (hg2 : Gl X "range" := by rfl)
    (na1 : starEach [e] X.env = (false, eval e X.env) :: starEach [] X.env := by rfl) (na2 : starEach [.Call (.Name "range" p2) [e] [] pos2] X.env = (false, eval (.Call (.Name "range" p2) [e] [] pos2) X.env) :: starEach [] X.env := by rfl) :
    DE X T W (.Call (.Name "list" p) [.Call (.Name "range" p2) [e] [] pos2] [] pos) (d1 f lRngD) := by
  refine PE.imp (pe_listRg hc hg1 hm1 (prg_1 hg2 hm2 ha na1) na2) ?_
  rintro σ H Q ⟨I, m, cs, env, er, sr, h⟩
  refine ⟨I, m, cs, env, er, sr, OutG.bindI h fun x cs1 v H1 I1 m1 s1 p1 sr1 r1 h1 => ?_⟩
  unfold lRngD at h1
  split at h1
  · rename_i j
    split at h1
    · rename_i hz
      obtain ⟨⟨z1, z2⟩, z3⟩ := hz
      unfold small24 at z3
      refine ⟨j, rp_int.mp r1, ⟨by omega, by omega, z1, z2, by omega⟩, fun q hq => ?_⟩
      refine rp_newC (c := .lst (rngL 0 j.toNat)) sr1 hq ?_ h1
      have e : rgV 0 j = (List.range j.toNat).map fun i => V.int (0 + (i : Nat)) := by unfold rgV; rw [Int.sub_zero]
      rw [e]
      exact rpl_rng _
    · exact h1.elim
  · exact h1.elim
/-! a list or a tuple, walked -/
def itA (f : Den D) : Den ItV := fun env cs => (f env cs).bind fun x cs => match x with
  | .tup xs => .ok ⟨xs, noChk⟩ cs
  | .lst xs => .ok ⟨xs, noChk⟩ cs
  | .cell n => match cs[n]? with
    | some (.lst xs) => .ok ⟨xs, fun cs => cs[n]? = some (.lst xs)⟩ cs
    | _ => .no
  | _ => .no
theorem itA_or (f : Den D) (env : Env) (cs : List Cell) : itA f env cs = itL f env cs ∨ itA f env cs = itT f env cs := by
  unfold itA itL itT
  cases f env cs with
  | ok x cs1 => cases x <;> first | exact .inl rfl | exact .inr rfl
  | exn => exact .inl rfl
  | no => exact .inl rfl
theorem di_any {tg : Expr} (h : DE X T W e f) : DI X T W tg e (itA f) := by
  refine ⟨fun pins s σ H R I q => ?_⟩
  obtain ⟨I', m, cs, env, er, sr, h1⟩ := q
  rcases itA_or f env cs with z | z
  · exact (di_list (tg := tg) h).run pins s σ H R I ⟨I', m, cs, env, er, sr, z ▸ h1⟩
  · exact (di_tup (tg := tg) h).run pins s σ H R I ⟨I', m, cs, env, er, sr, z ▸ h1⟩
end
end
end DL
end

section
set_option Elab.async false
set_option linter.all false
set_option maxRecDepth 100000
set_option maxHeartbeats 4000000
/-! DL27: enumerate of a tuple. -/
namespace DL
open PySem PySem.Spec PyProof.Rows L2
open Classical
noncomputable section
theorem meets_enum1 {v : Value} {o : Obj} {H : Heap → Prop} (B : Begins v o H) :
    Meets (Builtin.«enumerate.__new__» ⟨[.type "enumerate", v], []⟩) (fun _ R s => H s.heap ∧
      R (.ok (.ret (.ref (s.heap.push o).objs.size))) { s with heap := (s.heap.push o).push { cls := .type "enumerate", data := .fields #[.none, .bool false, .ref s.heap.objs.size, rawInt 0, .none, .none] } }) :=
  .of_wp fun prog w A R s h => by
    obtain ⟨hp, g, d, tk, os⟩ := s; obtain ⟨h1, h⟩ := h
    have hsub := sub_enumerate
    have q1 : ∀ {A' : Around} {E : Value → Shared → Prop} {Q : Value → Shared → Prop}, Q (.ref hp.objs.size) ⟨hp.push o, g, d, tk, os⟩ → wpAny (model prog w) A' (pyIter v) Q E ⟨hp, g, d, tk, os⟩ :=
      fun q => B.iter prog w _ _ ⟨hp, g, d, tk, os⟩ _ h1 q
    wp_walk using q1
    refine wpAny_stack_any fun st => wpAny_pure ?_
    split
    · rename_i c _ _ _ _ _
      cases (c == Value.type "enumerate")
      · wp_walk using q1
        exact ⟨_, rfl, h⟩
      · wp_walk using q1
        exact ⟨_, rfl, h⟩
    · wp_walk using q1
      exact ⟨_, rfl, h⟩
section
variable {prog : Program} {w : World} {A : Around} {E : Value → Shared → Prop} {s : Shared}
theorem call_enum1 {v : Value} {o : Obj} {H : Heap → Prop} {Q : Value → Shared → Prop} (B : Begins v o H) (h1 : H s.heap)
    (h : ∀ h', IsEnum h' (s.heap.objs.size + 1) s.heap.objs.size 0 .none → h'.get? s.heap.objs.size = some o → h'.objs.size = s.heap.objs.size + 2 →
      (∀ b o, s.heap.get? b = some o → h'.get? b = some o) → Q (.ref (s.heap.objs.size + 1)) { s with heap := h' }) :
    wpAny (model prog w) A (call (.type "enumerate") [v]) Q E s := by
  refine callType_new F.called_enumerate (by decide) (F.typeCall_enumerate_1 _) (F.newCall_enumerate_1 _) (fun obj => F.args_object_init_2 obj _) F.entry_enumerate_new
    (meets_enum1 B) ⟨h1, ?_⟩
  have hz : (s.heap.push o).objs.size = s.heap.objs.size + 1 := Heap.size_push ..
  show _ ∧ _
  rw [hz]
  have he : IsEnum ((s.heap.push o).push { cls := .type "enumerate", data := .fields #[.none, .bool false, .ref s.heap.objs.size, rawInt 0, .none, .none] }) (s.heap.objs.size + 1) s.heap.objs.size 0 .none := by
    have := Heap.get?_push_size (s.heap.push o) (o := { cls := .type "enumerate", data := .fields #[.none, .bool false, .ref s.heap.objs.size, rawInt 0, .none, .none] }) rfl
    rw [hz] at this; exact this
  refine ⟨⟨_, he, rfl⟩, h _ he (Heap.get?_push_of_some _ (Heap.get?_push_size _ B.free)) (by rw [Heap.size_push, hz]) fun b o x => Heap.get?_push_of_some _ (Heap.get?_push_of_some _ x)⟩
end
theorem pyNext_enumT_end {prog : Program} {w : World} {A : Around} {E : Value → Shared → Prop} {s : Shared} {e it l : Addr} {i : Nat} {items : Array Value} {old : Value} {Q : Option Value → Shared → Prop} (hh : A.handled = none)
    (he : IsEnum s.heap e it i old) (hit : s.heap.IsTupleIter it l i) (hl : s.heap.IsTuple l items) (hx : items[i]? = none)
    (hQ : ∀ h', Heap.ExtBut it s.heap h' → Q none { s with heap := h' }) : wpAny (model prog w) A (pyNext (.ref e)) Q E s := by
  have hT : s.TypeIs (.ref e) "enumerate" := ⟨_, he, rfl⟩
  unfold pyNext
  refine wpAny_bind (wpAny_attempt (wpAny_callSpecial?_slot (name := Str.ofString "__next__") hT F.slot_enumerate_next
    (wpAny_call_entry F.slot_enumerate_next hT F.entry_enumerate_next ?_ (F.args_enumerate_next_1 _))))
  show wpAny _ _ (field (.ref e) 2 >>= _) _ _ _
  refine wpAny_bind (wpAny_field he rfl (x := .ref it) rfl ?_)
  refine wpAny_bind (wpAny_nextOf_tuple_end hh hit hl hx fun h' x he' hx' => ?_)
  obtain ⟨o, ho, hc⟩ := hx'
  refine wpAny_bind (wpAny_isInstance (T := "StopIteration") (b := true) ⟨o, ho, hc⟩ isSubtype_stop ?_)
  exact wpAny_pure (hQ _ he')
/-- the tuple at a as it stands at each turn, each item in a new pair -/
def IteT (K : PySem.W.Frag) (a : Addr) : It :=
  ⟨fun i H => ∃ (xs : List V) (x : V), SqT K H a xs ∧ xs[i]? = some x, fun i H v H' => ∃ T x, v = .ref T ∧ H T = none ∧ H' = upd H T (.tup [.int (i : Nat), x]) ∧ ∀ xs, SqT K H a xs → xs[i]? = some x, fun i H => ∃ xs : List V, SqT K H a xs ∧ xs.length ≤ i⟩
theorem turn_enumT {P : Program} {w : World} {K : PySem.W.Frag} {elts : List Expr} {kk : Nat} {tpos : Pos} (a e it : Addr) :
    Turn P w K (.Tuple elts kk tpos) (IteT K a) [e, it] e (fun i h => (∃ old, IsEnum h e it ((i : Nat) : Int) old) ∧ h.IsTupleIter it a i ∧ e ≠ it ∧ a ≠ it ∧ a ≠ e) where
  mem := by simp
  obj := fun i h st b hb => by
    obtain ⟨⟨old, he⟩, ⟨o, ho, hc, hd⟩, _⟩ := st
    have e' : b = e ∨ b = it := by simpa using hb
    rcases e' with z | z
    · rw [z]; exact ⟨_, he, fun v q => nomatch q⟩
    · rw [z]; exact ⟨o, ho, fun v q => by rw [hd] at q; cases q⟩
  keep := fun i h h' st k => let ⟨⟨old, he⟩, hi, hne⟩ := st; ⟨⟨old, k e (by simp) _ he⟩, hi.at fun o q => k it (by simp) o q, hne⟩
  item := by
    intro X hP hw hK hc i pins s σ H E I hf st hg
    subst hP hw hK
    obtain ⟨⟨old, he⟩, hit, hne, hai, hae⟩ := st
    obtain ⟨xs, x, hq, hx⟩ := hg
    obtain ⟨its, rv, p, hz⟩ := I.tuple hq
    obtain ⟨u, hu, ru⟩ := rv.get hx
    have hel : e < s.heap.objs.size := Heap.lt_size he
    have hil : it < s.heap.objs.size := by obtain ⟨_, q, _⟩ := hit; exact Heap.lt_size q
    have hi : i < its.toArray.size := by
      have := (List.getElem?_eq_some_iff.mp hu).1
      simpa using this
    have D := Draws.tuple (prog := X.prog) (w := X.w) (A := X.A.in1) (I.ok.hd hc) it a hai its.toArray
    refine wpAny_pyNext_enum_itemD D he ⟨hit, p⟩ hi hne (by simp [hne, Ne.symm hae]) fun x2 h' tk hx2 ho st' hT hsz hk => ?_
    have ex2 : x2 = u := by
      have : its.toArray[i]? = some u := by simpa using hu
      exact Option.some.inj (hx2.symm.trans this)
    subst ex2
    refine ⟨_, rfl, wpAny_letOwnedTupleGo_enum (s := { s with heap := h', toks := tk + 1 }) ho fun h'' he' sb => ?_⟩
    have hT2 : h''.get? s.heap.objs.size = some { cls := .type "tuple", data := .seq #[.int i tk, x2] } := (sb.2 _ (Nat.ne_of_gt hel)).trans hT
    have new : ObjOk X.prog X.w (upd H s.heap.objs.size (.tup [.int (i : Nat), x])) h'' s.heap.objs.size (.tup [.int (i : Nat), x]) :=
      ⟨by show 2 ≤ sizeLine; decide, [.int i tk, x2], .cons ⟨_, rfl⟩ (.cons ru .nil), ⟨_, hT2, rfl, _, rfl⟩⟩
    have I1 : Inv X pins σ (upd H s.heap.objs.size (.tup [.int (i : Nat), x])) { s with heap := h'', toks := tk + 1 } :=
      I.turnedNew (ch := [e, it]) (fun b ob hb q => (sb.2 b (fun z => hb (by simp [z]))).trans (hk b ob (fun z => hb (by simp [z])) (fun z => hb (by simp [z])) q)) hf (Nat.le_refl _) new
    refine ⟨.ref s.heap.objs.size, _, I1, rfl, ⟨_, x, rfl, I.hok.fresh (Nat.le_refl _), rfl, fun ys hy => by rw [I.tuple_inj hy hq]; exact hx⟩, ⟨⟨x2, ?_⟩, st'.1.at fun o q => (sb.2 it (Ne.symm hne)).trans q, hne, hai, hae⟩, fun b hb => ?_⟩
    · have e1 : ((i + 1 : Nat) : Int) = (i : Int) + 1 := by omega
      rw [e1]; exact he'
    · have hb' : b < s.heap.objs.size := by
        have e' : b = e ∨ b = it := by simpa using hb
        rcases e' with z | z
        · rw [z]; exact hel
        · rw [z]; exact hil
      rw [upd_ne (Nat.ne_of_lt hb')]
      exact (hf b hb).1
  done := by
    intro X hP hw hK hc i pins s σ H E I hf st hg
    subst hP hw hK
    obtain ⟨⟨old, he⟩, hit, hne, hai, hae⟩ := st
    obtain ⟨xs, hq, hx⟩ := hg
    obtain ⟨its, rv, p, hz⟩ := I.tuple hq
    obtain ⟨f0, f1, f2, f3, f4, f5⟩ := hf it (by simp)
    have hl := rv.length
    exact pyNext_enumT_end (I.ok.hd hc) he hit p (by simp; omega) fun h' eb => ⟨rfl, I.turned (t' := s.toks) (fun b o hb q => eb b o hb q) f0 f1 f3 f4 f5⟩
  self := fun A i s Q E st h => let ⟨⟨_, he⟩, _⟩ := st; wpAny_pyIter_enum he h
def iEnumT (K : PySem.W.Frag) (ta : TA) : TI := fun σ H R => ta σ H fun vs H1 => ∃ a xs, vs = [.ref a] ∧ SqT K H1 a xs ∧ R (IteT K a) H1
theorem pi_enumT {X : Cx} {e : Expr} {ta : TA} {p pos tpos : Pos} {elts : List Expr} {kk : Nat} (hg : Gl X "enumerate") (hm : X.mg "enumerate" = none) (ha : PA X [e] ta) (hs : starEach [e] X.env = [(false, eval e X.env)] := by rfl) :
    PI X (.Tuple elts kk tpos) (.Call (.Name "enumerate" p) [e] [] pos) (iEnumT X.K ta) := by
  refine ⟨fun pins s σ H R I h => ?_⟩
  refine Call_ (ld_blt I hg hm boot_enumerate (PyProof.Rows.callWith_type1 (thn (ha.run pos pins s σ H _ I h) fun us s1 ⟨vs, H1, I1, r1, q1⟩ => ?_) hs rfl))
  obtain ⟨a, xs, ex, hq, q⟩ := q1
  subst ex
  cases r1 with
  | cons r rr =>
    cases rr
    cases r
    obtain ⟨its, rv, p', hz⟩ := I1.tuple hq
    have hal : a < s1.heap.objs.size := by obtain ⟨o, ho, _⟩ := id p'; exact Heap.lt_size ho
    refine call_enum1 (begins_tuple a its.toArray) p' fun h' he hit hsz hk => wpAny_pyIter_enum he ?_
    have I2 : Inv X pins σ H1 { s1 with heap := h' } := I1.kept (t' := s1.toks) hk
    refine ⟨s1.heap.objs.size + 1, [s1.heap.objs.size + 1, s1.heap.objs.size], _, _, H1, rfl, I2, turn_enumT a (s1.heap.objs.size + 1) s1.heap.objs.size, ⟨⟨.none, he⟩, ⟨_, hit, rfl, rfl⟩, Nat.succ_ne_self _, Nat.ne_of_lt hal, Nat.ne_of_lt (Nat.lt_succ_of_lt hal)⟩, fun b hb => ?_, q⟩
    have e' : b = s1.heap.objs.size + 1 ∨ b = s1.heap.objs.size := by simpa using hb
    have hle : s1.heap.objs.size ≤ b := by
      rcases e' with z | z
      · rw [z]; exact Nat.le_add_right _ _
      · rw [z]; exact Nat.le_refl _
    exact I1.fpOk hle (I1.hok.fresh hle)
section
variable {X : Cx} {T : Tab} {W : WX} {e : Expr} {g : Den (List D)} {p pos : Pos}
theorem RI.enumT {K : PySem.W.Frag} {I : Hp} {m : List Addr} {xs : List D} {a : Addr} (h : TpA T K I m xs a) : RI T K I m ⟨enumD 0 xs, noChk⟩ (IteT K a) := by
  intro I' m' cs' H' s2 p2 sr2 hk
  obtain ⟨us, q1, q2⟩ := h I' m' cs' H' s2 p2 sr2
  refine ⟨fun i d hd => ?_, us, q1, by rw [enumD_len, q2.length]; exact Nat.le_refl _⟩
  obtain ⟨x, hx, rfl⟩ := enumD_get hd
  obtain ⟨v, e1, r1⟩ := q2.get hx
  refine ⟨⟨us, v, q1, e1⟩, fun y H2 yl => ?_⟩
  obtain ⟨Tt, x', rfl, hT, rfl, hy⟩ := yl
  have e2 := hy us q1
  rw [e1] at e2; cases e2
  obtain ⟨sr3, s3⟩ := sr2.newI (o := .tup [.int (i : Nat), v]) hT
  have e0 : ((0 + i : Nat) : Int) = ((i : Nat) : Int) := by simp
  refine ⟨_, s3, sr3, rp_tup.mpr ⟨Tt, _, rfl, .inl (.inl upd_same), RpL.cons (rp_int.mpr (by rw [e0])) (RpL.one (r1.mono s3 (List.prefix_refl _)))⟩⟩
def itEnT (g : Den (List D)) : Den ItV := fun env cs => (g env cs).bind fun ds cs => match ds with
  | [.tup xs] => .ok ⟨enumD 0 xs, noChk⟩ cs
  | _ => .no
theorem di_enumT {elts : List Expr} {kk : Nat} {tpos : Pos} (hm : X.mg "enumerate" = none) (ha : DA X T W [e] g) (hg : Gl X "enumerate" := by rfl) (hs : starEach [e] X.env = [(false, eval e X.env)] := by rfl) :
    DI X T W (.Tuple elts kk tpos) (.Call (.Name "enumerate" p) [e] [] pos) (itEnT g) := by
  refine PI.imp (pi_enumT hg hm ha hs) ?_
  rintro σ H Q ⟨I, m, cs, env, er, sr, h⟩
  refine ⟨I, m, cs, env, er, sr, OutG.bindI h fun ds cs1 vs H1 I1 m1 s1 p1 sr1 r1 h1 => ?_⟩
  split at h1
  · obtain ⟨v, rfl, rv⟩ := r1.i1
    obtain ⟨a, rfl, L⟩ := TpA.of rv
    obtain ⟨us, q1, q2⟩ := L I1 m1 cs1 H1 (Same.refl _) (List.prefix_refl _) sr1
    exact ⟨a, us, rfl, q1, h1.okI sr1 (RI.enumT L)⟩
  · exact h1.elim
/-- a list, a cell or a tuple -/
def itEnA (g : Den (List D)) : Den ItV := fun env cs => (g env cs).bind fun ds cs => match ds with
  | [.tup xs] => .ok ⟨enumD 0 xs, noChk⟩ cs
  | [.lst xs] => .ok ⟨enumD 0 xs, noChk⟩ cs
  | [.cell n] => (match cs[n]? with
    | some (.lst xs) => .ok ⟨enumD 0 xs, fun cs => cs[n]? = some (.lst xs)⟩ cs
    | _ => .no)
  | _ => .no
theorem itEnA_or (g : Den (List D)) (env : Env) (cs : List Cell) : itEnA g env cs = itEn g env cs ∨ itEnA g env cs = itEnT g env cs := by
  unfold itEnA itEn itEnT
  cases g env cs with
  | ok ds cs1 =>
    match ds with
    | [] => exact .inl rfl
    | [x] => cases x <;> first | exact .inl rfl | exact .inr rfl
    | x :: y :: r => cases x <;> exact .inl rfl
  | exn => exact .inl rfl
  | no => exact .inl rfl
theorem di_enumA {elts : List Expr} {kk : Nat} {tpos : Pos} (hm : X.mg "enumerate" = none) (ha : DA X T W [e] g) (hg : Gl X "enumerate" := by rfl) (hs : starEach [e] X.env = [(false, eval e X.env)] := by rfl) :
    DI X T W (.Tuple elts kk tpos) (.Call (.Name "enumerate" p) [e] [] pos) (itEnA g) := by
  refine ⟨fun pins s σ H R I q => ?_⟩
  obtain ⟨I', m, cs, env, er, sr, h1⟩ := q
  rcases itEnA_or g env cs with z | z
  · exact (di_enum (elts := elts) (kk := kk) (tpos := tpos) hm ha hg hs).run pins s σ H R I ⟨I', m, cs, env, er, sr, z ▸ h1⟩
  · exact (di_enumT (elts := elts) (kk := kk) (tpos := tpos) hm ha hg hs).run pins s σ H R I ⟨I', m, cs, env, er, sr, z ▸ h1⟩
end
end
end DL
end

section
set_option Elab.async false
set_option linter.all false
set_option maxRecDepth 100000
namespace K51
open PySem L2 DL
noncomputable section
def ats0 : List PySem.Str := ["what", "count", "line", "word", "store", "sizes", "number", "memory", "commands", "result", "apart", "order", "made", "flushed", "sure", "time", "low", "high"]
def ats1 : List PySem.Str := ["numbers", "place", "from_line", "from_word", "conditions", "moves", "steps", "image", "second", "words", "recovery", "good", "known", "name", "rules", "history", "book", "is_first"]
def ats : List PySem.Str := ats0 ++ ats1
def nm : Nat → PySem.Str := nmOf ats
def od : Nat → List Nat
  | 7 => [5]
  | 9 => [2, 3, 6]
  | 10 => [2]
  | 12 => [7, 8]
  | 15 => [12, 13, 14]
  | 16 => [15, 16, 17]
  | _ => []
def cn : Nat → PySem.Str
  | 1 => "BadCount"
  | 2 => "NoLine"
  | 3 => "NoWord"
  | 7 => "Memory"
  | 9 => "Store"
  | 10 => "Flush"
  | 11 => "Fence"
  | 12 => "Program"
  | 15 => "Counter"
  | 16 => "Box"
  | _ => "law"
def isi_Flush : List (Nat × Bool) := [(7, false), (9, false), (10, true), (11, false), (12, false), (15, false), (16, false)]
def isi_Store : List (Nat × Bool) := [(7, false), (9, true), (10, false), (11, false), (12, false), (15, false), (16, false)]
def b_law_source : SDen := (sRet (dLstC (dCons (d2 (dVar 0) (dCall (dCons (d2 (dVar 0) (d2 (dC (.int 10)) (dC (.int 18)) powD) geD) dNil) intX) mulD) (dCons (d2 (dCall (dCons (dVar 0) dNil) intX) (dC (.int 2147483587)) modD) (dCons (dC (.int 0)) dNil)))))
def F_law_source : FDen := mkF 1 1 b_law_source
def b_law_cell_at : SDen := (sSeq (sIf (qB (d2 (dVar 1) (dCall (dCons (dVar 0) dNil) lenD) ltD))
  (sRet (d2 (dVar 0) (dVar 1) ixD))
  sNil)
  (sRet (dC (.int 0))))
def F_law_cell_at : FDen := mkF 2 2 b_law_cell_at
def b_law_draw : SDen := (sSeq (sIf (qB (d2 (d2 (dVar 0) (dC (.int 0)) ixD) (dC (.int 0)) gtD))
  (sSeq (sSet 2 (d2 (dCall (dCons (d2 (dVar 0) (dC (.int 0)) ixD) dNil) intX) (dVar 1) modD))
  (sSeq (sAsg (d2 (d2 (dVar 0) (dC (.int 0)) ixD) (dVar 1) fdivD) (gIx (dVar 0) (dC (.int 0))))
  (sRet (dVar 2))))
  sNil)
  (sSeq (sAsg (d2 (d2 (dVar 0) (dC (.int 2)) ixD) (dC (.int 1)) addD) (gIx (dVar 0) (dC (.int 2))))
  (sSeq (sSet 2 (d2 (dCall (dCons (d2 (d2 (d2 (d2 (dVar 0) (dC (.int 1)) ixD) (d2 (dC (.int 51787)) (d2 (dVar 0) (dC (.int 2)) ixD) mulD) addD) (dC (.int 17)) addD) (dC (.int 48271)) mulD) dNil) intX) (dC (.int 2147483563)) modD))
  (sSeq (sSet 2 (d2 (dCall (dCons (d2 (dVar 2) (d2 (d2 (d2 (dVar 2) (dC (.int 1013)) fdivD) (dC (.int 62089)) addD) (d2 (dVar 0) (dC (.int 2)) ixD) addD) mulD) dNil) intX) (dC (.int 2147483549)) modD))
  (sRet (d2 (dCall (dCons (d2 (d2 (dCall (dCons (d2 (dVar 2) (d2 (d2 (dVar 2) (dC (.int 2011)) fdivD) (dC (.int 40692)) addD) mulD) dNil) intX) (dC (.int 2147483543)) modD) (dC (.int 7)) fdivD) dNil) intX) (dVar 1) modD))))))
def F_law_draw : FDen := mkF 3 2 b_law_draw
def ce_law_sizes_0 : Den D := (d2 (dC (.int 1)) (dFn F_law_draw (dCons (dVar 0) (dCons (dC (.int 3)) dNil))) addD)
def b_law_sizes : SDen := (sRet (dLc [1] (itR1 (dCons (d2 (dC (.int 1)) (dFn F_law_draw (dCons (dVar 0) (dCons (dC (.int 4)) dNil))) addD) dNil)) (gNm 1) pYes ce_law_sizes_0))
def F_law_sizes : FDen := mkF 2 1 b_law_sizes
def lb_Memory_init_0 : SDen := (sIf (qNot (qB (chainD (dC (.int 1)) (dVar 2) (dC (.int 4)) (fun i j => decide (i ≤ j)) (fun i j => decide (i ≤ j)))))
  (sRaise 1 [0, 1] (dCons (dC (.str "words")) (dCons (dVar 2) dNil)))
  sNil)
def b_Memory_init : SDen := (sSeq (sFldD od 5 (dVar 0) (dCall (dCons (dVar 1) dNil) tupleD))
  (sSeq (sIf (qNot (qB (chainD (dC (.int 1)) (dCall (dCons (d1 (dVar 0) (getD od 5)) dNil) lenD) (dC (.int 6)) (fun i j => decide (i ≤ j)) (fun i j => decide (i ≤ j)))))
  (sRaise 1 [0, 1] (dCons (dC (.str "lines")) (dCons (dCall (dCons (d1 (dVar 0) (getD od 5)) dNil) lenD) dNil)))
  sNil)
  (sFor (itT (d1 (dVar 0) (getD od 5))) (gNm 2)
  lb_Memory_init_0)))
def F_Memory_init : FDen := mkF 3 2 b_Memory_init
def b_law_choice : SDen := (sRet (d2 (dVar 1) (dFn F_law_draw (dCons (dVar 0) (dCons (dCall (dCons (dVar 1) dNil) lenD) dNil))) ixD))
def F_law_choice : FDen := mkF 2 2 b_law_choice
def b_law_command : SDen := (sSeq (sSet 2 (dFn F_law_choice (dCons (dVar 0) (dCons (dLst (dCons (dC (.str "store")) (dCons (dC (.str "store")) (dCons (dC (.str "store")) (dCons (dC (.str "flush")) (dCons (dC (.str "fence")) dNil)))))) dNil))))
  (sSeq (sSet 3 (dFn F_law_draw (dCons (dVar 0) (dCons (dCall (dCons (dVar 1) dNil) lenD) dNil))))
  (sSeq (sIf (qB (d2 (dVar 2) (dC (.str "store")) (eqC false 20)))
  (sSeq (sSet 4 (dFn F_law_draw (dCons (dVar 0) (dCons (d2 (dVar 1) (dVar 3) ixD) dNil))))
  (sRet (dTup (dCons (dVar 2) (dCons (dVar 3) (dCons (dVar 4) (dCons (dFn F_law_choice (dCons (dVar 0) (dCons (dLst (dCons (dC (.int 0)) (dCons (dC (.int 1)) (dCons (dC (.int 2)) (dCons (d1 (dC (.int 1)) negD) (dCons (d2 (dC (.int 10)) (dC (.int 20)) powD) dNil)))))) dNil))) dNil)))))))
  sNil)
  (sRet (dTup (dCons (dVar 2) (dCons (dIf (qB (d2 (dVar 2) (dC (.str "flush")) (eqC false 20))) (dVar 3) (dC (.int 0))) (dCons (dC (.int 0)) (dCons (dC (.int 0)) dNil)))))))))
def F_law_command : FDen := mkF 5 2 b_law_command
def ce_law_specs_0 : Den D := (dFn F_law_command (dCons (dVar 0) (dCons (dVar 1) dNil)))
def b_law_specs : SDen := (sRet (dLc [3] (itR1 (dCons (dFn F_law_draw (dCons (dVar 0) (dCons (d2 (dVar 2) (dC (.int 1)) addD) dNil))) dNil)) (gNm 3) pYes ce_law_specs_0))
def F_law_specs : FDen := mkF 4 3 b_law_specs
def b_Store_init : SDen := (sSeq (sFldD od 2 (dVar 0) (dVar 1))
  (sSeq (sFldD od 3 (dVar 0) (dVar 2))
  (sFldD od 6 (dVar 0) (dVar 3))))
def F_Store_init : FDen := mkF 4 4 b_Store_init
def b_Flush_init : SDen := (sFldD od 2 (dVar 0) (dVar 1))
def F_Flush_init : FDen := mkF 2 2 b_Flush_init
def b_law_done : SDen := (sSeq (sAsg (dVar 0) (gTupD 4 (gsCons (gNm 1) (gsCons (gNm 2) (gsCons (gNm 3) (gsCons (gNm 4) gsNil))))))
  (sSeq (sIf (qB (d2 (dVar 1) (dC (.str "store")) (eqC false 20)))
  (sRet (dFn (mkO od 9 F_Store_init) (dCons (dVar 2) (dCons (dVar 3) (dCons (dVar 4) dNil)))))
  sNil)
  (sRet (dIf (qB (d2 (dVar 1) (dC (.str "flush")) (eqC false 20))) (dFn (mkO od 10 F_Flush_init) (dCons (dVar 2) dNil)) (fun _ cs => .ok (.obj 11 []) cs)))))
def F_law_done : FDen := mkF 5 1 b_law_done
def lb_law_shuffled_0 : SDen := (sExpr (dML (dVar 3) (dCons (dML (dVar 2) (dCons (dFn F_law_draw (dCons (dVar 0) (dCons (dCall (dCons (dVar 2) dNil) lenD) dNil))) dNil) popD) dNil) appendD))
def lt_law_shuffled_1 : Den Bool := (qB (d2 (dVar 2) (dLst dNil) (neC false 20)))
def b_law_shuffled : SDen := (sSeq (sSet 2 (dCall (dCons (dVar 1) dNil) listC))
  (sSeq (sSet 3 (dLstC dNil))
  (sSeq (sWhile lt_law_shuffled_1
  lb_law_shuffled_0)
  (sRet (dFrz (dVar 3))))))
def F_law_shuffled : FDen := mkF 4 2 b_law_shuffled
def lb_law_spans_0 : SDen := (sIf (qB (d2 (dVar 6) (dC (.str "store")) (eqC false 20)))
  (sSeq (sAsg (d2 (d2 (dVar 2) (dVar 7) ixD) (dC (.int 1)) addD) (gIx (dVar 2) (dVar 7)))
  (sSeq (sSet 10 (d2 (d2 (dSl (dVar 4) oNone (oSome (dVar 7))) (dLst (dCons (d2 (dVar 2) (dVar 7) ixD) dNil)) addD) (dSl (dVar 4) (oSome (d2 (dVar 7) (dC (.int 1)) addD)) oNone) addD))
  (sExpr (dML (dVar 5) (dCons (dTup (dCons (dCall (dCons (dVar 10) dNil) tupleD) (dCons (dCall (dCons (dVar 2) dNil) tupleD) dNil))) dNil) appendD))))
  (sIf (qB (d2 (dVar 6) (dC (.str "flush")) (eqC false 20)))
  (sAsg (d2 (dVar 2) (dVar 7) ixD) (gIx (dVar 3) (dVar 7)))
  (sSet 4 (dCall (dCons (dVar 3) dNil) listD))))
def b_law_spans : SDen := (sSeq (sPar 2 3 (dCons (d2 (dLst (dCons (dC (.int 0)) dNil)) (dCall (dCons (dVar 0) dNil) lenD) mulLC) (dCons (d2 (dLst (dCons (dC (.int 0)) dNil)) (dCall (dCons (dVar 0) dNil) lenD) mulLC) dNil)))
  (sSeq (sSet 4 (d2 (dLst (dCons (dC (.int 0)) dNil)) (dCall (dCons (dVar 0) dNil) lenD) mulD))
  (sSeq (sSet 5 (dLstC (dCons (dTup (dCons (dCall (dCons (dVar 2) dNil) tupleD) (dCons (dCall (dCons (dVar 2) dNil) tupleD) dNil))) dNil)))
  (sSeq (sFor (itL (dVar 1)) (gTupD 4 (gsCons (gNm 6) (gsCons (gNm 7) (gsCons (gNm 8) (gsCons (gNm 9) gsNil)))))
  lb_law_spans_0)
  (sRet (dFrz (dVar 5)))))))
def F_law_spans : FDen := mkF 11 2 b_law_spans
def lb_law_number_0 : SDen := (sSet 5 (d2 (dVar 5) (d2 (d2 (dVar 7) (dVar 6) subD) (dC (.int 1)) addD) mulD))
def lb_law_number_1 : SDen := (sSeq (sSet 5 (dC (.int 1)))
  (sSeq (sFor (itZ (dCons (dVar 3) (dCons (dVar 4) dNil))) (gTupD 2 (gsCons (gNm 6) (gsCons (gNm 7) gsNil)))
  lb_law_number_0)
  (sSet 2 (d2 (dVar 2) (dVar 5) addD))))
def b_law_number : SDen := (sSeq (sSet 2 (dC (.int 0)))
  (sSeq (sFor (itL (dFn F_law_spans (dCons (dVar 0) (dCons (dVar 1) dNil)))) (gTupD 2 (gsCons (gNm 3) (gsCons (gNm 4) gsNil)))
  lb_law_number_1)
  (sRet (dVar 2))))
def F_law_number : FDen := mkF 8 2 b_law_number
def b_Memory_check_line : SDen := (sIf (qNot (qB (chainD (dC (.int 0)) (dVar 1) (dCall (dCons (d1 (dVar 0) (getD od 5)) dNil) lenD) (fun i j => decide (i ≤ j)) (fun i j => decide (i < j)))))
  (sRaise 2 [2] (dCons (dVar 1) dNil))
  sNil)
def F_Memory_check_line : FDen := mkF 2 2 b_Memory_check_line
def disp_check_line : List (Nat × FDen) := [(7, F_Memory_check_line)]
theorem lk_check_line_7 : disp_check_line.lookup 7 = some F_Memory_check_line := rfl
def b_Memory_check_word : SDen := (sSeq (sExpr (dMth od (fun c => disp_check_line.lookup c) (dVar 0) (dCons (dVar 1) dNil)))
  (sIf (qNot (qB (chainD (dC (.int 0)) (dVar 2) (d2 (d1 (dVar 0) (getD od 5)) (dVar 1) ixD) (fun i j => decide (i ≤ j)) (fun i j => decide (i < j)))))
  (sRaise 3 [3] (dCons (dVar 2) dNil))
  sNil))
def F_Memory_check_word : FDen := mkF 3 3 b_Memory_check_word
def disp_check_word : List (Nat × FDen) := [(7, F_Memory_check_word)]
theorem lk_check_word_7 : disp_check_word.lookup 7 = some F_Memory_check_word := rfl
def b_Store_check : SDen := (sExpr (dMth od (fun c => disp_check_word.lookup c) (dVar 1) (dCons (d1 (dVar 0) (getD od 2)) (dCons (d1 (dVar 0) (getD od 3)) dNil))))
def F_Store_check : FDen := mkF 2 2 b_Store_check
def b_Flush_check : SDen := (sExpr (dMth od (fun c => disp_check_line.lookup c) (dVar 1) (dCons (d1 (dVar 0) (getD od 2)) dNil)))
def F_Flush_check : FDen := mkF 2 2 b_Flush_check
def b_Command_check : SDen := sPass
def F_Command_check : FDen := mkF 2 2 b_Command_check
def disp_check : List (Nat × FDen) := [(9, F_Store_check), (10, F_Flush_check), (11, F_Command_check)]
theorem lk_check_9 : disp_check.lookup 9 = some F_Store_check := rfl
theorem lk_check_10 : disp_check.lookup 10 = some F_Flush_check := rfl
theorem lk_check_11 : disp_check.lookup 11 = some F_Command_check := rfl
def lb_check_commands_0 : SDen := (sExpr (dMth od (fun c => disp_check.lookup c) (dVar 2) (dCons (dVar 0) dNil)))
def b_check_commands : SDen := (sFor (itA (dVar 1)) (gNm 2)
  lb_check_commands_0)
def F_check_commands : FDen := mkF 3 2 b_check_commands
def b_Box_init : SDen := (sSeq (sFldD od 15 (dVar 0) (dVar 1))
  (sSeq (sFldD od 16 (dVar 0) (dCall (dCons (dVar 2) dNil) tupleD))
  (sFldD od 17 (dVar 0) (dCall (dCons (dVar 3) dNil) tupleD))))
def F_Box_init : FDen := mkF 4 4 b_Box_init
def b_Memory_zeros : SDen := (sRet (d2 (dTup (dCons (dC (.int 0)) dNil)) (dCall (dCons (d1 (dVar 0) (getD od 5)) dNil) lenD) mulD))
def F_Memory_zeros : FDen := mkF 1 1 b_Memory_zeros
def disp_zeros : List (Nat × FDen) := [(7, F_Memory_zeros)]
theorem lk_zeros_7 : disp_zeros.lookup 7 = some F_Memory_zeros := rfl
def b_Counter_init : SDen := (sSeq (sFldD od 12 (dVar 0) (d2 (dLst (dCons (dC (.int 0)) dNil)) (dCall (dCons (d1 (dVar 1) (getD od 5)) dNil) lenD) mulLC))
  (sSeq (sFldD od 13 (dVar 0) (d2 (dLst (dCons (dC (.int 0)) dNil)) (dCall (dCons (d1 (dVar 1) (getD od 5)) dNil) lenD) mulLC))
  (sFldD od 14 (dVar 0) (d2 (dLst (dCons (dC (.int 0)) dNil)) (dCall (dCons (d1 (dVar 1) (getD od 5)) dNil) lenD) mulD))))
def F_Counter_init : FDen := mkF 2 2 b_Counter_init
def b_Counter_do_command : SDen := (sIf (qB (d1 (dVar 1) (isiD isi_Store)))
  (sAsg (d2 (d2 (d1 (dVar 0) (getD od 12)) (d1 (dVar 1) (getD od 2)) ixD) (dC (.int 1)) addD) (gIx (d1 (dVar 0) (getD od 12)) (d1 (dVar 1) (getD od 2))))
  (sIf (qB (d1 (dVar 1) (isiD isi_Flush)))
  (sAsg (d2 (d1 (dVar 0) (getD od 12)) (d1 (dVar 1) (getD od 2)) ixD) (gIx (d1 (dVar 0) (getD od 13)) (d1 (dVar 1) (getD od 2))))
  (sFldD od 14 (dVar 0) (dCall (dCons (d1 (dVar 0) (getD od 13)) dNil) listD))))
def F_Counter_do_command : FDen := mkF 2 2 b_Counter_do_command
def disp_do_command : List (Nat × FDen) := [(15, F_Counter_do_command)]
theorem lk_do_command_15 : disp_do_command.lookup 15 = some F_Counter_do_command := rfl
def lb_boxes_of_0 : SDen := (sSeq (sExpr (dMth od (fun c => disp_do_command.lookup c) (dVar 3) (dCons (dVar 5) dNil)))
  (sIf (qB (d1 (dVar 5) (isiD isi_Store)))
  (sSeq (sSet 6 (dCall (dCons (d1 (dVar 3) (getD od 14)) dNil) listC))
  (sSeq (sAsg (d2 (d1 (dVar 3) (getD od 12)) (d1 (dVar 5) (getD od 2)) ixD) (gIx (dVar 6) (d1 (dVar 5) (getD od 2))))
  (sExpr (dML (dVar 2) (dCons (dFn (mkO od 16 F_Box_init) (dCons (d2 (dVar 4) (dC (.int 1)) addD) (dCons (dVar 6) (dCons (d1 (dVar 3) (getD od 12)) dNil)))) dNil) appendD))))
  sNil))
def b_boxes_of : SDen := (sSeq (sSet 2 (dLstC (dCons (dFn (mkO od 16 F_Box_init) (dCons (dC (.int 0)) (dCons (dMth od (fun c => disp_zeros.lookup c) (dVar 0) dNil) (dCons (dMth od (fun c => disp_zeros.lookup c) (dVar 0) dNil) dNil)))) dNil)))
  (sSeq (sSet 3 (dFn (mkC 15 F_Counter_init) (dCons (dVar 0) dNil)))
  (sSeq (sFor (itEnA (dCons (dVar 1) dNil)) (gTupD 2 (gsCons (gNm 4) (gsCons (gNm 5) gsNil)))
  lb_boxes_of_0)
  (sRet (dFrz (dVar 2))))))
def F_boxes_of : FDen := mkF 7 2 b_boxes_of
def lb_Box_size_0 : SDen := (sSet 1 (d2 (dVar 1) (d2 (d2 (dVar 3) (dVar 2) subD) (dC (.int 1)) addD) mulD))
def b_Box_size : SDen := (sSeq (sSet 1 (dC (.int 1)))
  (sSeq (sFor (itZ (dCons (d1 (dVar 0) (getD od 16)) (dCons (d1 (dVar 0) (getD od 17)) dNil))) (gTupD 2 (gsCons (gNm 2) (gsCons (gNm 3) gsNil)))
  lb_Box_size_0)
  (sRet (dVar 1))))
def F_Box_size : FDen := mkF 4 1 b_Box_size
def disp_size : List (Nat × FDen) := [(16, F_Box_size)]
theorem lk_size_16 : disp_size.lookup 16 = some F_Box_size := rfl
def ce_count_of_0 : Den D := (dMth od (fun c => disp_size.lookup c) (dVar 2) dNil)
def b_count_of : SDen := (sRet (dCall (dCons (dLc [2] (itL (dFn F_boxes_of (dCons (dVar 0) (dCons (dVar 1) dNil)))) (gNm 2) pYes ce_count_of_0) dNil) sumD))
def F_count_of : FDen := mkF 3 2 b_count_of
def ce_extended_0 : Den D := (d2 (dVar 6) (dVar 5) subD)
def lb_extended_1 : SDen := (sSeq (sSet 2 (d2 (dVar 2) (d2 (dVar 3) (d2 (dVar 0) (dC (.int 0)) ixD) mulD) addD))
  (sSeq (sSet 3 (d2 (d2 (dVar 3) (d2 (dVar 1) (dVar 4) subD) mulD) (d2 (dVar 4) (dC (.int 1)) addD) fdivD))
  (sSeq (sSet 4 (d2 (dVar 4) (dC (.int 1)) addD))
  (sSet 0 (dLc [5, 6] (itZ (dCons (dVar 0) (dCons (dSl (dVar 0) (oSome (dC (.int 1))) oNone) dNil))) (gTupD 2 (gsCons (gNm 5) (gsCons (gNm 6) gsNil))) pYes ce_extended_0)))))
def lt_extended_2 : Den Bool := (qB (d2 (dVar 0) (dLst dNil) (neC false 20)))
def b_extended : SDen := (sSeq (sAsg (dTup (dCons (dC (.int 0)) (dCons (dC (.int 1)) dNil))) (gTupD 2 (gsCons (gNm 2) (gsCons (gNm 3) gsNil))))
  (sSeq (sSet 4 (dC (.int 0)))
  (sSeq (sWhile lt_extended_2
  lb_extended_1)
  (sRet (dVar 2)))))
def F_extended : FDen := mkF 7 2 b_extended
def ce_count_repeated_0 : Den D := (dFn F_count_of (dCons (dVar 0) (dCons (d2 (d2 (dVar 1) (d2 (dVar 2) (dVar 8) mulD) addD) (dVar 3) addD) dNil)))
def b_count_repeated : SDen := (sSeq (sAsg (dTup (dCons (dCall (dCons (dVar 1) dNil) listD) (dCons (dCall (dCons (dVar 2) dNil) listD) (dCons (dCall (dCons (dVar 3) dNil) listD) dNil)))) (gTupD 3 (gsCons (gNm 1) (gsCons (gNm 2) (gsCons (gNm 3) gsNil)))))
  (sSeq (sSet 5 (d2 (d2 (dCall (dCons (dVar 1) dNil) lenD) (dCall (dCons (dVar 2) dNil) lenD) addD) (dCall (dCons (dVar 3) dNil) lenD) addD))
  (sSeq (sIf (qB (d2 (dVar 5) (dC (.int 20)) gtD))
  (sRaise 1 [0, 1] (dCons (dC (.str "commands")) (dCons (dVar 5) dNil)))
  sNil)
  (sSeq (sExpr (dFn F_check_commands (dCons (dVar 0) (dCons (d2 (d2 (dVar 1) (dVar 2) addD) (dVar 3) addD) dNil))))
  (sSeq (sIf (qNot (qB (chainD (dC (.int 0)) (dVar 4) (dC (.int 1000000000000000000000000000000)) (fun i j => decide (i ≤ j)) (fun i j => decide (i ≤ j)))))
  (sRaise 1 [0, 1] (dCons (dC (.str "rounds")) (dCons (dVar 4) dNil)))
  sNil)
  (sSeq (sSet 6 (d2 (d2 (dC (.int 4)) (dCall (dCons (d1 (dVar 0) (getD od 5)) dNil) lenD) addD) (dC (.int 1)) addD))
  (sSeq (sIf (qB (d2 (dVar 4) (dVar 6) leD))
  (sRet (dFn F_count_of (dCons (dVar 0) (dCons (d2 (d2 (dVar 1) (d2 (dVar 2) (dVar 4) mulD) addD) (dVar 3) addD) dNil))))
  sNil)
  (sSeq (sSet 7 (dLc [8] (itR2 (dCons (dC (.int 4)) (dCons (d2 (dVar 6) (dC (.int 1)) addD) dNil))) (gNm 8) pYes ce_count_repeated_0))
  (sRet (dFn F_extended (dCons (dVar 7) (dCons (d2 (dVar 4) (dC (.int 4)) subD) dNil))))))))))))
def F_count_repeated : FDen := mkF 9 5 b_count_repeated
def b_boxes : SDen := (sRet (dFn F_boxes_of (dCons (d1 (dVar 0) (getD od 7)) (dCons (d1 (dVar 0) (getD od 8)) dNil))))
def F_boxes : FDen := mkF 1 1 b_boxes
def ce_count_0 : Den D := (dMth od (fun c => disp_size.lookup c) (dVar 1) dNil)
def b_count : SDen := (sRet (dCall (dCons (dLc [1] (itL (dFn F_boxes (dCons (dVar 0) dNil))) (gNm 1) pYes ce_count_0) dNil) sumD))
def F_count : FDen := mkF 2 1 b_count
def b_Program_init : SDen := (sSeq (sFldD od 7 (dVar 0) (dVar 1))
  (sSeq (sFldD od 8 (dVar 0) (dCall (dCons (dVar 2) dNil) tupleD))
  (sSeq (sIf (qB (d2 (dCall (dCons (d1 (dVar 0) (getD od 8)) dNil) lenD) (dC (.int 200)) gtD))
  (sRaise 1 [0, 1] (dCons (dC (.str "commands")) (dCons (dCall (dCons (d1 (dVar 0) (getD od 8)) dNil) lenD) dNil)))
  sNil)
  (sExpr (dFn F_check_commands (dCons (dVar 1) (dCons (d1 (dVar 0) (getD od 8)) dNil)))))))
def F_Program_init : FDen := mkF 3 3 b_Program_init
def H_law_error : List Hd := (⟨[(1, true), (2, false), (3, false)], (some 1), (xTup (xCons (xAt 1 0) (xCons (xAt 1 1) xNil)))⟩ :: (⟨[(1, false), (2, true), (3, false)], (some 1), (xTup (xCons (fun _ _ _ => (dC (.str "line"))) (xCons (xAt 2 2) xNil)))⟩ :: (⟨[(1, false), (2, false), (3, true)], (some 1), (xTup (xCons (fun _ _ _ => (dC (.str "word"))) (xCons (xAt 3 3) xNil)))⟩ :: (⟨[(1, true), (2, true), (3, true)], none, (xTup (xCons (fun _ _ _ => (dC (.str "other"))) (xCons (fun _ _ _ => (dC .non)) xNil)))⟩ :: []))))
def g_law_error : SDen := (sRet (dC .non))
def lm_law_errors_right_0 : Den D := (dFn F_count_repeated (dCons (dVar 1) (dCons (dVar 7) (dCons (d2 (dVar 7) (dLst (dCons (dVar 4) dNil)) addD) (dCons (dVar 7) (dCons (dVar 6) dNil))))))
def ce_law_errors_right_1 : Den D := (dCall (dCons (dVar 11) dNil) listC)
def lm_law_errors_right_2 : Den D := (dFn F_count_repeated (dCons (dVar 1) (dCons (d2 (dVar 9) (dC (.int 0)) ixD) (dCons (d2 (dVar 9) (dC (.int 1)) ixD) (dCons (d2 (dVar 9) (dC (.int 2)) ixD) (dCons (dVar 10) dNil))))))
def lb_law_errors_right_3 : SDen := (sIf (qB (d2 (dLam 2 H_law_error g_law_error lm_law_errors_right_2) (dVar 5) (neC false 20)))
  (sRet (dC (.bl false)))
  sNil)
def lb_law_errors_right_4 : SDen := (sSeq (sSet 9 (dLcC [11] (itL (dVar 2)) (gNm 11) pYes ce_law_errors_right_1))
  (sSeq (sExpr (dML (d2 (dVar 9) (dVar 8) ixD) (dCons (dFn F_law_draw (dCons (dVar 0) (dCons (d2 (dCall (dCons (d2 (dVar 9) (dVar 8) ixD) dNil) lenD) (dC (.int 1)) addD) dNil))) (dCons (dVar 4) dNil)) insertD))
  (sSeq (sIf (qB (d2 (dVar 8) (dC (.int 2)) ltD))
  (sAsg (dLst (dCons (dFn (mkO od 10 F_Flush_init) (dCons (d2 (dVar 3) (dC (.int 3)) addD) dNil)) dNil)) (gIx (dVar 9) (dC (.int 2))))
  sNil)
  (sFor (itL (dLst (dCons (dVar 6) (dCons (dC (.int 0)) (dCons (dC (.int 1)) (dCons (dC (.int 2)) (dCons (dC (.int 5)) (dCons (dC (.int 20)) (dCons (d2 (dC (.int 10)) (dC (.int 30)) powD) dNil))))))))) (gNm 10)
  lb_law_errors_right_3))))
def lm_law_errors_right_5 : Den D := (dFn F_count_repeated (dCons (dVar 1) (dCons (d2 (dVar 2) (dC (.int 0)) ixD) (dCons (d2 (dVar 2) (dC (.int 1)) ixD) (dCons (d2 (dVar 2) (dC (.int 2)) ixD) (dCons (dVar 6) dNil))))))
def b_law_errors_right : SDen := (sSeq (sSet 3 (dCall (dCons (d1 (dVar 1) (getD od 5)) dNil) lenD))
  (sSeq (sSet 4 (dFn F_law_choice (dCons (dVar 0) (dCons (dLst (dCons (dFn (mkO od 9 F_Store_init) (dCons (dVar 3) (dCons (dC (.int 0)) (dCons (dC (.int 1)) dNil)))) (dCons (dFn (mkO od 9 F_Store_init) (dCons (dC (.int 0)) (dCons (d2 (d1 (dVar 1) (getD od 5)) (dC (.int 0)) ixD) (dCons (dC (.int 1)) dNil)))) (dCons (dFn (mkO od 10 F_Flush_init) (dCons (d1 (dC (.int 1)) negD) dNil)) (dCons (dFn (mkO od 9 F_Store_init) (dCons (dC (.int 0)) (dCons (d1 (dC (.int 1)) negD) (dCons (dC (.int 1)) dNil)))) dNil))))) dNil))))
  (sSeq (sSet 5 (dTup (dCons (dC (.str "line")) (dCons (d1 (dC (.int 1)) negD) dNil))))
  (sSeq (sIf (qB (d1 (dVar 4) (isiD isi_Store)))
  (sSet 5 (dIf (qB (d2 (d1 (dVar 4) (getD od 2)) (dVar 3) (eqC false 20))) (dTup (dCons (dC (.str "line")) (dCons (dVar 3) dNil))) (dTup (dCons (dC (.str "word")) (dCons (d1 (dVar 4) (getD od 3)) dNil)))))
  sNil)
  (sSeq (sSet 6 (dFn F_law_choice (dCons (dVar 0) (dCons (dLst (dCons (d1 (dC (.int 1)) negD) (dCons (d2 (d2 (dC (.int 10)) (dC (.int 30)) powD) (dC (.int 1)) addD) (dCons (d2 (d1 (dC (.int 5)) negD) (dFn F_law_draw (dCons (dVar 0) (dCons (d2 (dC (.int 10)) (dC (.int 20)) powD) dNil))) subD) dNil)))) dNil))))
  (sSeq (sSet 7 (d2 (dLst (dCons (fun _ cs => .ok (.obj 11 []) cs) dNil)) (dC (.int 8)) mulD))
  (sSeq (sIf (qB (d2 (dLam 2 H_law_error g_law_error lm_law_errors_right_0) (dTup (dCons (dC (.str "commands")) (dCons (dC (.int 25)) dNil))) (neC false 20)))
  (sRet (dC (.bl false)))
  sNil)
  (sSeq (sFor (itR1 (dCons (dC (.int 3)) dNil)) (gNm 8)
  lb_law_errors_right_4)
  (sRet (d2 (dLam 2 H_law_error g_law_error lm_law_errors_right_5) (dTup (dCons (dC (.str "rounds")) (dCons (dVar 6) dNil))) (eqC false 20)))))))))))
def F_law_errors_right : FDen := mkF 12 3 b_law_errors_right
def ce_law_bound_right_0 : Den D := (dCall (dCons (dVar 9) dNil) listC)
def lb_law_bound_right_1 : SDen := (sSeq (sSet 8 (dFn F_law_choice (dCons (dVar 0) (dCons (dLst (dCons (dTup (dCons (dC (.str "fence")) (dCons (dC (.int 0)) (dCons (dC (.int 0)) (dCons (dC (.int 0)) dNil))))) (dCons (dTup (dCons (dC (.str "flush")) (dCons (dFn F_law_draw (dCons (dVar 0) (dCons (dCall (dCons (dVar 1) dNil) lenD) dNil))) (dCons (dC (.int 0)) (dCons (dC (.int 0)) dNil))))) dNil))) dNil))))
  (sSeq (sSet 9 (d2 (dVar 4) (dFn F_law_draw (dCons (dVar 0) (dCons (dC (.int 3)) dNil))) ixD))
  (sExpr (dML (dVar 9) (dCons (dFn F_law_draw (dCons (dVar 0) (dCons (d2 (dCall (dCons (dVar 9) dNil) lenD) (dC (.int 1)) addD) dNil))) (dCons (dVar 8) dNil)) insertD))))
def lt_law_bound_right_2 : Den Bool := (qB (d2 (d2 (d2 (dCall (dCons (d2 (dVar 4) (dC (.int 0)) ixD) dNil) lenD) (dCall (dCons (d2 (dVar 4) (dC (.int 1)) ixD) dNil) lenD) addD) (dCall (dCons (d2 (dVar 4) (dC (.int 2)) ixD) dNil) lenD) addD) (dC (.int 20)) ltD))
def ce_law_bound_right_3 : Den D := (dFn F_law_done (dCons (dVar 8) dNil))
def ce_law_bound_right_4 : Den D := (dLc [8] (itL (dVar 9)) (gNm 8) pYes ce_law_bound_right_3)
def lb_law_bound_right_5 : SDen := (sSeq (sSet 10 (dFn F_law_number (dCons (dVar 1) (dCons (d2 (d2 (d2 (dVar 4) (dC (.int 0)) ixD) (d2 (d2 (dVar 4) (dC (.int 1)) ixD) (dVar 6) mulD) addD) (d2 (dVar 4) (dC (.int 2)) ixD) addD) dNil))))
  (sIf (qB (d2 (dFn F_count_repeated (dCons (dVar 2) (dCons (d2 (dVar 5) (dC (.int 0)) ixD) (dCons (d2 (dVar 5) (dC (.int 1)) ixD) (dCons (d2 (dVar 5) (dC (.int 2)) ixD) (dCons (dVar 6) dNil)))))) (dVar 10) (neC false 20)))
  (sRet (dC (.bl false)))
  sNil))
def lm_law_bound_right_6 : Den D := (dFn F_count_repeated (dCons (dVar 2) (dCons (d2 (dVar 5) (dC (.int 0)) ixD) (dCons (d2 (dVar 5) (dC (.int 1)) ixD) (dCons (d2 (dVar 5) (dC (.int 2)) ixD) (dCons (dC (.int 1)) dNil))))))
def b_law_bound_right : SDen := (sSeq (sSet 4 (dLc [9] (itL (dVar 3)) (gNm 9) pYes ce_law_bound_right_0))
  (sSeq (sWhile lt_law_bound_right_2
  lb_law_bound_right_1)
  (sSeq (sSet 5 (dLcC [9] (itL (dVar 4)) (gNm 9) pYes ce_law_bound_right_4))
  (sSeq (sFor (itT (dTup (dCons (dC (.int 0)) (dCons (dC (.int 1)) (dCons (dC (.int 2)) (dCons (dC (.int 5)) dNil)))))) (gNm 6)
  lb_law_bound_right_5)
  (sSeq (sSet 7 (dFn F_law_draw (dCons (dVar 0) (dCons (dC (.int 3)) dNil))))
  (sSeq (sAsg (d2 (d2 (dVar 5) (dVar 7) ixD) (dLst (dCons (fun _ cs => .ok (.obj 11 []) cs) dNil)) addD) (gIx (dVar 5) (dVar 7)))
  (sRet (d2 (dLam 2 H_law_error g_law_error lm_law_bound_right_6) (dTup (dCons (dC (.str "commands")) (dCons (dC (.int 21)) dNil))) (eqC false 20)))))))))
def F_law_bound_right : FDen := mkF 11 4 b_law_bound_right
def ce_law_0 : Den D := (dFn F_law_specs (dCons (dVar 2) (dCons (dVar 3) (dCons (dC (.int 6)) dNil))))
def ce_law_1 : Den D := (dFn F_law_done (dCons (dVar 12) dNil))
def ce_law_2 : Den D := (dLc [12] (itL (dVar 11)) (gNm 12) pYes ce_law_1)
def lb_law_3 : SDen := (sSeq (sSet 8 (dFn F_law_number (dCons (dVar 3) (dCons (d2 (d2 (d2 (dVar 5) (dC (.int 0)) ixD) (d2 (d2 (dVar 5) (dC (.int 1)) ixD) (dVar 7) mulD) addD) (d2 (dVar 5) (dC (.int 2)) ixD) addD) dNil))))
  (sSeq (sIf (qB (d2 (dFn F_count_repeated (dCons (dVar 4) (dCons (d2 (dVar 6) (dC (.int 0)) ixD) (dCons (d2 (dVar 6) (dC (.int 1)) ixD) (dCons (d2 (dVar 6) (dC (.int 2)) ixD) (dCons (dVar 7) dNil)))))) (dVar 8) (neC false 20)))
  (sRet (dC (.bl false)))
  sNil)
  (sSeq (sIf (qB (d2 (dFn F_count_repeated (dCons (dVar 4) (dCons (dCall (dCons (d2 (dVar 6) (dC (.int 0)) ixD) dNil) tupleD) (dCons (dCall (dCons (d2 (dVar 6) (dC (.int 1)) ixD) dNil) tupleD) (dCons (dCall (dCons (d2 (dVar 6) (dC (.int 2)) ixD) dNil) tupleD) (dCons (dVar 7) dNil)))))) (dVar 8) (neC false 20)))
  (sRet (dC (.bl false)))
  sNil)
  (sSeq (sSet 9 (d2 (d2 (d2 (dVar 6) (dC (.int 0)) ixD) (d2 (d2 (dVar 6) (dC (.int 1)) ixD) (dVar 7) mulD) addD) (d2 (dVar 6) (dC (.int 2)) ixD) addD))
  (sIf (qAnd (qB (d2 (dVar 7) (dC (.int 5)) ltD)) (qB (d2 (dFn F_count (dCons (dFn (mkO od 12 F_Program_init) (dCons (dVar 4) (dCons (dVar 9) dNil))) dNil)) (dVar 8) (neC false 20))))
  (sRet (dC (.bl false)))
  sNil)))))
def ce_law_4 : Den D := (dCall (dCons (dVar 10) dNil) lenD)
def ce_law_5 : Den D := (dCall (dCons (dVar 11) dNil) lenD)
def ce_law_6 : Den D := (dSl (dVar 10) oNone (oSome (dC (.int 5))))
def lb_law_7 : SDen := (sSeq (sSet 2 (dFn F_law_source (dCons (dFn F_law_cell_at (dCons (dVar 0) (dCons (dVar 1) dNil))) dNil)))
  (sSeq (sSet 3 (d2 (dFn F_law_sizes (dCons (dVar 2) dNil)) (d2 (dLst (dCons (dC (.int 1)) dNil)) (dFn F_law_draw (dCons (dVar 2) (dCons (dC (.int 3)) dNil))) mulD) addD))
  (sSeq (sSet 4 (dFn (mkO od 7 F_Memory_init) (dCons (dVar 3) dNil)))
  (sSeq (sSet 5 (dLc [10] (itR1 (dCons (dC (.int 3)) dNil)) (gNm 10) pYes ce_law_0))
  (sSeq (sSet 6 (dLc [11] (itL (dVar 5)) (gNm 11) pYes ce_law_2))
  (sSeq (sFor (itL (dFn F_law_shuffled (dCons (dVar 2) (dCons (dFrz (d1 (dC (.int 13)) lRngD)) dNil)))) (gNm 7)
  lb_law_3)
  (sSeq (sIf (qB (d2 (dLc [10] (itL (dVar 6)) (gNm 10) pYes ce_law_4) (dLc [11] (itL (dVar 5)) (gNm 11) pYes ce_law_5) (neC false 20)))
  (sRet (dC (.bl false)))
  sNil)
  (sSeq (sIf (qNot (qB (dFn F_law_errors_right (dCons (dVar 2) (dCons (dVar 4) (dCons (dLc [10] (itL (dVar 6)) (gNm 10) pYes ce_law_6) dNil))))))
  (sRet (dC (.bl false)))
  sNil)
  (sIf (qNot (qB (dFn F_law_bound_right (dCons (dVar 2) (dCons (dVar 3) (dCons (dVar 4) (dCons (dVar 5) dNil)))))))
  (sRet (dC (.bl false)))
  sNil)))))))))
def b_law : SDen := (sSeq (sFor (itR1 (dCons (dCall (dCons (dC (.int 1)) (dCons (dCall (dCons (dC (.int 3)) (dCons (dCall (dCons (dVar 0) dNil) lenD) dNil)) min2D) dNil)) max2D) dNil)) (gNm 1)
  lb_law_7)
  (sRet (dC (.bl true))))
def F_law : FDen := mkF 13 1 b_law
end
end K51
end

section
set_option Elab.async false
set_option linter.all false
set_option maxRecDepth 100000
namespace K51
open PySem L2 DL
/-! ### tools -/
theorem mulX_l {i j : Int} (h : -18446744073709551616 < i) (h' : i < 18446744073709551616) : CMulX i j := .inl (.inl ⟨h, h'⟩)
theorem mulX_r {i j : Int} (h : -18446744073709551616 < j) (h' : j < 18446744073709551616) : CMulX i j := .inl (.inr ⟨h, h'⟩)
theorem divX_s {i j : Int} (h : 0 < j) (h' : j < 1073741824) : CDivX i j := .inl ⟨h, h'⟩
theorem divX_w {i j : Int} (h : 0 < j) (h' : j.natAbs.log2 < 9000) : CDivX i j := .inr ⟨h, h'⟩
theorem end_get {cs : List Cell} {c : Cell} : (cs ++ [c])[cs.length]? = some c := by simp
theorem end_set {cs : List Cell} {c d : Cell} : (cs ++ [c]).set cs.length d = cs ++ [d] := by simp
theorem atI_nat {α : Type} {xs : List α} {n : Nat} {x : α} (h : xs[n]? = some x) : L2.atI xs (n : Int) = some x := by
  have hn := (List.getElem?_eq_some_iff.mp h).1
  unfold L2.atI L2.ixN
  rw [if_pos (by omega), if_pos (by omega)]
  simpa using h
theorem atI_int {α : Type} {xs : List α} {i : Int} {x : α} (h0 : 0 ≤ i) (h : xs[i.toNat]? = some x) : L2.atI xs i = some x := by
  have e : ((i.toNat : Nat) : Int) = i := Int.toNat_of_nonneg h0
  rw [← e]
  exact atI_nat h
theorem ixN_nat {n k : Nat} (h : k < n) : L2.ixN n (k : Int) = some k := by
  unfold L2.ixN
  rw [if_pos (by omega), if_pos (by omega)]
  simp
theorem gA {b l : List Cell} {k : Nat} : (b ++ l)[b.length + k]? = l[k]? := by
  rw [List.getElem?_append_right (Nat.le_add_right _ _)]; simp
theorem g0 {b l : List Cell} : (b ++ l)[b.length]? = l[0]? := gA (k := 0)
theorem sA {b l : List Cell} {k : Nat} {x : Cell} : (b ++ l).set (b.length + k) x = b ++ l.set k x := by
  rw [List.set_append_right _ _ (Nat.le_add_right _ _)]; simp
theorem s0 {b l : List Cell} {x : Cell} : (b ++ l).set b.length x = b ++ l.set 0 x := sA (k := 0)
theorem line_eq : (sizeLine : Nat) = 16777216 := by decide
theorem trim_keep {cs0 cs : List Cell} {b : Bool} {c : Cell} {i : Nat} (hi : i < cs0.length) (h : cs[i]? = some c) (hne : cs0[i]? ≠ some c) (hl : Cell.lt cs0.length c = false) : DL.trim cs0 cs b = cs := by
  unfold DL.trim
  rw [if_neg]
  intro z
  rcases z.2 i c hi h with q | q
  · exact hne q
  · rw [hl] at q; cases q
theorem forL_nil {chk : List Cell → Prop} {g : GDen} {b : SDen} {env : DL.Env} {cs : List Cell} (hc : chk cs) : forL chk g b [] env cs = .nx env cs := by
  unfold forL; exact if_pos hc
theorem forL_step {chk : List Cell → Prop} {g : GDen} {b : SDen} {x : D} {r : List D} {env env1 env2 : DL.Env} {cs cs1 cs2 : List Cell} (hc : chk cs) (h1 : g x env cs = .nx env1 cs1) (h2 : b env1 cs1 = .nx env2 cs2) :
    forL chk g b (x :: r) env cs = forL chk g b r env2 cs2 := by
  rw [forL]; simp only [if_pos hc, h1, h2]
theorem forL_ret {chk : List Cell → Prop} {g : GDen} {b : SDen} {x : D} {r : List D} {env env1 : DL.Env} {cs cs1 cs2 : List Cell} {d : D} (hc : chk cs) (h1 : g x env cs = .nx env1 cs1) (h2 : b env1 cs1 = .rt d cs2) :
    forL chk g b (x :: r) env cs = .rt d cs2 := by
  rw [forL]; simp only [if_pos hc, h1, h2]
/-- a comprehension without a test whose element leaves the cells as they are -/
theorem lcL_map {α : Type} {chk : List Cell → Prop} {g : GDen} {h : Den D} {env : DL.Env} {cs : List Cell} {en ψ : α → D} : ∀ (xs : List α) (acc : List D), (∀ acc, chk (cs ++ [.lst acc])) → acc.length + xs.length ≤ 1000000 →
    (∀ x ∈ xs, ∀ acc, ∃ env', g (en x) env (cs ++ [.lst acc]) = .nx env' (cs ++ [.lst acc]) ∧ h env' (cs ++ [.lst acc]) = .ok (ψ x) (cs ++ [.lst acc])) →
    lcL chk g pYes h cs.length env (xs.map en) (cs ++ [.lst acc]) = .ok () (cs ++ [.lst (acc ++ xs.map ψ)])
  | [], acc, hc, _, _ => by
    show lcL chk g pYes h cs.length env [] _ = _
    unfold lcL; rw [if_pos (hc acc)]; simp
  | x :: xs, acc, hc, hn, he => by
    obtain ⟨env', h1, h2⟩ := he x List.mem_cons_self acc
    have ih := lcL_map (en := en) (ψ := ψ) xs (acc ++ [ψ x]) hc (by simp at hn ⊢; omega) fun y hy => he y (List.mem_cons_of_mem _ hy)
    have hf : fitsL acc.length := fitsL_of (by simp at hn; omega)
    show lcL chk g pYes h cs.length env (en x :: xs.map en) _ = _
    rw [lcL]
    simp only [if_pos (hc acc), h1, h2, pYes, trim_self, end_get, if_pos hf, end_set, if_true]
    rw [ih]
    simp
theorem lc_map {α : Type} {vs : List Nat} {f : Den ItV} {g : GDen} {h : Den D} {env : DL.Env} {cs : List Cell} (xs : List α) (en ψ : α → D) {chk : List Cell → Prop} (hf : f env cs = .ok ⟨xs.map en, chk⟩ cs) (hc : ∀ acc, chk (cs ++ [.lst acc])) (hn : xs.length ≤ 1000000)
    (he : ∀ x ∈ xs, ∀ acc, ∃ env', g (en x) (wipeE env vs) (cs ++ [.lst acc]) = .nx env' (cs ++ [.lst acc]) ∧ h env' (cs ++ [.lst acc]) = .ok (ψ x) (cs ++ [.lst acc])) (hl : D.ltL cs.length (xs.map ψ) = true) :
    dLc vs f g pYes h env cs = .ok (.lst (xs.map ψ)) cs := by
  have e := lcL_map (env := wipeE env vs) (en := en) (ψ := ψ) xs [] hc (by simpa using hn) he
  unfold dLc dTr dFrz dLcC
  simp only [hf, Out.bind, e, List.nil_append, end_get, end_set]
  rw [show D.lt cs.length (.lst (xs.map ψ)) = D.ltL cs.length (xs.map ψ) from rfl, hl, trim_app]
theorem ltL_map {α : Type} {n : Nat} {ψ : α → D} : ∀ {xs : List α}, (∀ x ∈ xs, D.lt n (ψ x) = true) → D.ltL n (xs.map ψ) = true
  | [], _ => rfl
  | x :: xs, h => by
    show (D.lt n (ψ x) && D.ltL n (xs.map ψ)) = true
    rw [h x List.mem_cons_self, ltL_map fun y hy => h y (List.mem_cons_of_mem _ hy)]; rfl
theorem whileD_step {p : Den Bool} {b : SDen} {n : Nat} {env env2 : DL.Env} {cs cs2 : List Cell} (h1 : p env cs = .ok true cs) (h2 : b env cs = .nx env2 cs2) : whileD p b (n + 1) env cs = whileD p b n env2 cs2 := by
  rw [whileD]; simp only [h1, h2, Out.bindS, if_true]
theorem whileD_stop {p : Den Bool} {b : SDen} {n : Nat} {env : DL.Env} {cs : List Cell} (h1 : p env cs = .ok false cs) : whileD p b (n + 1) env cs = .nx env cs := by
  rw [whileD]; simp only [h1, Out.bindS]; rfl
theorem okL_nil {ob : Bool} {n : Nat} : D.okL ob [] n = true := by unfold D.okL; rfl

def ilist (xs : List Int) : List D := xs.map D.int
theorem il_get {xs : List Int} {i : Nat} : (ilist xs)[i]? = (xs[i]?).map D.int := by unfold ilist; simp
theorem il_len {xs : List Int} : (ilist xs).length = xs.length := by unfold ilist; simp
theorem ltL_il {n : Nat} : ∀ xs : List Int, D.ltL n (ilist xs) = true
  | [] => rfl
  | x :: xs => by
    show (D.lt n (.int x) && D.ltL n (ilist xs)) = true
    rw [ltL_il xs]; rfl
/-! ### Memory -/
theorem mem_loop : ∀ (xs : List Int) (a b : Option D) (o : Option D) (cs : List Cell), (∀ x ∈ xs, 1 ≤ x ∧ x ≤ 4) → ∃ o', forL noChk (gNm 2) lb_Memory_init_0 (ilist xs) [a, b, o] cs = .nx [a, b, o'] cs
  | [], a, b, o, cs, _ => ⟨o, forL_nil trivial⟩
  | x :: xs, a, b, o, cs, h => by
    obtain ⟨h1, h2⟩ := h x List.mem_cons_self
    obtain ⟨o', e⟩ := mem_loop xs a b (some (.int x)) cs fun y hy => h y (List.mem_cons_of_mem _ hy)
    refine ⟨o', (forL_step (r := ilist xs) trivial rfl ?_).trans e⟩
    simp [lb_Memory_init_0, mkF, finS, env0, sSeq, sNil, sIf, sSet, sAsg, sExpr, sRet, sRetN, sPass, sNo, sPar, sPar3, sFor, Out.bind, Out.bindS, dVar, dC, d1, d2, dNil, dCons, dTup, dLst, dLstC, dCall, dFn, dIf, dML, dSl, oNone, oSome, dFrz, qB, qNot, qAnd, qOr, qTru, eNot, eAnd, eOr, gNm, gTupD, gsCons, gsNil, gIx, addD, subD, mulD, fdivD, modD, powD, negD, ltD, leD, gtD, geD, cmpD, chainD, both, asI, asS, asB, intX, lenD, tupleD, listD, listC, absD, max2D, min2D, itemsL, itemsT, itemsS, ixD, getD, atK, isC, isNonD, List.length_cons, List.length_nil, List.map_cons, List.map_nil, List.getElem?_cons_zero, List.getElem?_cons_succ, List.set_cons_zero, List.set_cons_succ, List.cons_append, List.nil_append, List.replicate_succ, List.replicate_zero, if_true, if_false, reduceIte, decide_eq_true_eq, L2.atI, L2.ixN, lenD1, itL, itT, itA, itS, itR1, itR2, itEn, itEnA, itZ, sFldD, DL.putK, end_get, end_set, List.mem_cons, List.not_mem_nil, or_false, false_or, or_true, true_or, D.lt, D.ltL, Bool.and_true, Bool.true_and, trim_app, gA, g0, sA, s0, List.append_assoc, List.length_append, trim_len, fits_of, fitsL_of, in63_of, in63F_of, in62_of, lo63_of, hi63_of, hi63F_of, few_of, le640_of, h1, h2]
theorem F_memory (xs : List Int) (cs : List Cell) (h1 : 1 ≤ xs.length) (h2 : xs.length ≤ 6) (h : ∀ x ∈ xs, 1 ≤ x ∧ x ≤ 4) :
    mkO od 7 F_Memory_init [.lst (ilist xs)] cs = .ok (.obj 7 [.tup (ilist xs)]) cs := by
  unfold mkO F_Memory_init b_Memory_init
  have hb : xs.length ≤ 1000000 := by omega
  obtain ⟨o', e⟩ := mem_loop xs (some (.cell cs.length)) (some (.lst (ilist xs))) none (cs ++ [.ins 7 [5] [.tup (ilist xs)]]) h
  have hb2 : (1 : Int) ≤ (xs.length : Int) := by omega
  have hb3 : (xs.length : Int) ≤ 6 := by omega
  simp [mkF, finS, env0, sSeq, sNil, sIf, sSet, sAsg, sExpr, sRet, sRetN, sPass, sNo, sPar, sPar3, sFor, Out.bind, Out.bindS, dVar, dC, d1, d2, dNil, dCons, dTup, dLst, dLstC, dCall, dFn, dIf, dML, dSl, oNone, oSome, dFrz, qB, qNot, qAnd, qOr, qTru, eNot, eAnd, eOr, gNm, gTupD, gsCons, gsNil, gIx, addD, subD, mulD, fdivD, modD, powD, negD, ltD, leD, gtD, geD, cmpD, chainD, both, asI, asS, asB, intX, lenD, tupleD, listD, listC, absD, max2D, min2D, itemsL, itemsT, itemsS, ixD, getD, atK, isC, isNonD, List.length_cons, List.length_nil, List.map_cons, List.map_nil, List.getElem?_cons_zero, List.getElem?_cons_succ, List.set_cons_zero, List.set_cons_succ, List.cons_append, List.nil_append, List.replicate_succ, List.replicate_zero, if_true, if_false, reduceIte, decide_eq_true_eq, L2.atI, L2.ixN, lenD1, itL, itT, itA, itS, itR1, itR2, itEn, itEnA, itZ, sFldD, DL.putK, end_get, end_set, List.mem_cons, List.not_mem_nil, or_false, false_or, or_true, true_or, D.lt, D.ltL, Bool.and_true, Bool.true_and, trim_app, gA, g0, sA, s0, List.append_assoc, List.length_append, trim_len, fits_of, fitsL_of, in63_of, in63F_of, in62_of, lo63_of, hi63_of, hi63F_of, few_of, le640_of, od, il_len, hb2, hb3, hb, e, ltL_il]

inductive Cm where
  | S (l : Nat) (w n : Int) | F (l : Nat) | X
def Cm.ob : Cm → D
  | .S l w n => .obj 9 [.int l, .int w, .int n]
  | .F l => .obj 10 [.int l]
  | .X => .obj 11 []
def memD (xs : List Int) : D := .obj 7 [.tup (ilist xs)]
/-- what check asks -/
def Cm.ok (xs : List Int) : Cm → Prop
  | .S l w _ => ∃ x, xs[l]? = some x ∧ 0 ≤ w ∧ w < x
  | .F l => l < xs.length
  | .X => True
theorem F_check_line (xs : List Int) (l : Nat) (cs : List Cell) (h : l < xs.length) (hb : xs.length ≤ 6) : F_Memory_check_line [memD xs, .int l] cs = .ok .non cs := by
  have hb2 : xs.length ≤ 1000000 := by omega
  have h0 : (0 : Int) ≤ (l : Int) := by omega
  have h1 : (l : Int) < (xs.length : Int) := by omega
  unfold F_Memory_check_line b_Memory_check_line memD
  simp [mkF, finS, env0, sSeq, sNil, sIf, sSet, sAsg, sExpr, sRet, sRetN, sPass, sNo, sPar, sPar3, sFor, Out.bind, Out.bindS, dVar, dC, d1, d2, dNil, dCons, dTup, dLst, dLstC, dCall, dFn, dIf, dML, dSl, oNone, oSome, dFrz, qB, qNot, qAnd, qOr, qTru, eNot, eAnd, eOr, gNm, gTupD, gsCons, gsNil, gIx, addD, subD, mulD, fdivD, modD, powD, negD, ltD, leD, gtD, geD, cmpD, chainD, both, asI, asS, asB, intX, lenD, tupleD, listD, listC, absD, max2D, min2D, itemsL, itemsT, itemsS, ixD, getD, atK, isC, isNonD, List.length_cons, List.length_nil, List.map_cons, List.map_nil, List.getElem?_cons_zero, List.getElem?_cons_succ, List.set_cons_zero, List.set_cons_succ, List.cons_append, List.nil_append, List.replicate_succ, List.replicate_zero, if_true, if_false, reduceIte, decide_eq_true_eq, L2.atI, L2.ixN, lenD1, itL, itT, itA, itS, itR1, itR2, itEn, itEnA, itZ, sFldD, DL.putK, end_get, end_set, List.mem_cons, List.not_mem_nil, or_false, false_or, or_true, true_or, D.lt, D.ltL, Bool.and_true, Bool.true_and, trim_app, gA, g0, sA, s0, List.append_assoc, List.length_append, trim_len, fits_of, fitsL_of, in63_of, in63F_of, in62_of, lo63_of, hi63_of, hi63F_of, few_of, le640_of, od, il_len, hb2, h0, h1, h, trim_len]
theorem F_check_word (xs : List Int) (l : Nat) (w x : Int) (cs : List Cell) (h : xs[l]? = some x) (hb : xs.length ≤ 6) (w0 : 0 ≤ w) (w1 : w < x) : F_Memory_check_word [memD xs, .int l, .int w] cs = .ok .non cs := by
  obtain ⟨hl, rfl⟩ := List.getElem?_eq_some_iff.mp h
  have e := F_check_line xs l cs hl hb
  unfold F_Memory_check_word b_Memory_check_word
  unfold memD at e ⊢
  simp [mkF, finS, env0, sSeq, sNil, sIf, sSet, sAsg, sExpr, sRet, sRetN, sPass, sNo, sPar, sPar3, sFor, Out.bind, Out.bindS, dVar, dC, d1, d2, dNil, dCons, dTup, dLst, dLstC, dCall, dFn, dIf, dML, dSl, oNone, oSome, dFrz, qB, qNot, qAnd, qOr, qTru, eNot, eAnd, eOr, gNm, gTupD, gsCons, gsNil, gIx, addD, subD, mulD, fdivD, modD, powD, negD, ltD, leD, gtD, geD, cmpD, chainD, both, asI, asS, asB, intX, lenD, tupleD, listD, listC, absD, max2D, min2D, itemsL, itemsT, itemsS, ixD, getD, atK, isC, isNonD, List.length_cons, List.length_nil, List.map_cons, List.map_nil, List.getElem?_cons_zero, List.getElem?_cons_succ, List.set_cons_zero, List.set_cons_succ, List.cons_append, List.nil_append, List.replicate_succ, List.replicate_zero, if_true, if_false, reduceIte, decide_eq_true_eq, L2.atI, L2.ixN, lenD1, itL, itT, itA, itS, itR1, itR2, itEn, itEnA, itZ, sFldD, DL.putK, end_get, end_set, List.mem_cons, List.not_mem_nil, or_false, false_or, or_true, true_or, D.lt, D.ltL, Bool.and_true, Bool.true_and, trim_app, gA, g0, sA, s0, List.append_assoc, List.length_append, trim_len, fits_of, fitsL_of, in63_of, in63F_of, in62_of, lo63_of, hi63_of, hi63F_of, few_of, le640_of, dMth, clsOf, lk_check_line_7, e, od, il_len, il_get, h, hl, w0, Int.not_le.mpr w1]
theorem F_Store_chk (xs : List Int) (l : Nat) (w n : Int) (cs : List Cell) (h : Cm.ok xs (.S l w n)) (hb : xs.length ≤ 6) : F_Store_check [(Cm.S l w n).ob, memD xs] cs = .ok .non cs := by
  obtain ⟨x, h1, h2, h3⟩ := h
  have e := F_check_word xs l w x cs h1 hb h2 h3
  unfold F_Store_check b_Store_check Cm.ob
  unfold memD at e ⊢
  simp [mkF, finS, env0, sSeq, sNil, sIf, sSet, sAsg, sExpr, sRet, sRetN, sPass, sNo, sPar, sPar3, sFor, Out.bind, Out.bindS, dVar, dC, d1, d2, dNil, dCons, dTup, dLst, dLstC, dCall, dFn, dIf, dML, dSl, oNone, oSome, dFrz, qB, qNot, qAnd, qOr, qTru, eNot, eAnd, eOr, gNm, gTupD, gsCons, gsNil, gIx, addD, subD, mulD, fdivD, modD, powD, negD, ltD, leD, gtD, geD, cmpD, chainD, both, asI, asS, asB, intX, lenD, tupleD, listD, listC, absD, max2D, min2D, itemsL, itemsT, itemsS, ixD, getD, atK, isC, isNonD, List.length_cons, List.length_nil, List.map_cons, List.map_nil, List.getElem?_cons_zero, List.getElem?_cons_succ, List.set_cons_zero, List.set_cons_succ, List.cons_append, List.nil_append, List.replicate_succ, List.replicate_zero, if_true, if_false, reduceIte, decide_eq_true_eq, L2.atI, L2.ixN, lenD1, itL, itT, itA, itS, itR1, itR2, itEn, itEnA, itZ, sFldD, DL.putK, end_get, end_set, List.mem_cons, List.not_mem_nil, or_false, false_or, or_true, true_or, D.lt, D.ltL, Bool.and_true, Bool.true_and, trim_app, gA, g0, sA, s0, List.append_assoc, List.length_append, trim_len, fits_of, fitsL_of, in63_of, in63F_of, in62_of, lo63_of, hi63_of, hi63F_of, few_of, le640_of, dMth, clsOf, lk_check_word_7, e, od]
theorem F_Flush_chk (xs : List Int) (l : Nat) (cs : List Cell) (h : l < xs.length) (hb : xs.length ≤ 6) : F_Flush_check [(Cm.F l).ob, memD xs] cs = .ok .non cs := by
  have e := F_check_line xs l cs h hb
  unfold F_Flush_check b_Flush_check Cm.ob
  unfold memD at e ⊢
  simp [mkF, finS, env0, sSeq, sNil, sIf, sSet, sAsg, sExpr, sRet, sRetN, sPass, sNo, sPar, sPar3, sFor, Out.bind, Out.bindS, dVar, dC, d1, d2, dNil, dCons, dTup, dLst, dLstC, dCall, dFn, dIf, dML, dSl, oNone, oSome, dFrz, qB, qNot, qAnd, qOr, qTru, eNot, eAnd, eOr, gNm, gTupD, gsCons, gsNil, gIx, addD, subD, mulD, fdivD, modD, powD, negD, ltD, leD, gtD, geD, cmpD, chainD, both, asI, asS, asB, intX, lenD, tupleD, listD, listC, absD, max2D, min2D, itemsL, itemsT, itemsS, ixD, getD, atK, isC, isNonD, List.length_cons, List.length_nil, List.map_cons, List.map_nil, List.getElem?_cons_zero, List.getElem?_cons_succ, List.set_cons_zero, List.set_cons_succ, List.cons_append, List.nil_append, List.replicate_succ, List.replicate_zero, if_true, if_false, reduceIte, decide_eq_true_eq, L2.atI, L2.ixN, lenD1, itL, itT, itA, itS, itR1, itR2, itEn, itEnA, itZ, sFldD, DL.putK, end_get, end_set, List.mem_cons, List.not_mem_nil, or_false, false_or, or_true, true_or, D.lt, D.ltL, Bool.and_true, Bool.true_and, trim_app, gA, g0, sA, s0, List.append_assoc, List.length_append, trim_len, fits_of, fitsL_of, in63_of, in63F_of, in62_of, lo63_of, hi63_of, hi63F_of, few_of, le640_of, dMth, clsOf, lk_check_line_7, e, od]
theorem F_X_chk (a b : D) (cs : List Cell) : F_Command_check [a, b] cs = .ok .non cs := by
  unfold F_Command_check b_Command_check
  simp [mkF, finS, env0, sSeq, sNil, sIf, sSet, sAsg, sExpr, sRet, sRetN, sPass, sNo, sPar, sPar3, sFor, Out.bind, Out.bindS, dVar, dC, d1, d2, dNil, dCons, dTup, dLst, dLstC, dCall, dFn, dIf, dML, dSl, oNone, oSome, dFrz, qB, qNot, qAnd, qOr, qTru, eNot, eAnd, eOr, gNm, gTupD, gsCons, gsNil, gIx, addD, subD, mulD, fdivD, modD, powD, negD, ltD, leD, gtD, geD, cmpD, chainD, both, asI, asS, asB, intX, lenD, tupleD, listD, listC, absD, max2D, min2D, itemsL, itemsT, itemsS, ixD, getD, atK, isC, isNonD, List.length_cons, List.length_nil, List.map_cons, List.map_nil, List.getElem?_cons_zero, List.getElem?_cons_succ, List.set_cons_zero, List.set_cons_succ, List.cons_append, List.nil_append, List.replicate_succ, List.replicate_zero, if_true, if_false, reduceIte, decide_eq_true_eq, L2.atI, L2.ixN, lenD1, itL, itT, itA, itS, itR1, itR2, itEn, itEnA, itZ, sFldD, DL.putK, end_get, end_set, List.mem_cons, List.not_mem_nil, or_false, false_or, or_true, true_or, D.lt, D.ltL, Bool.and_true, Bool.true_and, trim_app, gA, g0, sA, s0, List.append_assoc, List.length_append, trim_len, fits_of, fitsL_of, in63_of, in63F_of, in62_of, lo63_of, hi63_of, hi63F_of, few_of, le640_of]
def obs (r : List Cm) : List D := r.map Cm.ob
theorem chk_loop (xs : List Int) (hb : xs.length ≤ 6) : ∀ (r : List Cm) (o b : Option D) (cs : List Cell) (chk : List Cell → Prop), chk cs → (∀ c ∈ r, c.ok xs) →
    ∃ o', forL chk (gNm 2) lb_check_commands_0 (obs r) [some (memD xs), b, o] cs = .nx [some (memD xs), b, o'] cs
  | [], o, b, cs, chk, hc, _ => ⟨o, forL_nil hc⟩
  | c :: r, o, b, cs, chk, hc, h => by
    obtain ⟨o', e⟩ := chk_loop xs hb r (some c.ob) b cs chk hc fun y hy => h y (List.mem_cons_of_mem _ hy)
    refine ⟨o', (forL_step (r := obs r) hc rfl ?_).trans e⟩
    have hk := h c List.mem_cons_self
    cases c with
    | S l w n =>
      have e2 := F_Store_chk xs l w n cs hk hb
      unfold Cm.ob at e2 ⊢
      simp [lb_check_commands_0, mkF, finS, env0, sSeq, sNil, sIf, sSet, sAsg, sExpr, sRet, sRetN, sPass, sNo, sPar, sPar3, sFor, Out.bind, Out.bindS, dVar, dC, d1, d2, dNil, dCons, dTup, dLst, dLstC, dCall, dFn, dIf, dML, dSl, oNone, oSome, dFrz, qB, qNot, qAnd, qOr, qTru, eNot, eAnd, eOr, gNm, gTupD, gsCons, gsNil, gIx, addD, subD, mulD, fdivD, modD, powD, negD, ltD, leD, gtD, geD, cmpD, chainD, both, asI, asS, asB, intX, lenD, tupleD, listD, listC, absD, max2D, min2D, itemsL, itemsT, itemsS, ixD, getD, atK, isC, isNonD, List.length_cons, List.length_nil, List.map_cons, List.map_nil, List.getElem?_cons_zero, List.getElem?_cons_succ, List.set_cons_zero, List.set_cons_succ, List.cons_append, List.nil_append, List.replicate_succ, List.replicate_zero, if_true, if_false, reduceIte, decide_eq_true_eq, L2.atI, L2.ixN, lenD1, itL, itT, itA, itS, itR1, itR2, itEn, itEnA, itZ, sFldD, DL.putK, end_get, end_set, List.mem_cons, List.not_mem_nil, or_false, false_or, or_true, true_or, D.lt, D.ltL, Bool.and_true, Bool.true_and, trim_app, gA, g0, sA, s0, List.append_assoc, List.length_append, trim_len, fits_of, fitsL_of, in63_of, in63F_of, in62_of, lo63_of, hi63_of, hi63F_of, few_of, le640_of, dMth, clsOf, lk_check_9, e2, od]
    | F l =>
      have e2 := F_Flush_chk xs l cs hk hb
      unfold Cm.ob at e2 ⊢
      simp [lb_check_commands_0, mkF, finS, env0, sSeq, sNil, sIf, sSet, sAsg, sExpr, sRet, sRetN, sPass, sNo, sPar, sPar3, sFor, Out.bind, Out.bindS, dVar, dC, d1, d2, dNil, dCons, dTup, dLst, dLstC, dCall, dFn, dIf, dML, dSl, oNone, oSome, dFrz, qB, qNot, qAnd, qOr, qTru, eNot, eAnd, eOr, gNm, gTupD, gsCons, gsNil, gIx, addD, subD, mulD, fdivD, modD, powD, negD, ltD, leD, gtD, geD, cmpD, chainD, both, asI, asS, asB, intX, lenD, tupleD, listD, listC, absD, max2D, min2D, itemsL, itemsT, itemsS, ixD, getD, atK, isC, isNonD, List.length_cons, List.length_nil, List.map_cons, List.map_nil, List.getElem?_cons_zero, List.getElem?_cons_succ, List.set_cons_zero, List.set_cons_succ, List.cons_append, List.nil_append, List.replicate_succ, List.replicate_zero, if_true, if_false, reduceIte, decide_eq_true_eq, L2.atI, L2.ixN, lenD1, itL, itT, itA, itS, itR1, itR2, itEn, itEnA, itZ, sFldD, DL.putK, end_get, end_set, List.mem_cons, List.not_mem_nil, or_false, false_or, or_true, true_or, D.lt, D.ltL, Bool.and_true, Bool.true_and, trim_app, gA, g0, sA, s0, List.append_assoc, List.length_append, trim_len, fits_of, fitsL_of, in63_of, in63F_of, in62_of, lo63_of, hi63_of, hi63F_of, few_of, le640_of, dMth, clsOf, lk_check_10, e2, od]
    | X =>
      have e2 := F_X_chk (Cm.X).ob (memD xs) cs
      unfold Cm.ob at e2 ⊢
      simp [lb_check_commands_0, mkF, finS, env0, sSeq, sNil, sIf, sSet, sAsg, sExpr, sRet, sRetN, sPass, sNo, sPar, sPar3, sFor, Out.bind, Out.bindS, dVar, dC, d1, d2, dNil, dCons, dTup, dLst, dLstC, dCall, dFn, dIf, dML, dSl, oNone, oSome, dFrz, qB, qNot, qAnd, qOr, qTru, eNot, eAnd, eOr, gNm, gTupD, gsCons, gsNil, gIx, addD, subD, mulD, fdivD, modD, powD, negD, ltD, leD, gtD, geD, cmpD, chainD, both, asI, asS, asB, intX, lenD, tupleD, listD, listC, absD, max2D, min2D, itemsL, itemsT, itemsS, ixD, getD, atK, isC, isNonD, List.length_cons, List.length_nil, List.map_cons, List.map_nil, List.getElem?_cons_zero, List.getElem?_cons_succ, List.set_cons_zero, List.set_cons_succ, List.cons_append, List.nil_append, List.replicate_succ, List.replicate_zero, if_true, if_false, reduceIte, decide_eq_true_eq, L2.atI, L2.ixN, lenD1, itL, itT, itA, itS, itR1, itR2, itEn, itEnA, itZ, sFldD, DL.putK, end_get, end_set, List.mem_cons, List.not_mem_nil, or_false, false_or, or_true, true_or, D.lt, D.ltL, Bool.and_true, Bool.true_and, trim_app, gA, g0, sA, s0, List.append_assoc, List.length_append, trim_len, fits_of, fitsL_of, in63_of, in63F_of, in62_of, lo63_of, hi63_of, hi63F_of, few_of, le640_of, dMth, clsOf, lk_check_11, e2, od]
theorem F_chk (xs : List Int) (r : List Cm) (cs : List Cell) (hb : xs.length ≤ 6) (h : ∀ c ∈ r, c.ok xs) : F_check_commands [memD xs, .lst (obs r)] cs = .ok .non cs := by
  obtain ⟨o', e⟩ := chk_loop xs hb r none (some (.lst (obs r))) cs noChk trivial h
  unfold F_check_commands b_check_commands
  simp [mkF, finS, env0, sSeq, sNil, sIf, sSet, sAsg, sExpr, sRet, sRetN, sPass, sNo, sPar, sPar3, sFor, Out.bind, Out.bindS, dVar, dC, d1, d2, dNil, dCons, dTup, dLst, dLstC, dCall, dFn, dIf, dML, dSl, oNone, oSome, dFrz, qB, qNot, qAnd, qOr, qTru, eNot, eAnd, eOr, gNm, gTupD, gsCons, gsNil, gIx, addD, subD, mulD, fdivD, modD, powD, negD, ltD, leD, gtD, geD, cmpD, chainD, both, asI, asS, asB, intX, lenD, tupleD, listD, listC, absD, max2D, min2D, itemsL, itemsT, itemsS, ixD, getD, atK, isC, isNonD, List.length_cons, List.length_nil, List.map_cons, List.map_nil, List.getElem?_cons_zero, List.getElem?_cons_succ, List.set_cons_zero, List.set_cons_succ, List.cons_append, List.nil_append, List.replicate_succ, List.replicate_zero, if_true, if_false, reduceIte, decide_eq_true_eq, L2.atI, L2.ixN, lenD1, itL, itT, itA, itS, itR1, itR2, itEn, itEnA, itZ, sFldD, DL.putK, end_get, end_set, List.mem_cons, List.not_mem_nil, or_false, false_or, or_true, true_or, D.lt, D.ltL, Bool.and_true, Bool.true_and, trim_app, gA, g0, sA, s0, List.append_assoc, List.length_append, trim_len, fits_of, fitsL_of, in63_of, in63F_of, in62_of, lo63_of, hi63_of, hi63F_of, few_of, le640_of, e]
/-! ### counting, plainly -/
def zer (n : Nat) : List Int := List.replicate n 0
theorem zer_flat (n : Nat) : (List.replicate n [D.int 0]).flatten = ilist (zer n) := by
  unfold ilist zer
  induction n with
  | zero => rfl
  | succ n ih => simp [List.replicate_succ, ih]
theorem zer_rep (n : Nat) : List.replicate n (D.int 0) = ilist (zer n) := by simp [ilist, zer]
theorem rep_of {xs : List D} {k : Int} (h1 : xs ≠ []) (h2 : 2 ≤ k) (h3 : k ≤ 1000) (h4 : xs.length ≤ 1000) : repOk xs k := ⟨h1, h2, h3, h4⟩
theorem F_zeros (xs : List Int) (cs : List Cell) (h1 : 1 ≤ xs.length) (hb : xs.length ≤ 6) : F_Memory_zeros [memD xs] cs = .ok (.tup (ilist (zer xs.length))) cs := by
  have hb2 : xs.length ≤ 1000000 := by omega
  unfold F_Memory_zeros b_Memory_zeros memD
  by_cases h : xs.length = 1
  · simp [mkF, finS, env0, sSeq, sNil, sIf, sSet, sAsg, sExpr, sRet, sRetN, sPass, sNo, sPar, sPar3, sFor, Out.bind, Out.bindS, dVar, dC, d1, d2, dNil, dCons, dTup, dLst, dLstC, dCall, dFn, dIf, dML, dSl, oNone, oSome, dFrz, qB, qNot, qAnd, qOr, qTru, eNot, eAnd, eOr, gNm, gTupD, gsCons, gsNil, gIx, addD, subD, mulD, fdivD, modD, powD, negD, ltD, leD, gtD, geD, cmpD, chainD, both, asI, asS, asB, intX, lenD, tupleD, listD, listC, absD, max2D, min2D, itemsL, itemsT, itemsS, ixD, getD, atK, isC, isNonD, List.length_cons, List.length_nil, List.map_cons, List.map_nil, List.getElem?_cons_zero, List.getElem?_cons_succ, List.set_cons_zero, List.set_cons_succ, List.cons_append, List.nil_append, List.replicate_succ, List.replicate_zero, if_true, if_false, reduceIte, decide_eq_true_eq, L2.atI, L2.ixN, lenD1, itL, itT, itA, itS, itR1, itR2, itEn, itEnA, itZ, sFldD, DL.putK, end_get, end_set, List.mem_cons, List.not_mem_nil, or_false, false_or, or_true, true_or, D.lt, D.ltL, Bool.and_true, Bool.true_and, trim_app, gA, g0, sA, s0, List.append_assoc, List.length_append, trim_len, fits_of, fitsL_of, in63_of, in63F_of, in62_of, lo63_of, hi63_of, hi63F_of, few_of, le640_of, od, il_len, hb2, h, zer, ilist, ltL_il]
  · have h2 : ¬ ((xs.length : Int) = 1) := by omega
    have h3 : repOk [D.int 0] (xs.length : Int) := rep_of (by simp) (by omega) (by omega) (by simp)
    simp [mkF, finS, env0, sSeq, sNil, sIf, sSet, sAsg, sExpr, sRet, sRetN, sPass, sNo, sPar, sPar3, sFor, Out.bind, Out.bindS, dVar, dC, d1, d2, dNil, dCons, dTup, dLst, dLstC, dCall, dFn, dIf, dML, dSl, oNone, oSome, dFrz, qB, qNot, qAnd, qOr, qTru, eNot, eAnd, eOr, gNm, gTupD, gsCons, gsNil, gIx, addD, subD, mulD, fdivD, modD, powD, negD, ltD, leD, gtD, geD, cmpD, chainD, both, asI, asS, asB, intX, lenD, tupleD, listD, listC, absD, max2D, min2D, itemsL, itemsT, itemsS, ixD, getD, atK, isC, isNonD, List.length_cons, List.length_nil, List.map_cons, List.map_nil, List.getElem?_cons_zero, List.getElem?_cons_succ, List.set_cons_zero, List.set_cons_succ, List.cons_append, List.nil_append, List.replicate_succ, List.replicate_zero, if_true, if_false, reduceIte, decide_eq_true_eq, L2.atI, L2.ixN, lenD1, itL, itT, itA, itS, itR1, itR2, itEn, itEnA, itZ, sFldD, DL.putK, end_get, end_set, List.mem_cons, List.not_mem_nil, or_false, false_or, or_true, true_or, D.lt, D.ltL, Bool.and_true, Bool.true_and, trim_app, gA, g0, sA, s0, List.append_assoc, List.length_append, trim_len, fits_of, fitsL_of, in63_of, in63F_of, in62_of, lo63_of, hi63_of, hi63F_of, few_of, le640_of, od, il_len, hb2, h, h2, h3, zer_rep, ltL_il]
end K51
end

section
set_option Elab.async false
set_option linter.all false
set_option maxRecDepth 100000
namespace K51
open PySem L2 DL
theorem F_Counter (xs : List Int) (cs : List Cell) (h1 : 1 ≤ xs.length) (hb : xs.length ≤ 6) :
    mkC 15 F_Counter_init [memD xs] cs = .ok (.cell cs.length) (cs ++ [.ins 15 [12, 13, 14] [.cell (cs.length + 1), .cell (cs.length + 2), .lst (ilist (zer xs.length))], .lst (ilist (zer xs.length)), .lst (ilist (zer xs.length))]) := by
  have hb2 : xs.length ≤ 1000000 := by omega
  have k1 : in63F (xs.length : Int) xs.length := in63F_of (by omega) (by omega) (by omega)
  unfold mkC F_Counter_init b_Counter_init memD
  simp [mkF, finS, env0, sSeq, sNil, sIf, sSet, sAsg, sExpr, sRet, sRetN, sPass, sNo, sPar, sPar3, sFor, Out.bind, Out.bindS, dVar, dC, d1, d2, dNil, dCons, dTup, dLst, dLstC, dCall, dFn, dIf, dML, dSl, oNone, oSome, dFrz, qB, qNot, qAnd, qOr, qTru, eNot, eAnd, eOr, gNm, gTupD, gsCons, gsNil, gIx, addD, subD, mulD, fdivD, modD, powD, negD, ltD, leD, gtD, geD, cmpD, chainD, both, asI, asS, asB, intX, lenD, tupleD, listD, listC, absD, max2D, min2D, itemsL, itemsT, itemsS, ixD, getD, atK, isC, isNonD, List.length_cons, List.length_nil, List.map_cons, List.map_nil, List.getElem?_cons_zero, List.getElem?_cons_succ, List.set_cons_zero, List.set_cons_succ, List.cons_append, List.nil_append, List.replicate_succ, List.replicate_zero, if_true, if_false, reduceIte, decide_eq_true_eq, L2.atI, L2.ixN, lenD1, itL, itT, itA, itS, itR1, itR2, itEn, itEnA, itZ, sFldD, DL.putK, end_get, end_set, List.mem_cons, List.not_mem_nil, or_false, false_or, or_true, true_or, D.lt, D.ltL, Bool.and_true, Bool.true_and, trim_app, gA, g0, sA, s0, List.append_assoc, List.length_append, trim_len, fits_of, fitsL_of, in63_of, in63F_of, in62_of, lo63_of, hi63_of, hi63F_of, few_of, le640_of, od, il_len, hb2, k1, mulLC, zer_rep]
  rw [trim_keep (i := cs.length) (c := .ins 15 [12, 13, 14] [.cell (cs.length + 1), .cell (cs.length + 2), .lst (ilist (zer xs.length))]) (by simp) (by simp) (by simp) (by simp [Cell.lt, D.lt, D.ltL])]
theorem F_Box (t : Int) (x y : D) (xs ys : List D) (cs : List Cell) (hx : ∀ c, tupleD [x] (cs ++ [c]) = .ok (.tup xs) (cs ++ [c])) (hy : ∀ c, tupleD [y] (cs ++ [c]) = .ok (.tup ys) (cs ++ [c])) (lx : D.ltL cs.length xs = true) (ly : D.ltL cs.length ys = true) :
    mkO od 16 F_Box_init [.int t, x, y] cs = .ok (.obj 16 [.int t, .tup xs, .tup ys]) cs := by
  unfold mkO F_Box_init b_Box_init
  have tl : ∀ x, dCall (dCons x dNil) tupleD = fun env cs => (x env cs).bind fun a cs => tupleD [a] cs := fun x => by
    funext env cs
    simp only [dCall, dCons, dNil, Out.bind]
    cases x env cs <;> rfl
  simp only [tl]
  simp [mkF, finS, env0, sSeq, sNil, sIf, sSet, sAsg, sExpr, sRet, sRetN, sPass, sNo, sPar, sPar3, sFor, Out.bind, Out.bindS, dVar, dC, d1, d2, dNil, dCons, dTup, dLst, dLstC, dCall, dFn, dIf, dML, dSl, oNone, oSome, dFrz, qB, qNot, qAnd, qOr, qTru, eNot, eAnd, eOr, gNm, gTupD, gsCons, gsNil, gIx, addD, subD, mulD, fdivD, modD, powD, negD, ltD, leD, gtD, geD, cmpD, chainD, both, asI, asS, asB, intX, lenD, listD, listC, absD, max2D, min2D, ixD, getD, atK, isC, isNonD, List.length_cons, List.length_nil, List.map_cons, List.map_nil, List.getElem?_cons_zero, List.getElem?_cons_succ, List.set_cons_zero, List.set_cons_succ, List.cons_append, List.nil_append, List.replicate_succ, List.replicate_zero, if_true, if_false, reduceIte, decide_eq_true_eq, L2.atI, L2.ixN, lenD1, itL, itT, itA, itS, itR1, itR2, itEn, itEnA, itZ, sFldD, DL.putK, end_get, end_set, List.mem_cons, List.not_mem_nil, or_false, false_or, or_true, true_or, D.lt, D.ltL, Bool.and_true, Bool.true_and, trim_app, gA, g0, sA, s0, List.append_assoc, List.length_append, trim_len, fits_of, fitsL_of, in63_of, in63F_of, in62_of, lo63_of, hi63_of, hi63F_of, few_of, le640_of, od, hx, hy, lx, ly]

def gt (m : List Int) (l : Nat) : Int := m.getD l 0
theorem gt_at {m : List Int} {l : Nat} (h : l < m.length) : m[l] = gt m l := by unfold gt; simp [h]
def bump (m : List Int) (l : Nat) : List Int := m.set l (gt m l + 1)
theorem il_set {m : List Int} {l : Nat} {x : Int} : (ilist m).set l (.int x) = ilist (m.set l x) := by unfold ilist; rw [List.map_set]
theorem bump_len {m : List Int} {l : Nat} : (bump m l).length = m.length := by unfold bump; simp
theorem lt_of_nat {a b : Nat} (h : a < b) : (a : Int) < (b : Int) := by omega
/-- the counter's cells -/
abbrev ctr (n : Nat) (m f s : List Int) (r : List Cell) : List Cell := .ins 15 [12, 13, 14] [.cell (n + 2), .cell (n + 3), .lst (ilist s)] :: .lst (ilist m) :: .lst (ilist f) :: r
theorem do_S (base : List Cell) (fnd : Cell) (m f s : List Int) (r : List Cell) (l : Nat) (w n : Int) (h : l < m.length) :
    F_Counter_do_command [.cell (base.length + 1), (Cm.S l w n).ob] (base ++ fnd :: ctr base.length m f s r) = .ok .non (base ++ fnd :: ctr base.length (bump m l) f s r) := by
  have h2 := lt_of_nat h
  unfold F_Counter_do_command b_Counter_do_command Cm.ob ctr
  simp [mkF, finS, env0, sSeq, sNil, sIf, sSet, sAsg, sExpr, sRet, sRetN, sPass, sNo, sPar, sPar3, sFor, Out.bind, Out.bindS, dVar, dC, d1, d2, dNil, dCons, dTup, dLst, dLstC, dCall, dFn, dIf, dML, dSl, oNone, oSome, dFrz, qB, qNot, qAnd, qOr, qTru, eNot, eAnd, eOr, gNm, gTupD, gsCons, gsNil, gIx, addD, subD, mulD, fdivD, modD, powD, negD, ltD, leD, gtD, geD, cmpD, chainD, both, asI, asS, asB, intX, lenD, tupleD, listD, listC, absD, max2D, min2D, itemsL, itemsT, itemsS, ixD, getD, atK, isC, isNonD, List.length_cons, List.length_nil, List.map_cons, List.map_nil, List.getElem?_cons_zero, List.getElem?_cons_succ, List.set_cons_zero, List.set_cons_succ, List.cons_append, List.nil_append, List.replicate_succ, List.replicate_zero, if_true, if_false, reduceIte, decide_eq_true_eq, L2.atI, L2.ixN, lenD1, itL, itT, itA, itS, itR1, itR2, itEn, itEnA, itZ, sFldD, DL.putK, end_get, end_set, List.mem_cons, List.not_mem_nil, or_false, false_or, or_true, true_or, D.lt, D.ltL, Bool.and_true, Bool.true_and, trim_app, gA, g0, sA, s0, List.append_assoc, List.length_append, trim_len, fits_of, fitsL_of, in63_of, in63F_of, in62_of, lo63_of, hi63_of, hi63F_of, few_of, le640_of, od, isiD, isi_Store, isi_Flush, List.lookup, il_len, il_get, h, gt_at h, il_set, bump]
theorem do_F (base : List Cell) (fnd : Cell) (m f s : List Int) (r : List Cell) (l : Nat) (h : l < m.length) (h1 : l < f.length) :
    F_Counter_do_command [.cell (base.length + 1), (Cm.F l).ob] (base ++ fnd :: ctr base.length m f s r) = .ok .non (base ++ fnd :: ctr base.length m (f.set l (gt m l)) s r) := by
  unfold F_Counter_do_command b_Counter_do_command Cm.ob ctr
  simp [mkF, finS, env0, sSeq, sNil, sIf, sSet, sAsg, sExpr, sRet, sRetN, sPass, sNo, sPar, sPar3, sFor, Out.bind, Out.bindS, dVar, dC, d1, d2, dNil, dCons, dTup, dLst, dLstC, dCall, dFn, dIf, dML, dSl, oNone, oSome, dFrz, qB, qNot, qAnd, qOr, qTru, eNot, eAnd, eOr, gNm, gTupD, gsCons, gsNil, gIx, addD, subD, mulD, fdivD, modD, powD, negD, ltD, leD, gtD, geD, cmpD, chainD, both, asI, asS, asB, intX, lenD, tupleD, listD, listC, absD, max2D, min2D, itemsL, itemsT, itemsS, ixD, getD, atK, isC, isNonD, List.length_cons, List.length_nil, List.map_cons, List.map_nil, List.getElem?_cons_zero, List.getElem?_cons_succ, List.set_cons_zero, List.set_cons_succ, List.cons_append, List.nil_append, List.replicate_succ, List.replicate_zero, if_true, if_false, reduceIte, decide_eq_true_eq, L2.atI, L2.ixN, lenD1, itL, itT, itA, itS, itR1, itR2, itEn, itEnA, itZ, sFldD, DL.putK, end_get, end_set, List.mem_cons, List.not_mem_nil, or_false, false_or, or_true, true_or, D.lt, D.ltL, Bool.and_true, Bool.true_and, trim_app, gA, g0, sA, s0, List.append_assoc, List.length_append, trim_len, fits_of, fitsL_of, in63_of, in63F_of, in62_of, lo63_of, hi63_of, hi63F_of, few_of, le640_of, od, isiD, isi_Store, isi_Flush, List.lookup, il_len, il_get, h, h1, gt_at h, il_set]
theorem do_X (base : List Cell) (fnd : Cell) (m f s : List Int) (r : List Cell) :
    F_Counter_do_command [.cell (base.length + 1), (Cm.X).ob] (base ++ fnd :: ctr base.length m f s r) = .ok .non (base ++ fnd :: ctr base.length m f f r) := by
  unfold F_Counter_do_command b_Counter_do_command Cm.ob ctr
  simp [mkF, finS, env0, sSeq, sNil, sIf, sSet, sAsg, sExpr, sRet, sRetN, sPass, sNo, sPar, sPar3, sFor, Out.bind, Out.bindS, dVar, dC, d1, d2, dNil, dCons, dTup, dLst, dLstC, dCall, dFn, dIf, dML, dSl, oNone, oSome, dFrz, qB, qNot, qAnd, qOr, qTru, eNot, eAnd, eOr, gNm, gTupD, gsCons, gsNil, gIx, addD, subD, mulD, fdivD, modD, powD, negD, ltD, leD, gtD, geD, cmpD, chainD, both, asI, asS, asB, intX, lenD, tupleD, listD, listC, absD, max2D, min2D, itemsL, itemsT, itemsS, ixD, getD, atK, isC, isNonD, List.length_cons, List.length_nil, List.map_cons, List.map_nil, List.getElem?_cons_zero, List.getElem?_cons_succ, List.set_cons_zero, List.set_cons_succ, List.cons_append, List.nil_append, List.replicate_succ, List.replicate_zero, if_true, if_false, reduceIte, decide_eq_true_eq, L2.atI, L2.ixN, lenD1, itL, itT, itA, itS, itR1, itR2, itEn, itEnA, itZ, sFldD, DL.putK, end_get, end_set, List.mem_cons, List.not_mem_nil, or_false, false_or, or_true, true_or, D.lt, D.ltL, Bool.and_true, Bool.true_and, trim_app, gA, g0, sA, s0, List.append_assoc, List.length_append, trim_len, fits_of, fitsL_of, in63_of, in63F_of, in62_of, lo63_of, hi63_of, hi63F_of, few_of, le640_of, od, isiD, isi_Store, isi_Flush, List.lookup, il_len, il_get, il_set]

/-! ### boxes_of -/
def bx (t : Int) (p : List Int × List Int) : D := .obj 16 [.int t, .tup (ilist p.1), .tup (ilist p.2)]
def spans : List Cm → List Int → List Int → List Int → List (List Int × List Int)
  | [], _, _, _ => []
  | .S l _ _ :: r, m, f, s => (s.set l (gt m l + 1), bump m l) :: spans r (bump m l) f s
  | .F l :: r, m, f, s => spans r m (f.set l (gt m l)) s
  | .X :: r, m, f, _ => spans r m f f
def bxs : List Cm → Nat → List Int → List Int → List Int → List D
  | [], _, _, _, _ => []
  | .S l _ _ :: r, i, m, f, s => bx ((i : Int) + 1) (s.set l (gt m l + 1), bump m l) :: bxs r (i + 1) (bump m l) f s
  | .F l :: r, i, m, f, s => bxs r (i + 1) m (f.set l (gt m l)) s
  | .X :: r, i, m, f, _ => bxs r (i + 1) m f f
def Cm.at_ (L : Nat) : Cm → Prop
  | .S l _ _ => l < L
  | .F l => l < L
  | .X => True
theorem bx_loop (L : Nat) (hL : L ≤ 1000) (base : List Cell) : ∀ (r : List Cm) (i : Nat) (m f s : List Int) (fnd : List D) (junk : List Cell) (a b e4 e5 e6 : Option D), m.length = L → f.length = L → s.length = L → (∀ c ∈ r, c.at_ L) → fnd.length + r.length ≤ 1000 →
    ∃ m' f' s' junk' e4' e5' e6', forL noChk (gTupD 2 (gsCons (gNm 4) (gsCons (gNm 5) gsNil))) lb_boxes_of_0 (enumD i (obs r)) [a, b, some (.cell base.length), some (.cell (base.length + 1)), e4, e5, e6] (base ++ .lst fnd :: ctr base.length m f s junk) =
      .nx [a, b, some (.cell base.length), some (.cell (base.length + 1)), e4', e5', e6'] (base ++ .lst (fnd ++ bxs r i m f s) :: ctr base.length m' f' s' junk')
  | [], i, m, f, s, fnd, junk, a, b, e4, e5, e6, _, _, _, _, _ => ⟨m, f, s, junk, e4, e5, e6, by rw [show bxs [] i m f s = [] from rfl, List.append_nil]; exact forL_nil trivial⟩
  | .F l :: r, i, m, f, s, fnd, junk, a, b, e4, e5, e6, hm, hf, hs, ha, hn => by
    have hl : l < L := ha _ List.mem_cons_self
    obtain ⟨m', f', s', junk', e4', e5', e6', e⟩ := bx_loop L hL base r (i + 1) m (f.set l (gt m l)) s fnd junk a b (some (.int i)) (some (Cm.F l).ob) e6 hm (by simp [hf]) hs (fun c hc => ha c (List.mem_cons_of_mem _ hc)) (by simp at hn; omega)
    refine ⟨m', f', s', junk', e4', e5', e6', (forL_step (r := enumD (i + 1) (obs r)) trivial rfl ?_).trans e⟩
    have e2 := do_F base (.lst fnd) m f s junk l (by omega) (by omega)
    unfold Cm.ob ctr at e2 ⊢
    simp [lb_boxes_of_0, mkF, finS, env0, sSeq, sNil, sIf, sSet, sAsg, sExpr, sRet, sRetN, sPass, sNo, sPar, sPar3, sFor, Out.bind, Out.bindS, dVar, dC, d1, d2, dNil, dCons, dTup, dLst, dLstC, dCall, dFn, dIf, dML, dSl, oNone, oSome, dFrz, qB, qNot, qAnd, qOr, qTru, eNot, eAnd, eOr, gNm, gTupD, gsCons, gsNil, gIx, addD, subD, mulD, fdivD, modD, powD, negD, ltD, leD, gtD, geD, cmpD, chainD, both, asI, asS, asB, intX, lenD, tupleD, listD, listC, absD, max2D, min2D, itemsL, itemsT, itemsS, ixD, getD, atK, isC, isNonD, List.length_cons, List.length_nil, List.map_cons, List.map_nil, List.getElem?_cons_zero, List.getElem?_cons_succ, List.set_cons_zero, List.set_cons_succ, List.cons_append, List.nil_append, List.replicate_succ, List.replicate_zero, if_true, if_false, reduceIte, decide_eq_true_eq, L2.atI, L2.ixN, lenD1, itL, itT, itA, itS, itR1, itR2, itEn, itEnA, itZ, sFldD, DL.putK, end_get, end_set, List.mem_cons, List.not_mem_nil, or_false, false_or, or_true, true_or, D.lt, D.ltL, Bool.and_true, Bool.true_and, trim_app, gA, g0, sA, s0, List.append_assoc, List.length_append, trim_len, fits_of, fitsL_of, in63_of, in63F_of, in62_of, lo63_of, hi63_of, hi63F_of, few_of, le640_of, dMth, clsOf, lk_do_command_15, e2, od, isiD, isi_Store, List.lookup]
  | .X :: r, i, m, f, s, fnd, junk, a, b, e4, e5, e6, hm, hf, hs, ha, hn => by
    obtain ⟨m', f', s', junk', e4', e5', e6', e⟩ := bx_loop L hL base r (i + 1) m f f fnd junk a b (some (.int i)) (some (Cm.X).ob) e6 hm hf hf (fun c hc => ha c (List.mem_cons_of_mem _ hc)) (by simp at hn; omega)
    refine ⟨m', f', s', junk', e4', e5', e6', (forL_step (r := enumD (i + 1) (obs r)) trivial rfl ?_).trans e⟩
    have e2 := do_X base (.lst fnd) m f s junk
    unfold Cm.ob ctr at e2 ⊢
    simp [lb_boxes_of_0, mkF, finS, env0, sSeq, sNil, sIf, sSet, sAsg, sExpr, sRet, sRetN, sPass, sNo, sPar, sPar3, sFor, Out.bind, Out.bindS, dVar, dC, d1, d2, dNil, dCons, dTup, dLst, dLstC, dCall, dFn, dIf, dML, dSl, oNone, oSome, dFrz, qB, qNot, qAnd, qOr, qTru, eNot, eAnd, eOr, gNm, gTupD, gsCons, gsNil, gIx, addD, subD, mulD, fdivD, modD, powD, negD, ltD, leD, gtD, geD, cmpD, chainD, both, asI, asS, asB, intX, lenD, tupleD, listD, listC, absD, max2D, min2D, itemsL, itemsT, itemsS, ixD, getD, atK, isC, isNonD, List.length_cons, List.length_nil, List.map_cons, List.map_nil, List.getElem?_cons_zero, List.getElem?_cons_succ, List.set_cons_zero, List.set_cons_succ, List.cons_append, List.nil_append, List.replicate_succ, List.replicate_zero, if_true, if_false, reduceIte, decide_eq_true_eq, L2.atI, L2.ixN, lenD1, itL, itT, itA, itS, itR1, itR2, itEn, itEnA, itZ, sFldD, DL.putK, end_get, end_set, List.mem_cons, List.not_mem_nil, or_false, false_or, or_true, true_or, D.lt, D.ltL, Bool.and_true, Bool.true_and, trim_app, gA, g0, sA, s0, List.append_assoc, List.length_append, trim_len, fits_of, fitsL_of, in63_of, in63F_of, in62_of, lo63_of, hi63_of, hi63F_of, few_of, le640_of, dMth, clsOf, lk_do_command_15, e2, od, isiD, isi_Store, List.lookup]
  | .S l w n :: r, i, m, f, s, fnd, junk, a, b, e4, e5, e6, hm, hf, hs, ha, hn => by
    have hl : l < L := ha _ List.mem_cons_self
    have hlm : l < m.length := by omega
    have hls : l < s.length := by omega
    obtain ⟨m', f', s', junk', e4', e5', e6', e⟩ := bx_loop L hL base r (i + 1) (bump m l) f s (fnd ++ [bx ((i : Int) + 1) (s.set l (gt m l + 1), bump m l)]) (junk ++ [.lst (ilist (s.set l (gt m l + 1)))]) a b (some (.int i)) (some (Cm.S l w n).ob) (some (.cell (base.length + (junk.length + 1 + 1 + 1 + 1)))) (by rw [bump_len, hm]) hf hs (fun c hc => ha c (List.mem_cons_of_mem _ hc)) (by simp at hn ⊢; omega)
    have eb : bxs (.S l w n :: r) i m f s = bx ((i : Int) + 1) (s.set l (gt m l + 1), bump m l) :: bxs r (i + 1) (bump m l) f s := rfl
    rw [List.append_assoc] at e
    refine ⟨m', f', s', junk', e4', e5', e6', (forL_step (r := enumD (i + 1) (obs r)) trivial rfl ?_).trans e⟩
    have e2 := do_S base (.lst fnd) m f s junk l w n hlm
    have hb1 : (bump m l)[l]? = some (gt m l + 1) := by unfold bump; rw [List.getElem?_set_self hlm]
    have hb2 : l < (bump m l).length := by rw [bump_len]; exact hlm
    have hb3 : (bump m l)[l] = gt m l + 1 := by
      have h9 := List.getElem?_eq_getElem hb2
      rw [hb1] at h9
      exact (Option.some.inj h9).symm
    have hbx : mkO od 16 F_Box_init [.int ((i : Int) + 1), .cell (base.length + (junk.length + 1 + 1 + 1 + 1)), .cell (base.length + 2)] (base ++ .lst fnd :: ctr base.length (bump m l) f s (junk ++ [.lst (ilist (s.set l (gt m l + 1)))])) =
        .ok (bx ((i : Int) + 1) (s.set l (gt m l + 1), bump m l)) (base ++ .lst fnd :: ctr base.length (bump m l) f s (junk ++ [.lst (ilist (s.set l (gt m l + 1)))])) := by
      refine F_Box _ _ _ (ilist (s.set l (gt m l + 1))) (ilist (bump m l)) _ (fun c => ?_) (fun c => ?_) (ltL_il _) (ltL_il _)
      · simp [tupleD, itemsS, itemsL, itemsT, gA, end_get]
      · simp [tupleD, itemsS, itemsL, itemsT, gA]
    have hfn : fitsL fnd.length := fitsL_of (by simp at hn; omega)
    unfold Cm.ob ctr at e2 ⊢
    unfold ctr at hbx
    simp [lb_boxes_of_0, mkF, finS, env0, sSeq, sNil, sIf, sSet, sAsg, sExpr, sRet, sRetN, sPass, sNo, sPar, sPar3, sFor, Out.bind, Out.bindS, dVar, dC, d1, d2, dNil, dCons, dTup, dLst, dLstC, dCall, dFn, dIf, dML, dSl, oNone, oSome, dFrz, qB, qNot, qAnd, qOr, qTru, eNot, eAnd, eOr, gNm, gTupD, gsCons, gsNil, gIx, addD, subD, mulD, fdivD, modD, powD, negD, ltD, leD, gtD, geD, cmpD, chainD, both, asI, asS, asB, intX, lenD, tupleD, listD, listC, absD, max2D, min2D, itemsL, itemsT, itemsS, ixD, getD, atK, isC, isNonD, List.length_cons, List.length_nil, List.map_cons, List.map_nil, List.getElem?_cons_zero, List.getElem?_cons_succ, List.set_cons_zero, List.set_cons_succ, List.cons_append, List.nil_append, List.replicate_succ, List.replicate_zero, if_true, if_false, reduceIte, decide_eq_true_eq, L2.atI, L2.ixN, lenD1, itL, itT, itA, itS, itR1, itR2, itEn, itEnA, itZ, sFldD, DL.putK, end_get, end_set, List.mem_cons, List.not_mem_nil, or_false, false_or, or_true, true_or, D.lt, D.ltL, Bool.and_true, Bool.true_and, trim_app, gA, g0, sA, s0, List.append_assoc, List.length_append, trim_len, fits_of, fitsL_of, in63_of, in63F_of, in62_of, lo63_of, hi63_of, hi63F_of, few_of, le640_of, dMth, clsOf, lk_do_command_15, e2, od, isiD, isi_Store, List.lookup, il_len, il_get, hb2, hb3, hls, il_set, isL, hbx, appendD, hfn]
end K51
end

section
set_option Elab.async false
set_option linter.all false
set_option maxRecDepth 100000
namespace K51
open PySem L2 DL
theorem lt_bx {n : Nat} {t : Int} {p : List Int × List Int} : D.lt n (bx t p) = true := by
  show (D.lt n (.int t) && (D.lt n (.tup (ilist p.1)) && (D.lt n (.tup (ilist p.2)) && true))) = true
  simp [D.lt, ltL_il]
theorem ltL_bxs {k : Nat} : ∀ (r : List Cm) (i : Nat) (m f s : List Int), D.ltL k (bxs r i m f s) = true
  | [], _, _, _, _ => rfl
  | .S l w n :: r, i, m, f, s => by
    show (D.lt k (bx _ _) && D.ltL k (bxs r (i + 1) (bump m l) f s)) = true
    rw [lt_bx, ltL_bxs r]; rfl
  | .F l :: r, i, m, f, s => ltL_bxs r (i + 1) m _ s
  | .X :: r, i, m, f, s => ltL_bxs r (i + 1) m f f
theorem zer_len {n : Nat} : (zer n).length = n := by unfold zer; simp
def allbx (L : Nat) (r : List Cm) : List D := bx 0 (zer L, zer L) :: bxs r 0 (zer L) (zer L) (zer L)
theorem Th_boxes (xs : List Int) (r : List Cm) (cs : List Cell) (h1 : 1 ≤ xs.length) (hb : xs.length ≤ 6) (hr : r.length ≤ 900) (h : ∀ c ∈ r, c.at_ xs.length) :
    F_boxes_of [memD xs, .lst (obs r)] cs = .ok (.lst (allbx xs.length r)) cs := by
  have e1 := fun cs => F_zeros xs cs h1 hb
  have e2 : mkO od 16 F_Box_init [.int 0, .tup (ilist (zer xs.length)), .tup (ilist (zer xs.length))] cs = .ok (bx 0 (zer xs.length, zer xs.length)) cs := by
    refine F_Box _ _ _ (ilist (zer xs.length)) (ilist (zer xs.length)) _ (fun c => ?_) (fun c => ?_) (ltL_il _) (ltL_il _)
    · simp [tupleD, itemsS, itemsL, itemsT]
    · simp [tupleD, itemsS, itemsL, itemsT]
  have e3 := F_Counter xs (cs ++ [.lst [bx 0 (zer xs.length, zer xs.length)]]) h1 hb
  obtain ⟨m', f', s', junk', e4', e5', e6', e⟩ := bx_loop xs.length (by omega) cs r 0 (zer xs.length) (zer xs.length) (zer xs.length) [bx 0 (zer xs.length, zer xs.length)] [] (some (memD xs)) (some (.lst (obs r))) none none none zer_len zer_len zer_len h (by simp; omega)
  have n2 : (cs ++ [Cell.lst [bx 0 (zer xs.length, zer xs.length)]]).length = cs.length + 1 := by simp
  rw [n2] at e3
  unfold ctr at e
  have hl : D.ltL cs.length (bx 0 (zer xs.length, zer xs.length) :: bxs r 0 (zer xs.length) (zer xs.length) (zer xs.length)) = true := by
    show (D.lt _ (bx _ _) && D.ltL _ _) = true
    rw [lt_bx, ltL_bxs]; rfl
  unfold F_boxes_of b_boxes_of allbx
  unfold memD at e1 e3 e ⊢
  simp at e e3
  simp [mkF, finS, env0, sSeq, sNil, sIf, sSet, sAsg, sExpr, sRet, sRetN, sPass, sNo, sPar, sPar3, sFor, Out.bind, Out.bindS, dVar, dC, d1, d2, dNil, dCons, dTup, dLst, dLstC, dCall, dFn, dIf, dML, dSl, oNone, oSome, dFrz, qB, qNot, qAnd, qOr, qTru, eNot, eAnd, eOr, gNm, gTupD, gsCons, gsNil, gIx, addD, subD, mulD, fdivD, modD, powD, negD, ltD, leD, gtD, geD, cmpD, chainD, both, asI, asS, asB, intX, lenD, tupleD, listD, listC, absD, max2D, min2D, itemsL, itemsT, itemsS, ixD, getD, atK, isC, isNonD, List.length_cons, List.length_nil, List.map_cons, List.map_nil, List.getElem?_cons_zero, List.getElem?_cons_succ, List.set_cons_zero, List.set_cons_succ, List.cons_append, List.nil_append, List.replicate_succ, List.replicate_zero, if_true, if_false, reduceIte, decide_eq_true_eq, L2.atI, L2.ixN, lenD1, itL, itT, itA, itS, itR1, itR2, itEn, itEnA, itZ, sFldD, DL.putK, end_get, end_set, List.mem_cons, List.not_mem_nil, or_false, false_or, or_true, true_or, D.lt, D.ltL, Bool.and_true, Bool.true_and, trim_app, gA, g0, sA, s0, List.append_assoc, List.length_append, trim_len, fits_of, fitsL_of, in63_of, in63F_of, in62_of, lo63_of, hi63_of, hi63F_of, few_of, le640_of, dMth, clsOf, lk_zeros_7, od, e1, e2, e3, e, lt_bx, ltL_bxs]

/-! ### sizes -/
def prd : Int → List Int → List Int → Int
  | p, l :: lo, h :: hi => prd (p * (h - l + 1)) lo hi
  | p, _, _ => p
def bd (K : Int) (xs : List Int) : Prop := ∀ x ∈ xs, 0 ≤ x ∧ x ≤ K
theorem size_loop (K : Int) (hK : K ≤ 1000000) : ∀ (lo hi : List Int) (p : Int) (a o1 o2 : Option D) (cs : List Cell), bd K lo → bd K hi →
    ∃ o1' o2', forL noChk (gTupD 2 (gsCons (gNm 2) (gsCons (gNm 3) gsNil))) lb_Box_size_0 (zipD (ilist lo) (ilist hi)) [a, some (.int p), o1, o2] cs = .nx [a, some (.int (prd p lo hi)), o1', o2'] cs
  | [], hi, p, a, o1, o2, cs, _, _ => ⟨o1, o2, by
    have e : zipD (ilist []) (ilist hi) = [] := by cases hi <;> rfl
    rw [e, forL_nil trivial, prd]
    intros; contradiction⟩
  | l :: lo, [], p, a, o1, o2, cs, _, _ => ⟨o1, o2, by
    have e : zipD (ilist (l :: lo)) (ilist []) = [] := rfl
    rw [e, forL_nil trivial]; rfl⟩
  | l :: lo, h :: hi, p, a, o1, o2, cs, b1, b2 => by
    obtain ⟨o1', o2', e⟩ := size_loop K hK lo hi (p * (h - l + 1)) a (some (.int l)) (some (.int h)) cs (fun x hx => b1 x (List.mem_cons_of_mem _ hx)) (fun x hx => b2 x (List.mem_cons_of_mem _ hx))
    obtain ⟨l1, l2⟩ := b1 l List.mem_cons_self
    obtain ⟨h1, h2⟩ := b2 h List.mem_cons_self
    have hm : CMulX p (h - l + 1) := mulX_r (by omega) (by omega)
    refine ⟨o1', o2', (forL_step (r := zipD (ilist lo) (ilist hi)) trivial rfl ?_).trans e⟩
    simp [lb_Box_size_0, mkF, finS, env0, sSeq, sNil, sIf, sSet, sAsg, sExpr, sRet, sRetN, sPass, sNo, sPar, sPar3, sFor, Out.bind, Out.bindS, dVar, dC, d1, d2, dNil, dCons, dTup, dLst, dLstC, dCall, dFn, dIf, dML, dSl, oNone, oSome, dFrz, qB, qNot, qAnd, qOr, qTru, eNot, eAnd, eOr, gNm, gTupD, gsCons, gsNil, gIx, addD, subD, mulD, fdivD, modD, powD, negD, ltD, leD, gtD, geD, cmpD, chainD, both, asI, asS, asB, intX, lenD, tupleD, listD, listC, absD, max2D, min2D, itemsL, itemsT, itemsS, ixD, getD, atK, isC, isNonD, List.length_cons, List.length_nil, List.map_cons, List.map_nil, List.getElem?_cons_zero, List.getElem?_cons_succ, List.set_cons_zero, List.set_cons_succ, List.cons_append, List.nil_append, List.replicate_succ, List.replicate_zero, if_true, if_false, reduceIte, decide_eq_true_eq, L2.atI, L2.ixN, lenD1, itL, itT, itA, itS, itR1, itR2, itEn, itEnA, itZ, sFldD, DL.putK, end_get, end_set, List.mem_cons, List.not_mem_nil, or_false, false_or, or_true, true_or, D.lt, D.ltL, Bool.and_true, Bool.true_and, trim_app, gA, g0, sA, s0, List.append_assoc, List.length_append, trim_len, fits_of, fitsL_of, in63_of, in63F_of, in62_of, lo63_of, hi63_of, hi63F_of, few_of, le640_of, hm]
theorem F_size (K : Int) (hK : K ≤ 1000000) (t : Int) (p : List Int × List Int) (cs : List Cell) (h1 : bd K p.1) (h2 : bd K p.2) : F_Box_size [bx t p] cs = .ok (.int (prd 1 p.1 p.2)) cs := by
  obtain ⟨o1', o2', e⟩ := size_loop K hK p.1 p.2 1 (some (bx t p)) none none cs h1 h2
  unfold F_Box_size b_Box_size
  unfold bx at e ⊢
  simp [mkF, finS, env0, sSeq, sNil, sIf, sSet, sAsg, sExpr, sRet, sRetN, sPass, sNo, sPar, sPar3, sFor, Out.bind, Out.bindS, dVar, dC, d1, d2, dNil, dCons, dTup, dLst, dLstC, dCall, dFn, dIf, dML, dSl, oNone, oSome, dFrz, qB, qNot, qAnd, qOr, qTru, eNot, eAnd, eOr, gNm, gTupD, gsCons, gsNil, gIx, addD, subD, mulD, fdivD, modD, powD, negD, ltD, leD, gtD, geD, cmpD, chainD, both, asI, asS, asB, intX, lenD, tupleD, listD, listC, absD, max2D, min2D, itemsL, itemsT, itemsS, ixD, getD, atK, isC, isNonD, List.length_cons, List.length_nil, List.map_cons, List.map_nil, List.getElem?_cons_zero, List.getElem?_cons_succ, List.set_cons_zero, List.set_cons_succ, List.cons_append, List.nil_append, List.replicate_succ, List.replicate_zero, if_true, if_false, reduceIte, decide_eq_true_eq, L2.atI, L2.ixN, lenD1, itL, itT, itA, itS, itR1, itR2, itEn, itEnA, itZ, sFldD, DL.putK, end_get, end_set, List.mem_cons, List.not_mem_nil, or_false, false_or, or_true, true_or, D.lt, D.ltL, Bool.and_true, Bool.true_and, trim_app, gA, g0, sA, s0, List.append_assoc, List.length_append, trim_len, fits_of, fitsL_of, in63_of, in63F_of, in62_of, lo63_of, hi63_of, hi63F_of, few_of, le640_of, od, e]
end K51
end

section
set_option Elab.async false
set_option linter.all false
set_option maxRecDepth 100000
namespace K51
open PySem L2 DL
abbrev Sp2 := List Int × List Int
/-- the boxes with their times -/
def tsp : List Cm → Nat → List Int → List Int → List Int → List (Int × Sp2)
  | [], _, _, _, _ => []
  | .S l _ _ :: r, i, m, f, s => ((i : Int) + 1, (s.set l (gt m l + 1), bump m l)) :: tsp r (i + 1) (bump m l) f s
  | .F l :: r, i, m, f, s => tsp r (i + 1) m (f.set l (gt m l)) s
  | .X :: r, i, m, f, _ => tsp r (i + 1) m f f
def bq (q : Int × Sp2) : D := bx q.1 q.2
theorem bxs_map : ∀ (r : List Cm) (i : Nat) (m f s : List Int), bxs r i m f s = (tsp r i m f s).map bq
  | [], _, _, _, _ => rfl
  | .S l w n :: r, i, m, f, s => by
    show bx _ _ :: bxs r (i + 1) (bump m l) f s = bx _ _ :: (tsp r (i + 1) (bump m l) f s).map bq
    rw [bxs_map r]
  | .F l :: r, i, m, f, s => bxs_map r (i + 1) m _ s
  | .X :: r, i, m, f, s => bxs_map r (i + 1) m f f
theorem tsp_spans : ∀ (r : List Cm) (i : Nat) (m f s : List Int), (tsp r i m f s).map (·.2) = spans r m f s
  | [], _, _, _, _ => rfl
  | .S l w n :: r, i, m, f, s => by
    show _ :: (tsp r (i + 1) (bump m l) f s).map (·.2) = _ :: spans r (bump m l) f s
    rw [tsp_spans r]
  | .F l :: r, i, m, f, s => tsp_spans r (i + 1) m _ s
  | .X :: r, i, m, f, s => tsp_spans r (i + 1) m f f
theorem tsp_len : ∀ (r : List Cm) (i : Nat) (m f s : List Int), (tsp r i m f s).length ≤ r.length
  | [], _, _, _, _ => Nat.le_refl _
  | .S l w n :: r, i, m, f, s => by
    show (tsp r (i + 1) (bump m l) f s).length + 1 ≤ r.length + 1
    have := tsp_len r (i + 1) (bump m l) f s
    omega
  | .F l :: r, i, m, f, s => Nat.le_succ_of_le (tsp_len r (i + 1) m _ s)
  | .X :: r, i, m, f, s => Nat.le_succ_of_le (tsp_len r (i + 1) m f f)
theorem bd_get {K : Int} {m : List Int} (h : bd K m) (l : Nat) (hK : 0 ≤ K) : 0 ≤ gt m l ∧ gt m l ≤ K := by
  unfold gt
  by_cases hl : l < m.length
  · rw [List.getD_eq_getElem?_getD, List.getElem?_eq_getElem hl]
    exact h _ (List.getElem_mem hl)
  · rw [List.getD_eq_getElem?_getD, List.getElem?_eq_none (by omega)]
    exact ⟨Int.le_refl _, hK⟩
theorem bd_set {K : Int} {m : List Int} (h : bd K m) {l : Nat} {x : Int} (h0 : 0 ≤ x) (h1 : x ≤ K) : bd K (m.set l x) := fun y hy => by
  rcases List.mem_or_eq_of_mem_set hy with q | q
  · exact h y q
  · subst q; exact ⟨h0, h1⟩
theorem bd_mono {K K' : Int} {m : List Int} (h : bd K m) (k : K ≤ K') : bd K' m := fun y hy => ⟨(h y hy).1, Int.le_trans (h y hy).2 k⟩
theorem bd_bump {K : Int} {m : List Int} (h : bd K m) (hK : 0 ≤ K) (l : Nat) : bd (K + 1) (bump m l) :=
  bd_set (bd_mono h (by omega)) (by have := (bd_get h l hK).1; omega) (by have := (bd_get h l hK).2; omega)
theorem tsp_bd : ∀ (r : List Cm) (i : Nat) (m f s : List Int) (K : Int), 0 ≤ K → bd K m → bd K f → bd K s → ∀ q ∈ tsp r i m f s, bd (K + r.length) q.2.1 ∧ bd (K + r.length) q.2.2
  | [], _, _, _, _, K, _, _, _, _, q, hq => nomatch hq
  | .S l w n :: r, i, m, f, s, K, hK, hm, hf, hs, q, hq => by
    have e : K + ((.S l w n :: r : List Cm).length : Int) = K + 1 + r.length := by simp; omega
    rw [e]
    rcases List.mem_cons.mp hq with h | h
    · subst h
      have hb := bd_bump hm hK l
      refine ⟨bd_mono (K := K + 1) (bd_set (bd_mono hs (by omega)) ?_ ?_) (by omega), bd_mono hb (by omega)⟩
      · have := (bd_get hm l hK).1; omega
      · have := (bd_get hm l hK).2; omega
    · exact tsp_bd r (i + 1) (bump m l) f s (K + 1) (by omega) (bd_bump hm hK l) (bd_mono hf (by omega)) (bd_mono hs (by omega)) q h
  | .F l :: r, i, m, f, s, K, hK, hm, hf, hs, q, hq => by
    have e : K + ((.F l :: r : List Cm).length : Int) = K + r.length + 1 := by simp; omega
    obtain ⟨a, b⟩ := tsp_bd r (i + 1) m (f.set l (gt m l)) s K hK hm (bd_set hf (bd_get hm l hK).1 (bd_get hm l hK).2) hs q hq
    rw [e]
    exact ⟨bd_mono a (by omega), bd_mono b (by omega)⟩
  | .X :: r, i, m, f, s, K, hK, hm, hf, hs, q, hq => by
    have e : K + ((.X :: r : List Cm).length : Int) = K + r.length + 1 := by simp; omega
    obtain ⟨a, b⟩ := tsp_bd r (i + 1) m f f K hK hm hf hf q hq
    rw [e]
    exact ⟨bd_mono a (by omega), bd_mono b (by omega)⟩
theorem bd_zer (n : Nat) : bd 0 (zer n) := fun x hx => by
  have := List.eq_of_mem_replicate hx
  subst this
  exact ⟨Int.le_refl _, Int.le_refl _⟩
theorem intsD_map {α : Type} (φ : α → Int) : ∀ xs : List α, intsD (xs.map fun x => D.int (φ x)) = some (xs.map φ)
  | [] => rfl
  | x :: xs => by
    show (intsD (xs.map fun x => D.int (φ x))).map (φ x :: ·) = _
    rw [intsD_map φ xs]; rfl
/-- the number of images -/
def cnt (L : Nat) (r : List Cm) : Int := (((zer L, zer L) :: spans r (zer L) (zer L) (zer L)).map fun p => prd 1 p.1 p.2).sum
theorem Th_count (xs : List Int) (r : List Cm) (cs : List Cell) (h1 : 1 ≤ xs.length) (hb : xs.length ≤ 6) (hr : r.length ≤ 900) (h : ∀ c ∈ r, c.at_ xs.length) :
    F_count_of [memD xs, .lst (obs r)] cs = .ok (.int (cnt xs.length r)) cs := by
  have e0 := Th_boxes xs r cs h1 hb hr h
  let L := xs.length
  let qs : List (Int × Sp2) := (0, (zer L, zer L)) :: tsp r 0 (zer L) (zer L) (zer L)
  have eq : allbx xs.length r = qs.map bq := by
    show bx 0 _ :: bxs r 0 _ _ _ = bx 0 _ :: _
    rw [bxs_map]
  have hq : ∀ q ∈ qs, bd 900 q.2.1 ∧ bd 900 q.2.2 := fun q hq => by
    rcases List.mem_cons.mp hq with z | z
    · subst z
      exact ⟨bd_mono (bd_zer _) (by omega), bd_mono (bd_zer _) (by omega)⟩
    · obtain ⟨a, b⟩ := tsp_bd r 0 (zer L) (zer L) (zer L) 0 (Int.le_refl _) (bd_zer _) (bd_zer _) (bd_zer _) q z
      exact ⟨bd_mono a (by omega), bd_mono b (by omega)⟩
  have ec : dLc [2] (itL (dFn F_boxes_of (dCons (dVar 0) (dCons (dVar 1) dNil)))) (gNm 2) pYes ce_count_of_0 [some (memD xs), some (.lst (obs r)), none] cs = .ok (.lst (qs.map fun q => .int (prd 1 q.2.1 q.2.2))) cs := by
    refine lc_map (chk := noChk) qs bq _ ?_ (fun _ => trivial) ?_ (fun q z acc => ⟨_, rfl, ?_⟩) (ltL_map fun _ _ => rfl)
    · simp [itL, dFn, dCons, dNil, dVar, Out.bind, e0, eq]
    · have := tsp_len r 0 (zer L) (zer L) (zer L)
      show (tsp _ _ _ _ _).length + 1 ≤ _
      omega
    · have e2 := F_size 900 (by decide) q.1 q.2 (cs ++ [.lst acc]) (hq q z).1 (hq q z).2
      have e3 : bx q.1 q.2 = .obj 16 [.int q.1, .tup (ilist q.2.1), .tup (ilist q.2.2)] := rfl
      rw [e3] at e2
      show ce_count_of_0 [_, _, some (bx q.1 q.2)] _ = _
      rw [e3]
      simp [ce_count_of_0, mkF, finS, env0, sSeq, sNil, sIf, sSet, sAsg, sExpr, sRet, sRetN, sPass, sNo, sPar, sPar3, sFor, Out.bind, Out.bindS, dVar, dC, d1, d2, dNil, dCons, dTup, dLst, dLstC, dCall, dFn, dIf, dML, dSl, oNone, oSome, dFrz, qB, qNot, qAnd, qOr, qTru, eNot, eAnd, eOr, gNm, gTupD, gsCons, gsNil, gIx, addD, subD, mulD, fdivD, modD, powD, negD, ltD, leD, gtD, geD, cmpD, chainD, both, asI, asS, asB, intX, lenD, tupleD, listD, listC, absD, max2D, min2D, itemsL, itemsT, itemsS, ixD, getD, atK, isC, isNonD, List.length_cons, List.length_nil, List.map_cons, List.map_nil, List.getElem?_cons_zero, List.getElem?_cons_succ, List.set_cons_zero, List.set_cons_succ, List.cons_append, List.nil_append, List.replicate_succ, List.replicate_zero, if_true, if_false, reduceIte, decide_eq_true_eq, L2.atI, L2.ixN, lenD1, itL, itT, itA, itS, itR1, itR2, itEn, itEnA, itZ, sFldD, DL.putK, end_get, end_set, List.mem_cons, List.not_mem_nil, or_false, false_or, or_true, true_or, D.lt, D.ltL, Bool.and_true, Bool.true_and, trim_app, gA, g0, sA, s0, List.append_assoc, List.length_append, trim_len, fits_of, fitsL_of, in63_of, in63F_of, in62_of, lo63_of, hi63_of, hi63F_of, few_of, le640_of, dMth, clsOf, lk_size_16, od, e2]
  have es : (qs.map fun q => prd 1 q.2.1 q.2.2).sum = cnt xs.length r := by
    unfold cnt
    rw [← tsp_spans r 0]
    show ((_ :: _).map _).sum = ((_ :: _).map _).sum
    simp [Function.comp_def]
    rfl
  have ei : intsD (qs.map fun q => D.int (prd 1 q.2.1 q.2.2)) = some (qs.map fun q => prd 1 q.2.1 q.2.2) := intsD_map (fun q : Int × Sp2 => prd 1 q.2.1 q.2.2) qs
  unfold F_count_of b_count_of
  simp only [mkF, finS, env0, sRet, dCall, dCons, dNil, List.length_cons, List.length_nil, List.map_cons, List.map_nil, List.cons_append, List.nil_append, List.replicate_succ, List.replicate_zero, Nat.reduceAdd, Nat.reduceSub, if_true, ec, Out.bind, Out.bindS, sumD, itemsL, Option.bind, ei, es, trim_self]
end K51
end

section
set_option Elab.async false
set_option linter.all false
namespace Pol
/-! ### sequences whose d-th difference is nothing -/
def df (g : Nat → Int) : Nat → Int := fun n => g (n + 1) - g n
def Po : Nat → (Nat → Int) → Prop
  | 0, g => ∀ n, g n = 0
  | d + 1, g => Po d (df g)
theorem Po.congr : ∀ {d : Nat} {g h : Nat → Int}, (∀ n, g n = h n) → Po d g → Po d h
  | 0, g, h, e, p => fun n => by rw [← e]; exact p n
  | d + 1, g, h, e, p => Po.congr (d := d) (fun n => by unfold df; rw [e, e]) p
theorem Po.add : ∀ {d : Nat} {g h : Nat → Int}, Po d g → Po d h → Po d fun n => g n + h n
  | 0, g, h, p, q => fun n => by show g n + h n = 0; rw [p n, q n]; rfl
  | d + 1, g, h, p, q => by
    have r := Po.add (d := d) (g := df g) (h := df h) p q
    exact Po.congr (d := d) (h := df fun n => g n + h n) (fun n => by show g (n + 1) - g n + (h (n + 1) - h n) = g (n + 1) + h (n + 1) - (g n + h n); omega) r
theorem Po.zero : ∀ {d : Nat}, Po d fun _ => 0
  | 0 => fun _ => rfl
  | d + 1 => Po.congr (d := d) (h := df fun _ => 0) (fun n => rfl) (Po.zero (d := d))
theorem Po.up : ∀ {d : Nat} {g : Nat → Int}, Po d g → Po (d + 1) g
  | 0, g, p => fun n => by show g (n + 1) - g n = 0; rw [p, p]; rfl
  | d + 1, g, p => Po.up (d := d) p
theorem Po.mono {d e : Nat} {g : Nat → Int} (h : d ≤ e) (p : Po d g) : Po e g := by
  induction h with
  | refl => exact p
  | step _ ih => exact ih.up
theorem Po.const {c : Int} : Po 1 fun _ => c := fun n => by show c - c = 0; omega
theorem Po.shift : ∀ {d : Nat} {g : Nat → Int}, Po d g → Po d fun n => g (n + 1)
  | 0, g, p => fun n => p (n + 1)
  | d + 1, g, p => Po.shift (d := d) p
theorem Po.smul {c : Int} : ∀ {d : Nat} {g : Nat → Int}, Po d g → Po d fun n => c * g n
  | 0, g, p => fun n => by show c * g n = 0; rw [p n, Int.mul_zero]
  | d + 1, g, p => Po.congr (d := d) (h := df fun n => c * g n) (fun n => by unfold df; rw [Int.mul_sub]) (Po.smul (d := d) (c := c) (g := df g) p)
/-- an affine factor -/
theorem Po.mul {u : Nat → Int} (hu : Po 2 u) : ∀ {d : Nat} {g : Nat → Int}, Po d g → Po (d + 1) fun n => u n * g n
  | 0, g, p => Po.mono (Nat.zero_le _) (Po.congr (d := 0) (g := fun _ => 0) (fun n => by rw [p n, Int.mul_zero]) Po.zero)
  | d + 1, g, p => by
    have hc : ∃ c, ∀ n, df u n = c := by
      refine ⟨df u 0, fun n => ?_⟩
      induction n with
      | zero => rfl
      | succ n ih =>
        have h2 : df u (n + 1) - df u n = 0 := hu n
        omega
    obtain ⟨c, hc⟩ := hc
    have h1 := Po.mul hu (d := d) (g := df g) p
    have h2 : Po (d + 1) fun n => c * g (n + 1) := Po.smul p.shift
    refine Po.congr (d := d + 1) (fun n => ?_) (Po.add h1 h2)
    have e := hc n
    show u n * df g n + c * g (n + 1) = u (n + 1) * g (n + 1) - u n * g n
    unfold df at e ⊢
    rw [← e, Int.mul_sub, Int.sub_mul]
    omega
/-! ### binomials -/
def ch : Nat → Nat → Nat
  | _, 0 => 1
  | 0, _ + 1 => 0
  | n + 1, k + 1 => ch n k + ch n (k + 1)
theorem ch_gt : ∀ {n k : Nat}, n < k → ch n k = 0
  | 0, k + 1, _ => rfl
  | n + 1, k + 1, h => by
    show ch n k + ch n (k + 1) = 0
    rw [ch_gt (by omega : n < k), ch_gt (by omega : n < k + 1)]
theorem ch_zero (n : Nat) : ch n 0 = 1 := by cases n <;> rfl
theorem ch_mul : ∀ (n k : Nat), ((k : Int) + 1) * (ch n (k + 1) : Int) = ((n : Int) - k) * (ch n k : Int)
  | 0, 0 => by simp [ch]
  | 0, k + 1 => by simp [ch]
  | n + 1, 0 => by
    have ih := ch_mul n 0
    simp [ch, ch_zero] at ih ⊢
    omega
  | n + 1, k + 1 => by
    have i1 := ch_mul n k
    have i2 := ch_mul n (k + 1)
    show (((k + 1 : Nat) : Int) + 1) * ((ch n (k + 1) + ch n (k + 1 + 1) : Nat) : Int) = (((n + 1 : Nat) : Int) - ((k + 1 : Nat) : Int)) * ((ch n k + ch n (k + 1) : Nat) : Int)
    generalize hA : (ch n k : Int) = A at i1
    generalize hB : (ch n (k + 1) : Int) = B at i1 i2
    generalize hC : (ch n (k + 1 + 1) : Int) = C at i2
    have e1 : ((ch n (k + 1) + ch n (k + 1 + 1) : Nat) : Int) = B + C := by rw [← hB, ← hC]; omega
    have e2 : ((ch n k + ch n (k + 1) : Nat) : Int) = A + B := by rw [← hA, ← hB]; omega
    rw [e1, e2]
    have c1 : (((k + 1 : Nat) : Int)) = (k : Int) + 1 := by omega
    have c2 : (((n + 1 : Nat) : Int)) = (n : Int) + 1 := by omega
    rw [c1] at i2 ⊢
    rw [c2]
    have x1 : ((k : Int) + 1 + 1) * (B + C) = ((k : Int) + 1) * B + B + ((k : Int) + 1 + 1) * C := by
      rw [Int.mul_add, Int.add_mul ((k : Int) + 1) 1 B, Int.one_mul]
    have x2 : ((n : Int) + 1 - ((k : Int) + 1)) = (n : Int) - k := by omega
    have x3 : ((n : Int) - ((k : Int) + 1)) * B = ((n : Int) - k) * B - B := by
      rw [show (n : Int) - ((k : Int) + 1) = ((n : Int) - k) - 1 by omega, Int.sub_mul, Int.one_mul]
    rw [x1, i1, i2, x2, x3, Int.mul_add]
    omega
/-! ### Newton -/
def nw : Nat → (Nat → Int) → Nat → Nat → Int
  | 0, _, _, _ => 0
  | m + 1, g, n, k => g 0 * (ch n k : Int) + nw m (df g) n (k + 1)
theorem nw_step : ∀ (m : Nat) (g : Nat → Int) (n k : Nat), nw m g (n + 1) (k + 1) = nw m g n (k + 1) + nw m g n k
  | 0, _, _, _ => rfl
  | m + 1, g, n, k => by
    show g 0 * ((ch n k + ch n (k + 1) : Nat) : Int) + nw m (df g) (n + 1) (k + 1 + 1) = _
    rw [nw_step m]
    show _ = (g 0 * (ch n (k + 1) : Int) + nw m (df g) n (k + 1 + 1)) + (g 0 * (ch n k : Int) + nw m (df g) n (k + 1))
    rw [show ((ch n k + ch n (k + 1) : Nat) : Int) = (ch n k : Int) + (ch n (k + 1) : Int) by omega, Int.mul_add]
    omega
theorem newton : ∀ (n m : Nat) (g : Nat → Int), Po m g → nw m g n 0 = g n
  | 0, 0, g, p => (p 0).symm
  | 0, m + 1, g, p => by
    have z : ∀ (m : Nat) (h : Nat → Int) (k : Nat), nw m h 0 (k + 1) = 0 := by
      intro m
      induction m with
      | zero => intros; rfl
      | succ m ih =>
        intro h k
        show h 0 * ((0 : Nat) : Int) + nw m (df h) 0 (k + 1 + 1) = 0
        rw [ih]; simp
    show g 0 * ((ch 0 0 : Nat) : Int) + nw m (df g) 0 1 = g 0
    rw [z, ch_zero]; simp
  | n + 1, 0, g, p => (p (n + 1)).symm
  | n + 1, m + 1, g, p => by
    have i1 := newton n (m + 1) g p
    have i2 := newton n m (df g) p
    show g 0 * ((ch (n + 1) 0 : Nat) : Int) + nw m (df g) (n + 1) 1 = g (n + 1)
    have es := nw_step m (df g) n 0
    rw [i2] at es
    rw [ch_zero]
    have es : nw m (df g) (n + 1) 1 = nw m (df g) n 1 + df g n := es
    rw [es]
    have e : nw (m + 1) g n 0 = g 0 * ((ch n 0 : Nat) : Int) + nw m (df g) n 1 := rfl
    rw [ch_zero] at e
    have e2 : df g n = g (n + 1) - g n := rfl
    omega
/-! ### the rows of differences -/
def rows (g : Nat → Int) (m : Nat) : List Int := (List.range m).map g
def difs : List Int → List Int
  | x :: y :: r => (y - x) :: difs (y :: r)
  | _ => []
theorem rows_succ (g : Nat → Int) (m : Nat) : rows g (m + 1) = g 0 :: rows (fun n => g (n + 1)) m := by
  unfold rows
  rw [List.range_succ_eq_map, List.map_cons, List.map_map]
  rfl
theorem difs_rows : ∀ (m : Nat) (g : Nat → Int), difs (rows g (m + 1)) = rows (df g) m
  | 0, g => by rw [rows_succ]; rfl
  | m + 1, g => by
    rw [rows_succ, rows_succ]
    show (g 1 - g 0) :: difs (g 1 :: rows (fun n => g (n + 1 + 1)) m) = _
    have h := difs_rows m (fun n => g (n + 1))
    rw [rows_succ] at h
    have h' : difs (g 1 :: rows (fun n => g (n + 1 + 1)) m) = rows (df fun n => g (n + 1)) m := h
    rw [h', rows_succ]
    rfl
/-- what the loop of extended comes to -/
def ext : Nat → List Int → Int → Int → Nat → Int → Int
  | 0, _, t, _, _, _ => t
  | m + 1, x :: r, t, c, k, n => ext m (difs (x :: r)) (t + c * x) (c * (n - k) / (k + 1)) (k + 1) n
  | _, [], t, _, _, _ => t
theorem ext_nw : ∀ (m : Nat) (g : Nat → Int) (t : Int) (k n : Nat), ext m (rows g m) t (ch n k) k n = t + nw m g n k
  | 0, g, t, k, n => by show t = t + 0; omega
  | m + 1, g, t, k, n => by
    have hd := difs_rows m g
    rw [rows_succ] at hd ⊢
    show ext m (difs (g 0 :: rows (fun n => g (n + 1)) m)) (t + (ch n k : Int) * g 0) ((ch n k : Int) * ((n : Int) - k) / ((k : Int) + 1)) (k + 1) n = _
    have hc : (ch n k : Int) * ((n : Int) - k) / ((k : Int) + 1) = (ch n (k + 1) : Int) := by
      rw [Int.mul_comm, ← ch_mul]
      exact Int.mul_ediv_cancel_left _ (by omega)
    rw [hc, hd, ext_nw m (df g)]
    show _ = t + (g 0 * (ch n k : Int) + nw m (df g) n (k + 1))
    rw [Int.mul_comm (ch n k : Int)]
    omega
theorem ext_ok (m : Nat) (g : Nat → Int) (n : Nat) (p : Po m g) : ext m (rows g m) 0 1 0 n = g n := by
  have h := ext_nw m g 0 0 n
  rw [ch_zero, newton n m g p] at h
  simpa using h
end Pol
end

section
set_option Elab.async false
set_option linter.all false
set_option maxRecDepth 100000
namespace K51
open PySem L2 DL Pol
theorem cutL_one {α : Type} (xs : List α) : DL.cutL xs (some 1) none = xs.drop 1 := by
  have e : HT.sIx xs.length 0 (some (1 : Int)) = min 1 xs.length := HT.sIx_nat _ _ 1
  unfold DL.cutL
  rw [e, HT.sIx_none]
  cases xs with
  | nil => rfl
  | cons x r =>
    have e2 : min 1 (x :: r).length = 1 := by simp
    rw [e2]
    exact List.take_of_length_le (by simp)
theorem okL_il {ob : Bool} {n : Nat} : ∀ xs : List Int, D.okL ob (ilist xs) n = true
  | [] => by unfold ilist; simp [D.okL]
  | x :: xs => by
    show D.okL ob (.int x :: ilist xs) n = true
    unfold D.okL
    rw [okL_il xs]
    simp [D.okE]
/-! ### extended -/
theorem zip_il : ∀ (xs ys : List Int), zipD (ilist xs) (ilist ys) = (xs.zip ys).map fun p => .tup [.int p.1, .int p.2]
  | [], ys => by cases ys <;> rfl
  | x :: xs, [] => rfl
  | x :: xs, y :: ys => by
    show .tup [.int x, .int y] :: zipD (ilist xs) (ilist ys) = _
    rw [zip_il xs ys]; rfl
theorem difs_zip : ∀ xs : List Int, (xs.zip (xs.drop 1)).map (fun p => p.2 - p.1) = difs xs
  | [] => rfl
  | [x] => rfl
  | x :: y :: r => by
    show (y - x) :: ((y :: r).zip ((y :: r).drop 1)).map (fun p => p.2 - p.1) = _
    rw [difs_zip (y :: r)]; rfl
theorem ilist_map {α : Type} (φ : α → Int) (xs : List α) : (xs.map fun x => D.int (φ x)) = ilist (xs.map φ) := by unfold ilist; simp
theorem F_difs (xs : List Int) (hn : xs.length ≤ 1000) (env : DL.Env) (cs : List Cell) (he : env[0]? = some (some (.lst (ilist xs)))) (hl : env.length = 7) :
    dLc [5, 6] (itZ (dCons (dVar 0) (dCons (dSl (dVar 0) (oSome (dC (.int 1))) oNone) dNil))) (gTupD 2 (gsCons (gNm 5) (gsCons (gNm 6) gsNil))) pYes ce_extended_0 env cs = .ok (.lst (ilist (difs xs))) cs := by
  rw [← difs_zip, ← ilist_map]
  refine lc_map (chk := fun cs => noChk cs ∧ noChk cs) (xs.zip (xs.drop 1)) (fun p => .tup [.int p.1, .int p.2]) (fun p => .int (p.2 - p.1)) ?_ (fun _ => ⟨trivial, trivial⟩) ?_ (fun p hp acc => ⟨_, rfl, ?_⟩) (ltL_map fun _ _ => rfl)
  · simp [itZ, dCons, dNil, dVar, he, Out.bind, dSl, oSome, oNone, dC, asI, sliceD, itemsL, cutL_one, liveL]
    rw [show (ilist xs).tail = ilist xs.tail by unfold ilist; cases xs <;> rfl, zip_il]
  · simp; omega
  · obtain ⟨a0, a1, a2, a3, a4, a5, a6, rfl⟩ : ∃ a0 a1 a2 a3 a4 a5 a6, env = [a0, a1, a2, a3, a4, a5, a6] := by
      match env, hl with
      | [a0, a1, a2, a3, a4, a5, a6], _ => exact ⟨a0, a1, a2, a3, a4, a5, a6, rfl⟩
    show ce_extended_0 [a0, a1, a2, a3, a4, some (.int p.1), some (.int p.2)] _ = _
    simp [ce_extended_0, mkF, finS, env0, sSeq, sNil, sIf, sSet, sAsg, sExpr, sRet, sRetN, sPass, sNo, sPar, sPar3, sFor, Out.bind, Out.bindS, dVar, dC, d1, d2, dNil, dCons, dTup, dLst, dLstC, dCall, dFn, dIf, dML, dSl, oNone, oSome, dFrz, qB, qNot, qAnd, qOr, qTru, eNot, eAnd, eOr, gNm, gTupD, gsCons, gsNil, gIx, addD, subD, mulD, fdivD, modD, powD, negD, ltD, leD, gtD, geD, cmpD, chainD, both, asI, asS, asB, intX, lenD, tupleD, listD, listC, absD, max2D, min2D, itemsL, itemsT, itemsS, ixD, getD, atK, isC, isNonD, List.length_cons, List.length_nil, List.map_cons, List.map_nil, List.getElem?_cons_zero, List.getElem?_cons_succ, List.set_cons_zero, List.set_cons_succ, List.cons_append, List.nil_append, List.replicate_succ, List.replicate_zero, if_true, if_false, reduceIte, decide_eq_true_eq, L2.atI, L2.ixN, lenD1, itL, itT, itA, itS, itR1, itR2, itEn, itEnA, itZ, sFldD, DL.putK, end_get, end_set, List.mem_cons, List.not_mem_nil, or_false, false_or, or_true, true_or, D.lt, D.ltL, Bool.and_true, Bool.true_and, trim_app, gA, g0, sA, s0, List.append_assoc, List.length_append, trim_len, fits_of, fitsL_of, in63_of, in63F_of, in62_of, lo63_of, hi63_of, hi63F_of, few_of, le640_of]

def extOk : Nat → List Int → Int → Nat → Int → Prop
  | 0, _, _, _, _ => True
  | m + 1, x :: r, c, k, n => CMulX c x ∧ CMulX c (n - k) ∧ extOk m (difs (x :: r)) (c * (n - k) / (k + 1)) (k + 1) n
  | _, [], _, _, _ => True
theorem difs_len : ∀ xs : List Int, (difs xs).length = xs.length - 1
  | [] => rfl
  | [x] => rfl
  | x :: y :: r => by
    show (difs (y :: r)).length + 1 = _
    rw [difs_len (y :: r)]; simp
theorem ext_loop : ∀ (m : Nat) (rw_ : List Int) (t c n : Int) (k : Nat) (o5 o6 : Option D) (cs : List Cell), rw_.length = m → m ≤ 100 → k + m ≤ 1000 → extOk m rw_ c k n →
    ∃ c' k' o5' o6', whileD lt_extended_2 lb_extended_1 (m + 1) [some (.lst (ilist rw_)), some (.int n), some (.int t), some (.int c), some (.int k), o5, o6] cs = .nx [some (.lst []), some (.int n), some (.int (ext m rw_ t c k n)), c', k', o5', o6'] cs
  | 0, [], t, c, n, k, o5, o6, cs, _, _, _, _ => ⟨some (.int c), some (.int k), o5, o6, by
    refine whileD_stop ?_
    simp [lt_extended_2, mkF, finS, env0, sSeq, sNil, sIf, sSet, sAsg, sExpr, sRet, sRetN, sPass, sNo, sPar, sPar3, sFor, Out.bind, Out.bindS, dVar, dC, d1, d2, dNil, dCons, dTup, dLst, dLstC, dCall, dFn, dIf, dML, dSl, oNone, oSome, dFrz, qB, qNot, qAnd, qOr, qTru, eNot, eAnd, eOr, gNm, gTupD, gsCons, gsNil, gIx, addD, subD, mulD, fdivD, modD, powD, negD, ltD, leD, gtD, geD, cmpD, chainD, both, asI, asS, asB, intX, lenD, tupleD, listD, listC, absD, max2D, min2D, itemsL, itemsT, itemsS, ixD, getD, atK, isC, isNonD, List.length_cons, List.length_nil, List.map_cons, List.map_nil, List.getElem?_cons_zero, List.getElem?_cons_succ, List.set_cons_zero, List.set_cons_succ, List.cons_append, List.nil_append, List.replicate_succ, List.replicate_zero, if_true, if_false, reduceIte, decide_eq_true_eq, L2.atI, L2.ixN, lenD1, itL, itT, itA, itS, itR1, itR2, itEn, itEnA, itZ, sFldD, DL.putK, end_get, end_set, List.mem_cons, List.not_mem_nil, or_false, false_or, or_true, true_or, D.lt, D.ltL, Bool.and_true, Bool.true_and, trim_app, gA, g0, sA, s0, List.append_assoc, List.length_append, trim_len, fits_of, fitsL_of, in63_of, in63F_of, in62_of, lo63_of, hi63_of, hi63F_of, few_of, le640_of, neC, resL, D.okE, okL_nil, eqD, eqL, ilist]⟩
  | m + 1, x :: r, t, c, n, k, o5, o6, cs, hl, hm, hk, ho => by
    obtain ⟨h1, h2, h3⟩ := ho
    have hl2 : r.length = m := by simpa using hl
    have hd : (difs (x :: r)).length = m := by rw [difs_len]; simpa using hl2
    obtain ⟨c', k', o5', o6', e⟩ := ext_loop m (difs (x :: r)) (t + c * x) (c * (n - k) / (k + 1)) n (k + 1) o5 o6 cs hd (by omega) (by omega) h3
    refine ⟨c', k', o5', o6', ?_⟩
    have hdv : CDivX (c * (n - k)) ((k : Int) + 1) := divX_s (by omega) (by omega)
    have hF := F_difs (x :: r) (by simp; omega) [some (.lst (ilist (x :: r))), some (.int n), some (.int (t + c * x)), some (.int (c * (n - k) / (k + 1))), some (.int ((k : Int) + 1)), o5, o6] cs rfl rfl
    have ek : (((k + 1 : Nat)) : Int) = (k : Int) + 1 := by omega
    rw [ek] at e
    have okl : D.okL false (ilist (x :: r)) 19 = true := okL_il _
    have eil : ilist (x :: r) = D.int x :: ilist r := rfl
    rw [eil] at okl hF ⊢
    refine (whileD_step ?_ ?_).trans e
    · simp [lt_extended_2, mkF, finS, env0, sSeq, sNil, sIf, sSet, sAsg, sExpr, sRet, sRetN, sPass, sNo, sPar, sPar3, sFor, Out.bind, Out.bindS, dVar, dC, d1, d2, dNil, dCons, dTup, dLst, dLstC, dCall, dFn, dIf, dML, dSl, oNone, oSome, dFrz, qB, qNot, qAnd, qOr, qTru, eNot, eAnd, eOr, gNm, gTupD, gsCons, gsNil, gIx, addD, subD, mulD, fdivD, modD, powD, negD, ltD, leD, gtD, geD, cmpD, chainD, both, asI, asS, asB, intX, lenD, tupleD, listD, listC, absD, max2D, min2D, itemsL, itemsT, itemsS, ixD, getD, atK, isC, isNonD, List.length_cons, List.length_nil, List.map_cons, List.map_nil, List.getElem?_cons_zero, List.getElem?_cons_succ, List.set_cons_zero, List.set_cons_succ, List.cons_append, List.nil_append, List.replicate_succ, List.replicate_zero, if_true, if_false, reduceIte, decide_eq_true_eq, L2.atI, L2.ixN, lenD1, itL, itT, itA, itS, itR1, itR2, itEn, itEnA, itZ, sFldD, DL.putK, end_get, end_set, List.mem_cons, List.not_mem_nil, or_false, false_or, or_true, true_or, D.lt, D.ltL, Bool.and_true, Bool.true_and, trim_app, gA, g0, sA, s0, List.append_assoc, List.length_append, trim_len, fits_of, fitsL_of, in63_of, in63F_of, in62_of, lo63_of, hi63_of, hi63F_of, few_of, le640_of, neC, resL, D.okE, okl, okL_nil, eqD, eqL]
    · simp [lb_extended_1, mkF, finS, env0, sSeq, sNil, sIf, sSet, sAsg, sExpr, sRet, sRetN, sPass, sNo, sPar, sPar3, sFor, Out.bind, Out.bindS, dVar, dC, d1, d2, dNil, dCons, dTup, dLst, dLstC, dCall, dFn, dIf, dML, dSl, oNone, oSome, dFrz, qB, qNot, qAnd, qOr, qTru, eNot, eAnd, eOr, gNm, gTupD, gsCons, gsNil, gIx, addD, subD, mulD, fdivD, modD, powD, negD, ltD, leD, gtD, geD, cmpD, chainD, both, asI, asS, asB, intX, lenD, tupleD, listD, listC, absD, max2D, min2D, itemsL, itemsT, itemsS, ixD, getD, atK, isC, isNonD, List.length_cons, List.length_nil, List.map_cons, List.map_nil, List.getElem?_cons_zero, List.getElem?_cons_succ, List.set_cons_zero, List.set_cons_succ, List.cons_append, List.nil_append, List.replicate_succ, List.replicate_zero, if_true, if_false, reduceIte, decide_eq_true_eq, L2.atI, L2.ixN, lenD1, itL, itT, itA, itS, itR1, itR2, itEn, itEnA, itZ, sFldD, DL.putK, end_get, end_set, List.mem_cons, List.not_mem_nil, or_false, false_or, or_true, true_or, D.lt, D.ltL, Bool.and_true, Bool.true_and, trim_app, gA, g0, sA, s0, List.append_assoc, List.length_append, trim_len, fits_of, fitsL_of, in63_of, in63F_of, in62_of, lo63_of, hi63_of, hi63F_of, few_of, le640_of, h1, h2, hdv, hF]
theorem F_ext (m : Nat) (rw_ : List Int) (n : Int) (cs : List Cell) (hl : rw_.length = m) (hm : m ≤ 100) (ho : extOk m rw_ 1 0 n) : F_extended [.lst (ilist rw_), .int n] cs = .ok (.int (ext m rw_ 0 1 0 n)) cs := by
  obtain ⟨c', k', o5', o6', e⟩ := ext_loop m rw_ 0 1 n 0 none none cs hl hm (by omega) ho
  have e2 := sWhile_of _ e (fun z => nomatch z)
  rw [show ((0 : Nat) : Int) = 0 from rfl] at e2
  unfold F_extended b_extended
  simp [mkF, finS, env0, sSeq, sNil, sIf, sSet, sAsg, sExpr, sRet, sRetN, sPass, sNo, sPar, sPar3, sFor, Out.bind, Out.bindS, dVar, dC, d1, d2, dNil, dCons, dTup, dLst, dLstC, dCall, dFn, dIf, dML, dSl, oNone, oSome, dFrz, qB, qNot, qAnd, qOr, qTru, eNot, eAnd, eOr, gNm, gTupD, gsCons, gsNil, gIx, addD, subD, mulD, fdivD, modD, powD, negD, ltD, leD, gtD, geD, cmpD, chainD, both, asI, asS, asB, intX, lenD, tupleD, listD, listC, absD, max2D, min2D, itemsL, itemsT, itemsS, ixD, getD, atK, isC, isNonD, List.length_cons, List.length_nil, List.map_cons, List.map_nil, List.getElem?_cons_zero, List.getElem?_cons_succ, List.set_cons_zero, List.set_cons_succ, List.cons_append, List.nil_append, List.replicate_succ, List.replicate_zero, if_true, if_false, reduceIte, decide_eq_true_eq, L2.atI, L2.ixN, lenD1, itL, itT, itA, itS, itR1, itR2, itEn, itEnA, itZ, sFldD, DL.putK, end_get, end_set, List.mem_cons, List.not_mem_nil, or_false, false_or, or_true, true_or, D.lt, D.ltL, Bool.and_true, Bool.true_and, trim_app, gA, g0, sA, s0, List.append_assoc, List.length_append, trim_len, fits_of, fitsL_of, in63_of, in63F_of, in62_of, lo63_of, hi63_of, hi63F_of, few_of, le640_of, e2]
end K51
end

section
set_option Elab.async false
set_option linter.all false
set_option maxRecDepth 100000
namespace K51
open PySem L2 DL Pol
/-! ### the law's own count -/
def Cm.sp : Cm → D
  | .S l w n => .tup [.str "store", .int l, .int w, .int n]
  | .F l => .tup [.str "flush", .int l, .int 0, .int 0]
  | .X => .tup [.str "fence", .int 0, .int 0, .int 0]
def sps (r : List Cm) : List D := r.map Cm.sp
def pr (p : Sp2) : D := .tup [.tup (ilist p.1), .tup (ilist p.2)]
theorem cutL_to {α : Type} (xs : List α) (l : Nat) (h : l ≤ xs.length) : DL.cutL xs none (some (l : Int)) = xs.take l := by
  unfold DL.cutL
  rw [HT.sIx_nat, HT.sIx_none, Nat.min_eq_left h]
  simp
theorem cutL_from {α : Type} (xs : List α) (l : Nat) (h : l ≤ xs.length) : DL.cutL xs (some (l : Int)) none = xs.drop l := by
  unfold DL.cutL
  rw [HT.sIx_nat, HT.sIx_none, Nat.min_eq_left h]
  exact List.take_of_length_le (by simp)
theorem eq_ss : (eqD (.str "store") (.str "store")) = some true := by decide +kernel
theorem eq_fs : (eqD (.str "flush") (.str "store")) = some false := by decide +kernel
theorem eq_xs : (eqD (.str "fence") (.str "store")) = some false := by decide +kernel
theorem eq_ff : (eqD (.str "flush") (.str "flush")) = some true := by decide +kernel
theorem eq_xf : (eqD (.str "fence") (.str "flush")) = some false := by decide +kernel
theorem low_eq (s : List Int) (l : Nat) (x : Int) (h : l < s.length) : (ilist s).take l ++ (D.int x :: (ilist s).drop (l + 1)) = ilist (s.set l x) := by
  unfold ilist
  rw [List.set_eq_take_append_cons_drop, if_pos h]
  simp
theorem sp_loop (L : Nat) (hL : L ≤ 1000) (base : List Cell) : ∀ (r : List Cm) (m f s : List Int) (res : List D) (a b e6 e7 e8 e9 e10 : Option D), m.length = L → f.length = L → s.length = L → (∀ c ∈ r, c.at_ L) → res.length + r.length ≤ 1000 →
    ∃ m' f' s' e6' e7' e8' e9' e10', forL noChk (gTupD 4 (gsCons (gNm 6) (gsCons (gNm 7) (gsCons (gNm 8) (gsCons (gNm 9) gsNil))))) lb_law_spans_0 (sps r)
        [a, b, some (.cell base.length), some (.cell (base.length + 1)), some (.lst (ilist s)), some (.cell (base.length + 2)), e6, e7, e8, e9, e10] (base ++ [.lst (ilist m), .lst (ilist f), .lst res]) =
      .nx [a, b, some (.cell base.length), some (.cell (base.length + 1)), s', some (.cell (base.length + 2)), e6', e7', e8', e9', e10'] (base ++ [.lst (ilist m'), .lst (ilist f'), .lst (res ++ (spans r m f s).map pr)])
  | [], m, f, s, res, a, b, e6, e7, e8, e9, e10, _, _, _, _, _ => ⟨m, f, some (.lst (ilist s)), e6, e7, e8, e9, e10, by rw [show (spans [] m f s).map pr = [] from rfl, List.append_nil]; exact forL_nil trivial⟩
  | .F l :: r, m, f, s, res, a, b, e6, e7, e8, e9, e10, hm, hf, hs, ha, hn => by
    have hl : l < L := ha _ List.mem_cons_self
    have hlm : l < m.length := by omega
    have hlf : l < f.length := by omega
    obtain ⟨m', f', s', e6', e7', e8', e9', e10', e⟩ := sp_loop L hL base r m (f.set l (gt m l)) s res a b (some (.str "flush")) (some (.int l)) (some (.int 0)) (some (.int 0)) e10 hm (by simp [hf]) hs (fun c hc => ha c (List.mem_cons_of_mem _ hc)) (by simp at hn; omega)
    refine ⟨m', f', s', e6', e7', e8', e9', e10', (forL_step (r := sps r) trivial rfl ?_).trans e⟩
    simp [lb_law_spans_0, mkF, finS, env0, sSeq, sNil, sIf, sSet, sAsg, sExpr, sRet, sRetN, sPass, sNo, sPar, sPar3, sFor, Out.bind, Out.bindS, dVar, dC, d1, d2, dNil, dCons, dTup, dLst, dLstC, dCall, dFn, dIf, dML, dSl, oNone, oSome, dFrz, qB, qNot, qAnd, qOr, qTru, eNot, eAnd, eOr, gNm, gTupD, gsCons, gsNil, gIx, addD, subD, mulD, fdivD, modD, powD, negD, ltD, leD, gtD, geD, cmpD, chainD, both, asI, asS, asB, intX, lenD, tupleD, listD, listC, absD, max2D, min2D, itemsL, itemsT, itemsS, ixD, getD, atK, isC, isNonD, List.length_cons, List.length_nil, List.map_cons, List.map_nil, List.getElem?_cons_zero, List.getElem?_cons_succ, List.set_cons_zero, List.set_cons_succ, List.cons_append, List.nil_append, List.replicate_succ, List.replicate_zero, if_true, if_false, reduceIte, decide_eq_true_eq, L2.atI, L2.ixN, lenD1, itL, itT, itA, itS, itR1, itR2, itEn, itEnA, itZ, sFldD, DL.putK, end_get, end_set, List.mem_cons, List.not_mem_nil, or_false, false_or, or_true, true_or, D.lt, D.ltL, Bool.and_true, Bool.true_and, trim_app, gA, g0, sA, s0, List.append_assoc, List.length_append, trim_len, fits_of, fitsL_of, in63_of, in63F_of, in62_of, lo63_of, hi63_of, hi63F_of, few_of, le640_of, eqC, resL, D.okE, eq_fs, eq_ff, il_len, il_get, hlm, hlf, gt_at hlm, il_set]
  | .X :: r, m, f, s, res, a, b, e6, e7, e8, e9, e10, hm, hf, hs, ha, hn => by
    obtain ⟨m', f', s', e6', e7', e8', e9', e10', e⟩ := sp_loop L hL base r m f f res a b (some (.str "fence")) (some (.int 0)) (some (.int 0)) (some (.int 0)) e10 hm hf hf (fun c hc => ha c (List.mem_cons_of_mem _ hc)) (by simp at hn; omega)
    refine ⟨m', f', s', e6', e7', e8', e9', e10', (forL_step (r := sps r) trivial rfl ?_).trans e⟩
    simp [lb_law_spans_0, mkF, finS, env0, sSeq, sNil, sIf, sSet, sAsg, sExpr, sRet, sRetN, sPass, sNo, sPar, sPar3, sFor, Out.bind, Out.bindS, dVar, dC, d1, d2, dNil, dCons, dTup, dLst, dLstC, dCall, dFn, dIf, dML, dSl, oNone, oSome, dFrz, qB, qNot, qAnd, qOr, qTru, eNot, eAnd, eOr, gNm, gTupD, gsCons, gsNil, gIx, addD, subD, mulD, fdivD, modD, powD, negD, ltD, leD, gtD, geD, cmpD, chainD, both, asI, asS, asB, intX, lenD, tupleD, listD, listC, absD, max2D, min2D, itemsL, itemsT, itemsS, ixD, getD, atK, isC, isNonD, List.length_cons, List.length_nil, List.map_cons, List.map_nil, List.getElem?_cons_zero, List.getElem?_cons_succ, List.set_cons_zero, List.set_cons_succ, List.cons_append, List.nil_append, List.replicate_succ, List.replicate_zero, if_true, if_false, reduceIte, decide_eq_true_eq, L2.atI, L2.ixN, lenD1, itL, itT, itA, itS, itR1, itR2, itEn, itEnA, itZ, sFldD, DL.putK, end_get, end_set, List.mem_cons, List.not_mem_nil, or_false, false_or, or_true, true_or, D.lt, D.ltL, Bool.and_true, Bool.true_and, trim_app, gA, g0, sA, s0, List.append_assoc, List.length_append, trim_len, fits_of, fitsL_of, in63_of, in63F_of, in62_of, lo63_of, hi63_of, hi63F_of, few_of, le640_of, eqC, resL, D.okE, eq_xs, eq_xf]
  | .S l w n :: r, m, f, s, res, a, b, e6, e7, e8, e9, e10, hm, hf, hs, ha, hn => by
    have hl : l < L := ha _ List.mem_cons_self
    have hlm : l < m.length := by omega
    have hls : l < s.length := by omega
    obtain ⟨m', f', s', e6', e7', e8', e9', e10', e⟩ := sp_loop L hL base r (bump m l) f s (res ++ [pr (s.set l (gt m l + 1), bump m l)]) a b (some (.str "store")) (some (.int l)) (some (.int w)) (some (.int n)) (some (.lst (ilist (s.set l (gt m l + 1))))) (by rw [bump_len, hm]) hf hs (fun c hc => ha c (List.mem_cons_of_mem _ hc)) (by simp at hn ⊢; omega)
    rw [List.append_assoc] at e
    refine ⟨m', f', s', e6', e7', e8', e9', e10', (forL_step (r := sps r) trivial rfl ?_).trans e⟩
    have hb1 : (bump m l)[l]? = some (gt m l + 1) := by unfold bump; rw [List.getElem?_set_self hlm]
    have hb2 : l < (bump m l).length := by rw [bump_len]; exact hlm
    have c1 : DL.cutL (ilist s) none (some (l : Int)) = (ilist s).take l := cutL_to _ _ (by rw [il_len]; omega)
    have c2 : DL.cutL (ilist s) (some ((l : Int) + 1)) none = (ilist s).drop (l + 1) := by
      rw [show (l : Int) + 1 = ((l + 1 : Nat) : Int) by omega]
      exact cutL_from _ _ (by rw [il_len]; omega)
    have lw := low_eq s l (gt m l + 1) hls
    have hfn : fitsL res.length := fitsL_of (by simp at hn; omega)
    have eb : m.set l (gt m l + 1) = bump m l := rfl
    have hb3 : (bump m l)[l] = gt m l + 1 := by
      have h9 := List.getElem?_eq_getElem hb2
      rw [hb1] at h9
      exact (Option.some.inj h9).symm
    have hA : ((ilist s).take l).length ≤ 1000 := by simp [il_len]; omega
    have hB : ((ilist s).drop (l + 1)).length ≤ 1000 := by simp [il_len]; omega
    rw [show (pr (s.set l (gt m l + 1), bump m l)) = .tup [.tup (ilist (s.set l (gt m l + 1))), .tup (ilist (bump m l))] from rfl, ← lw]
    generalize (ilist s).take l = A at c1 hA ⊢
    generalize (ilist s).drop (l + 1) = B at c2 hB ⊢
    have f1 : fits (A.length + 1) := fits_of (by omega)
    have f2 : fits (A.length + (1 + B.length)) := fits_of (by omega)
    have f3 : fits (A.length + 1 + B.length) := fits_of (by omega)
    simp [lb_law_spans_0, mkF, finS, env0, sSeq, sNil, sIf, sSet, sAsg, sExpr, sRet, sRetN, sPass, sNo, sPar, sPar3, sFor, Out.bind, Out.bindS, dVar, dC, d1, d2, dNil, dCons, dTup, dLst, dLstC, dCall, dFn, dIf, dML, dSl, oNone, oSome, dFrz, qB, qNot, qAnd, qOr, qTru, eNot, eAnd, eOr, gNm, gTupD, gsCons, gsNil, gIx, addD, subD, mulD, fdivD, modD, powD, negD, ltD, leD, gtD, geD, cmpD, chainD, both, asI, asS, asB, intX, lenD, tupleD, listD, listC, absD, max2D, min2D, itemsL, itemsT, itemsS, ixD, getD, atK, isC, isNonD, List.length_cons, List.length_nil, List.map_cons, List.map_nil, List.getElem?_cons_zero, List.getElem?_cons_succ, List.set_cons_zero, List.set_cons_succ, List.cons_append, List.nil_append, List.replicate_succ, List.replicate_zero, if_true, if_false, reduceIte, decide_eq_true_eq, L2.atI, L2.ixN, lenD1, itL, itT, itA, itS, itR1, itR2, itEn, itEnA, itZ, sFldD, DL.putK, end_get, end_set, List.mem_cons, List.not_mem_nil, or_false, false_or, or_true, true_or, D.lt, D.ltL, Bool.and_true, Bool.true_and, trim_app, gA, g0, sA, s0, List.append_assoc, List.length_append, trim_len, fits_of, fitsL_of, in63_of, in63F_of, in62_of, lo63_of, hi63_of, hi63F_of, few_of, le640_of, eqC, resL, D.okE, eq_ss, il_len, il_get, hlm, gt_at hlm, il_set, eb, hb2, hb3, sliceD, c1, c2, f1, f2, f3, isL, appendD, hfn]
theorem F_spans (xs : List Int) (r : List Cm) (cs : List Cell) (h1 : 1 ≤ xs.length) (hb : xs.length ≤ 6) (hr : r.length ≤ 900) (h : ∀ c ∈ r, c.at_ xs.length) :
    F_law_spans [.lst (ilist xs), .lst (sps r)] cs = .ok (.lst (((zer xs.length, zer xs.length) :: spans r (zer xs.length) (zer xs.length) (zer xs.length)).map pr)) cs := by
  obtain ⟨m', f', s', e6', e7', e8', e9', e10', e⟩ := sp_loop xs.length (by omega) cs r (zer xs.length) (zer xs.length) (zer xs.length) [pr (zer xs.length, zer xs.length)] (some (.lst (ilist xs))) (some (.lst (sps r))) none none none none none zer_len zer_len zer_len h (by simp; omega)
  have k1 : in63F (xs.length : Int) xs.length := in63F_of (by omega) (by omega) (by omega)
  have hl : D.ltL cs.length ((spans r (zer xs.length) (zer xs.length) (zer xs.length)).map pr) = true := ltL_map fun p _ => by
    show (D.lt cs.length (.tup (ilist p.1)) && (D.lt cs.length (.tup (ilist p.2)) && true)) = true
    simp [D.lt, ltL_il]
  have e0 : pr (zer xs.length, zer xs.length) = .tup [.tup (ilist (zer xs.length)), .tup (ilist (zer xs.length))] := rfl
  rw [e0] at e
  unfold F_law_spans b_law_spans
  simp [mkF, finS, env0, sSeq, sNil, sIf, sSet, sAsg, sExpr, sRet, sRetN, sPass, sNo, sPar, sPar3, sFor, Out.bind, Out.bindS, dVar, dC, d1, d2, dNil, dCons, dTup, dLst, dLstC, dCall, dFn, dIf, dML, dSl, oNone, oSome, dFrz, qB, qNot, qAnd, qOr, qTru, eNot, eAnd, eOr, gNm, gTupD, gsCons, gsNil, gIx, addD, subD, mulD, fdivD, modD, powD, negD, ltD, leD, gtD, geD, cmpD, chainD, both, asI, asS, asB, intX, lenD, tupleD, listD, listC, absD, max2D, min2D, itemsL, itemsT, itemsS, ixD, getD, atK, isC, isNonD, List.length_cons, List.length_nil, List.map_cons, List.map_nil, List.getElem?_cons_zero, List.getElem?_cons_succ, List.set_cons_zero, List.set_cons_succ, List.cons_append, List.nil_append, List.replicate_succ, List.replicate_zero, if_true, if_false, reduceIte, decide_eq_true_eq, L2.atI, L2.ixN, lenD1, itL, itT, itA, itS, itR1, itR2, itEn, itEnA, itZ, sFldD, DL.putK, end_get, end_set, List.mem_cons, List.not_mem_nil, or_false, false_or, or_true, true_or, D.lt, D.ltL, Bool.and_true, Bool.true_and, trim_app, gA, g0, sA, s0, List.append_assoc, List.length_append, trim_len, fits_of, fitsL_of, in63_of, in63F_of, in62_of, lo63_of, hi63_of, hi63F_of, few_of, le640_of, il_len, k1, mulLC, zer_rep, e, e0, ltL_il, hl]

theorem nz_loop (K : Int) (hK : K ≤ 1000000) : ∀ (lo hi : List Int) (p : Int) (a b c d e o1 o2 : Option D) (cs : List Cell), bd K lo → bd K hi →
    ∃ o1' o2', forL noChk (gTupD 2 (gsCons (gNm 6) (gsCons (gNm 7) gsNil))) lb_law_number_0 (zipD (ilist lo) (ilist hi)) [a, b, c, d, e, some (.int p), o1, o2] cs = .nx [a, b, c, d, e, some (.int (prd p lo hi)), o1', o2'] cs
  | [], hi, p, a, b, c, d, e, o1, o2, cs, _, _ => ⟨o1, o2, by
    have e : zipD (ilist []) (ilist hi) = [] := by cases hi <;> rfl
    rw [e, forL_nil trivial, prd]
    intros; contradiction⟩
  | l :: lo, [], p, a, b, c, d, e, o1, o2, cs, _, _ => ⟨o1, o2, by
    have e : zipD (ilist (l :: lo)) (ilist []) = [] := rfl
    rw [e, forL_nil trivial]; rfl⟩
  | l :: lo, h :: hi, p, a, b, c, d, e, o1, o2, cs, b1, b2 => by
    obtain ⟨o1', o2', er⟩ := nz_loop K hK lo hi (p * (h - l + 1)) a b c d e (some (.int l)) (some (.int h)) cs (fun x hx => b1 x (List.mem_cons_of_mem _ hx)) (fun x hx => b2 x (List.mem_cons_of_mem _ hx))
    obtain ⟨l1, l2⟩ := b1 l List.mem_cons_self
    obtain ⟨h1, h2⟩ := b2 h List.mem_cons_self
    have hm : CMulX p (h - l + 1) := mulX_r (by omega) (by omega)
    refine ⟨o1', o2', (forL_step (r := zipD (ilist lo) (ilist hi)) trivial rfl ?_).trans er⟩
    simp [lb_law_number_0, mkF, finS, env0, sSeq, sNil, sIf, sSet, sAsg, sExpr, sRet, sRetN, sPass, sNo, sPar, sPar3, sFor, Out.bind, Out.bindS, dVar, dC, d1, d2, dNil, dCons, dTup, dLst, dLstC, dCall, dFn, dIf, dML, dSl, oNone, oSome, dFrz, qB, qNot, qAnd, qOr, qTru, eNot, eAnd, eOr, gNm, gTupD, gsCons, gsNil, gIx, addD, subD, mulD, fdivD, modD, powD, negD, ltD, leD, gtD, geD, cmpD, chainD, both, asI, asS, asB, intX, lenD, tupleD, listD, listC, absD, max2D, min2D, itemsL, itemsT, itemsS, ixD, getD, atK, isC, isNonD, List.length_cons, List.length_nil, List.map_cons, List.map_nil, List.getElem?_cons_zero, List.getElem?_cons_succ, List.set_cons_zero, List.set_cons_succ, List.cons_append, List.nil_append, List.replicate_succ, List.replicate_zero, if_true, if_false, reduceIte, decide_eq_true_eq, L2.atI, L2.ixN, lenD1, itL, itT, itA, itS, itR1, itR2, itEn, itEnA, itZ, sFldD, DL.putK, end_get, end_set, List.mem_cons, List.not_mem_nil, or_false, false_or, or_true, true_or, D.lt, D.ltL, Bool.and_true, Bool.true_and, trim_app, gA, g0, sA, s0, List.append_assoc, List.length_append, trim_len, fits_of, fitsL_of, in63_of, in63F_of, in62_of, lo63_of, hi63_of, hi63F_of, few_of, le640_of, hm]
theorem num_loop (K : Int) (hK : K ≤ 1000000) : ∀ (qs : List Sp2) (t : Int) (a b o3 o4 o5 o6 o7 : Option D) (cs : List Cell), (∀ q ∈ qs, bd K q.1 ∧ bd K q.2) →
    ∃ o3' o4' o5' o6' o7', forL noChk (gTupD 2 (gsCons (gNm 3) (gsCons (gNm 4) gsNil))) lb_law_number_1 (qs.map pr) [a, b, some (.int t), o3, o4, o5, o6, o7] cs = .nx [a, b, some (.int (t + (qs.map fun p => prd 1 p.1 p.2).sum)), o3', o4', o5', o6', o7'] cs
  | [], t, a, b, o3, o4, o5, o6, o7, cs, _ => ⟨o3, o4, o5, o6, o7, by rw [show t + (([] : List Sp2).map fun p => prd 1 p.1 p.2).sum = t by simp]; exact forL_nil trivial⟩
  | q :: qs, t, a, b, o3, o4, o5, o6, o7, cs, h => by
    obtain ⟨o6a, o7a, e1⟩ := nz_loop K hK q.1 q.2 1 a b (some (.int t)) (some (.tup (ilist q.1))) (some (.tup (ilist q.2))) o6 o7 cs (h q List.mem_cons_self).1 (h q List.mem_cons_self).2
    obtain ⟨o3', o4', o5', o6', o7', e⟩ := num_loop K hK qs (t + prd 1 q.1 q.2) a b (some (.tup (ilist q.1))) (some (.tup (ilist q.2))) (some (.int (prd 1 q.1 q.2))) o6a o7a cs fun y hy => h y (List.mem_cons_of_mem _ hy)
    have es : t + ((q :: qs).map fun p : Sp2 => prd 1 p.1 p.2).sum = t + prd 1 q.1 q.2 + (qs.map fun p : Sp2 => prd 1 p.1 p.2).sum := by simp; omega
    rw [es]
    refine ⟨o3', o4', o5', o6', o7', (forL_step (r := qs.map pr) trivial rfl ?_).trans e⟩
    simp [lb_law_number_1, mkF, finS, env0, sSeq, sNil, sIf, sSet, sAsg, sExpr, sRet, sRetN, sPass, sNo, sPar, sPar3, sFor, Out.bind, Out.bindS, dVar, dC, d1, d2, dNil, dCons, dTup, dLst, dLstC, dCall, dFn, dIf, dML, dSl, oNone, oSome, dFrz, qB, qNot, qAnd, qOr, qTru, eNot, eAnd, eOr, gNm, gTupD, gsCons, gsNil, gIx, addD, subD, mulD, fdivD, modD, powD, negD, ltD, leD, gtD, geD, cmpD, chainD, both, asI, asS, asB, intX, lenD, tupleD, listD, listC, absD, max2D, min2D, itemsL, itemsT, itemsS, ixD, getD, atK, isC, isNonD, List.length_cons, List.length_nil, List.map_cons, List.map_nil, List.getElem?_cons_zero, List.getElem?_cons_succ, List.set_cons_zero, List.set_cons_succ, List.cons_append, List.nil_append, List.replicate_succ, List.replicate_zero, if_true, if_false, reduceIte, decide_eq_true_eq, L2.atI, L2.ixN, lenD1, itL, itT, itA, itS, itR1, itR2, itEn, itEnA, itZ, sFldD, DL.putK, end_get, end_set, List.mem_cons, List.not_mem_nil, or_false, false_or, or_true, true_or, D.lt, D.ltL, Bool.and_true, Bool.true_and, trim_app, gA, g0, sA, s0, List.append_assoc, List.length_append, trim_len, fits_of, fitsL_of, in63_of, in63F_of, in62_of, lo63_of, hi63_of, hi63F_of, few_of, le640_of, e1]
theorem spans_bd (r : List Cm) (L : Nat) (hr : r.length ≤ 900) : ∀ q ∈ ((zer L, zer L) :: spans r (zer L) (zer L) (zer L)), bd 900 q.1 ∧ bd 900 q.2 := fun q hq => by
  rcases List.mem_cons.mp hq with z | z
  · subst z
    exact ⟨bd_mono (bd_zer _) (by omega), bd_mono (bd_zer _) (by omega)⟩
  · rw [← tsp_spans r 0] at z
    obtain ⟨q', z', rfl⟩ := List.mem_map.mp z
    obtain ⟨a, b⟩ := tsp_bd r 0 (zer L) (zer L) (zer L) 0 (Int.le_refl _) (bd_zer _) (bd_zer _) (bd_zer _) q' z'
    exact ⟨bd_mono a (by omega), bd_mono b (by omega)⟩
theorem F_number (xs : List Int) (r : List Cm) (cs : List Cell) (h1 : 1 ≤ xs.length) (hb : xs.length ≤ 6) (hr : r.length ≤ 900) (h : ∀ c ∈ r, c.at_ xs.length) :
    F_law_number [.lst (ilist xs), .lst (sps r)] cs = .ok (.int (cnt xs.length r)) cs := by
  have e0 := F_spans xs r cs h1 hb hr h
  obtain ⟨o3', o4', o5', o6', o7', e⟩ := num_loop 900 (by decide) ((zer xs.length, zer xs.length) :: spans r (zer xs.length) (zer xs.length) (zer xs.length)) 0 (some (.lst (ilist xs))) (some (.lst (sps r))) none none none none none cs (spans_bd r xs.length hr)
  have ec : (0 : Int) + (((zer xs.length, zer xs.length) :: spans r (zer xs.length) (zer xs.length) (zer xs.length)).map fun p => prd 1 p.1 p.2).sum = cnt xs.length r := by unfold cnt; omega
  rw [ec] at e
  generalize (((zer xs.length, zer xs.length) :: spans r (zer xs.length) (zer xs.length) (zer xs.length)).map pr) = Z at e e0
  unfold F_law_number b_law_number
  simp [mkF, finS, env0, sSeq, sNil, sIf, sSet, sAsg, sExpr, sRet, sRetN, sPass, sNo, sPar, sPar3, sFor, Out.bind, Out.bindS, dVar, dC, d1, d2, dNil, dCons, dTup, dLst, dLstC, dCall, dFn, dIf, dML, dSl, oNone, oSome, dFrz, qB, qNot, qAnd, qOr, qTru, eNot, eAnd, eOr, gNm, gTupD, gsCons, gsNil, gIx, addD, subD, mulD, fdivD, modD, powD, negD, ltD, leD, gtD, geD, cmpD, chainD, both, asI, asS, asB, intX, lenD, tupleD, listD, listC, absD, max2D, min2D, itemsL, itemsT, itemsS, ixD, getD, atK, isC, isNonD, List.length_cons, List.length_nil, List.map_cons, List.map_nil, List.getElem?_cons_zero, List.getElem?_cons_succ, List.set_cons_zero, List.set_cons_succ, List.cons_append, List.nil_append, List.replicate_succ, List.replicate_zero, if_true, if_false, reduceIte, decide_eq_true_eq, L2.atI, L2.ixN, lenD1, itL, itT, itA, itS, itR1, itR2, itEn, itEnA, itZ, sFldD, DL.putK, end_get, end_set, List.mem_cons, List.not_mem_nil, or_false, false_or, or_true, true_or, D.lt, D.ltL, Bool.and_true, Bool.true_and, trim_app, gA, g0, sA, s0, List.append_assoc, List.length_append, trim_len, fits_of, fitsL_of, in63_of, in63F_of, in62_of, lo63_of, hi63_of, hi63F_of, few_of, le640_of, e0, e]
end K51
end

section
set_option Elab.async false
set_option linter.all false
set_option maxRecDepth 100000
namespace K51
open PySem L2 DL Pol
/-! ### the count of a repeated block is a polynomial of the rounds -/
structure St3 where
  m : List Int
  f : List Int
  s : List Int
def step (c : Cm) (x : St3) : St3 := match c with
  | .S l _ _ => ⟨bump x.m l, x.f, x.s⟩
  | .F l => ⟨x.m, x.f.set l (gt x.m l), x.s⟩
  | .X => ⟨x.m, x.f, x.f⟩
def run : List Cm → St3 → St3
  | [], x => x
  | c :: r, x => run r (step c x)
def wid (L : Nat) (x : St3) : Prop := x.m.length = L ∧ x.f.length = L ∧ x.s.length = L
theorem wid_step {L : Nat} {x : St3} (h : wid L x) (c : Cm) : wid L (step c x) := by
  obtain ⟨a, b, d⟩ := h
  cases c with
  | S l w n => exact ⟨by show (bump x.m l).length = L; rw [bump_len]; exact a, b, d⟩
  | F l => exact ⟨a, by show (x.f.set l _).length = L; rw [List.length_set]; exact b, d⟩
  | X => exact ⟨a, b, b⟩
theorem wid_run {L : Nat} : ∀ (r : List Cm) {x : St3}, wid L x → wid L (run r x)
  | [], _, h => h
  | c :: r, _, h => wid_run r (wid_step h c)
def val (p : Sp2) : Int := prd 1 p.1 p.2
def ctb (r : List Cm) (x : St3) : Int := ((spans r x.m x.f x.s).map val).sum
theorem ctb_cons (c : Cm) (r : List Cm) (x : St3) : ctb (c :: r) x = ctb [c] x + ctb r (step c x) := by
  cases c with
  | S l w n =>
    show ((_ :: spans r (bump x.m l) x.f x.s).map val).sum = ([_].map val).sum + ((spans r (bump x.m l) x.f x.s).map val).sum
    simp
  | F l =>
    show ((spans r x.m (x.f.set l (gt x.m l)) x.s).map val).sum = (([] : List Sp2).map val).sum + ((spans r x.m (x.f.set l (gt x.m l)) x.s).map val).sum
    simp
  | X =>
    show ((spans r x.m x.f x.f).map val).sum = (([] : List Sp2).map val).sum + ((spans r x.m x.f x.f).map val).sum
    simp
theorem ctb_app : ∀ (a b : List Cm) (x : St3), ctb (a ++ b) x = ctb a x + ctb b (run a x)
  | [], b, x => by
    show ctb b x = (([] : List Sp2).map val).sum + ctb b x
    simp
  | c :: a, b, x => by
    show ctb (c :: (a ++ b)) x = ctb (c :: a) x + ctb b (run a (step c x))
    rw [ctb_cons, ctb_cons c a, ctb_app a b]
    omega
theorem run_app : ∀ (a b : List Cm) (x : St3), run (a ++ b) x = run b (run a x)
  | [], _, _ => rfl
  | c :: a, b, x => run_app a b (step c x)
theorem gt_set {xs : List Int} {l i : Nat} {v : Int} (h : l < xs.length) : gt (xs.set l v) i = if i = l then v else gt xs i := by
  unfold gt
  rw [List.getD_eq_getElem?_getD, List.getD_eq_getElem?_getD]
  by_cases e : i = l
  · subst e
    rw [if_pos rfl, List.getElem?_set_self h]; rfl
  · rw [if_neg e, List.getElem?_set_ne (fun z => e z.symm)]
/-- a product over the lines -/
def pf : Nat → (Nat → Int) → Int
  | 0, _ => 1
  | k + 1, u => u 0 * pf k fun i => u (i + 1)
theorem prd_pf : ∀ (lo hi : List Int) (p : Int), lo.length = hi.length → prd p lo hi = p * pf lo.length fun i => gt hi i - gt lo i + 1
  | [], [], p, _ => by show p = p * 1; omega
  | l :: lo, h :: hi, p, e => by
    show prd (p * (h - l + 1)) lo hi = p * ((gt (h :: hi) 0 - gt (l :: lo) 0 + 1) * pf lo.length fun i => gt (h :: hi) (i + 1) - gt (l :: lo) (i + 1) + 1)
    rw [prd_pf lo hi _ (by simpa using e), Int.mul_assoc]
    rfl
  | [], _ :: _, _, e => by simp at e
  | _ :: _, [], _, e => by simp at e
theorem pf_po : ∀ (k : Nat) (u : Nat → Nat → Int), (∀ i, i < k → Po 2 (u i)) → Po (k + 1) fun n => pf k fun i => u i n
  | 0, _, _ => Po.const
  | k + 1, u, h => Po.mul (h 0 (by omega)) (pf_po k (fun i => u (i + 1)) fun i hi => h (i + 1) (by omega))
/-- a family of states, line by line of the first degree -/
def Aff (L : Nat) (x : Nat → St3) : Prop := (∀ n, wid L (x n)) ∧ ∀ i, i < L → Po 2 (fun n => gt (x n).m i) ∧ Po 2 (fun n => gt (x n).f i) ∧ Po 2 (fun n => gt (x n).s i)
theorem Po.neg {d : Nat} {g : Nat → Int} (p : Po d g) : Po d fun n => - g n := Po.congr (fun n => by omega) (Po.smul (c := -1) p)
theorem Po.sub {d : Nat} {g h : Nat → Int} (p : Po d g) (q : Po d h) : Po d fun n => g n - h n := Po.congr (fun n => by omega) (Po.add p (Po.neg q))
theorem Po.addc {d : Nat} {g : Nat → Int} {c : Int} (p : Po (d + 1) g) : Po (d + 1) fun n => g n + c := Po.add p (Po.mono (by omega) (Po.const (c := c)))
theorem aff_step {L : Nat} {x : Nat → St3} (h : Aff L x) (c : Cm) (hc : c.at_ L) : Aff L fun n => step c (x n) := by
  refine ⟨fun n => wid_step (h.1 n) c, fun i hi => ?_⟩
  obtain ⟨pm, pf', ps⟩ := h.2 i hi
  cases c with
  | S l w n =>
    refine ⟨?_, pf', ps⟩
    have hl : l < L := hc
    refine Po.congr (fun n => ?_) (g := fun n => if i = l then gt (x n).m l + 1 else gt (x n).m i) ?_
    · show _ = gt (bump (x n).m l) i
      unfold bump
      rw [gt_set (by rw [(h.1 n).1]; exact hl)]
    · by_cases e : i = l
      · subst e; simp only [if_true]; exact Po.addc pm
      · simp only [if_neg e]; exact pm
  | F l =>
    refine ⟨pm, ?_, ps⟩
    have hl : l < L := hc
    refine Po.congr (fun n => ?_) (g := fun n => if i = l then gt (x n).m l else gt (x n).f i) ?_
    · show _ = gt ((x n).f.set l (gt (x n).m l)) i
      rw [gt_set (by rw [(h.1 n).2.1]; exact hl)]
    · by_cases e : i = l
      · subst e; simp only [if_true]; exact pm
      · simp only [if_neg e]; exact pf'
  | X => exact ⟨pm, pf', pf'⟩
theorem ctb_po {L : Nat} : ∀ (r : List Cm) {x : Nat → St3}, Aff L x → (∀ c ∈ r, c.at_ L) → Po (L + 1) (fun n => ctb r (x n)) ∧ Aff L fun n => run r (x n)
  | [], x, h, _ => ⟨Po.mono (Nat.zero_le _) (fun _ => rfl), h⟩
  | c :: r, x, h, hc => by
    have hc0 := hc c List.mem_cons_self
    obtain ⟨p, a⟩ := ctb_po r (aff_step h c hc0) fun y hy => hc y (List.mem_cons_of_mem _ hy)
    refine ⟨Po.congr (fun n => (ctb_cons c r (x n)).symm) (Po.add ?_ p), a⟩
    cases c with
    | S l w n =>
      have hl : l < L := hc0
      have ha := aff_step h (.S l w n) hc0
      have e : ∀ k, (pf L fun i => (gt (bump (x k).m l) i - gt ((x k).s.set l (gt (x k).m l + 1)) i + 1)) = ctb [.S l w n] (x k) := fun k => by
        have e1 : ctb [.S l w n] (x k) = prd 1 ((x k).s.set l (gt (x k).m l + 1)) (bump (x k).m l) := by
          show ([_].map val).sum = _
          simp [val]
        rw [e1, prd_pf _ _ _ (by rw [List.length_set, bump_len, (h.1 k).1, (h.1 k).2.2]), Int.one_mul, List.length_set, (h.1 k).2.2]
      refine Po.congr e (pf_po L (fun i k => gt (bump (x k).m l) i - gt ((x k).s.set l (gt (x k).m l + 1)) i + 1) fun i hi => ?_)
      refine Po.addc (Po.sub (ha.2 i hi).1 ?_)
      refine Po.congr (fun k => ?_) (g := fun k => if i = l then gt (x k).m l + 1 else gt (x k).s i) ?_
      · rw [gt_set (by rw [(h.1 k).2.2]; exact hl)]
      · by_cases e : i = l
        · subst e; simp only [if_true]; exact Po.addc (h.2 i hi).1
        · simp only [if_neg e]; exact (h.2 i hi).2.2
    | F l => exact Po.mono (Nat.zero_le _) (fun _ => rfl)
    | X => exact Po.mono (Nat.zero_le _) (fun _ => rfl)

/-! ### what a block does to a line -/
inductive Ef where
  | kp | fl | mk (p : Int)
def Ef.f (e : Option Int) (m f : Int) : Int := match e with
  | none => f
  | some p => m + p
def Ef.s (e : Ef) (m f s : Int) : Int := match e with
  | .kp => s
  | .fl => f
  | .mk p => m + p
theorem eff {L : Nat} (i : Nat) (hi : i < L) : ∀ (r : List Cm), (∀ c ∈ r, c.at_ L) → ∃ (a : Int) (ef : Option Int) (es : Ef), ∀ x, wid L x →
    gt (run r x).m i = gt x.m i + a ∧ gt (run r x).f i = Ef.f ef (gt x.m i) (gt x.f i) ∧ gt (run r x).s i = Ef.s es (gt x.m i) (gt x.f i) (gt x.s i)
  | [], _ => ⟨0, none, .kp, fun x _ => ⟨by show gt x.m i = gt x.m i + 0; omega, rfl, rfl⟩⟩
  | .X :: r, hc => by
    obtain ⟨a, ef, es, h⟩ := eff i hi r fun y hy => hc y (List.mem_cons_of_mem _ hy)
    refine ⟨a, ef, (match es with | .kp => .fl | .fl => .fl | .mk p => .mk p), fun x hx => ?_⟩
    obtain ⟨h1, h2, h3⟩ := h (step .X x) (wid_step hx _)
    refine ⟨h1, h2, h3.trans ?_⟩
    cases es <;> rfl
  | .F l :: r, hc => by
    have hl : l < L := hc _ List.mem_cons_self
    obtain ⟨a, ef, es, h⟩ := eff i hi r fun y hy => hc y (List.mem_cons_of_mem _ hy)
    by_cases e : i = l
    · subst e
      refine ⟨a, (match ef with | none => some 0 | some p => some p), (match es with | .kp => .kp | .fl => .mk 0 | .mk p => .mk p), fun x hx => ?_⟩
      obtain ⟨h1, h2, h3⟩ := h (step (.F i) x) (wid_step hx _)
      have hf : gt (step (.F i) x).f i = gt x.m i := by
        show gt (x.f.set i (gt x.m i)) i = _
        rw [gt_set (by rw [hx.2.1]; exact hi), if_pos rfl]
      rw [hf] at h2 h3
      refine ⟨h1, h2.trans ?_, h3.trans ?_⟩
      · cases ef
        · show gt x.m i = gt x.m i + 0; omega
        · rfl
      · cases es
        · rfl
        · show gt x.m i = gt x.m i + 0; omega
        · rfl
    · refine ⟨a, ef, es, fun x hx => ?_⟩
      obtain ⟨h1, h2, h3⟩ := h (step (.F l) x) (wid_step hx _)
      have hf : gt (step (.F l) x).f i = gt x.f i := by
        show gt (x.f.set l (gt x.m l)) i = _
        rw [gt_set (by rw [hx.2.1]; exact hl), if_neg e]
      rw [hf] at h2 h3
      exact ⟨h1, h2, h3⟩
  | .S l w n :: r, hc => by
    have hl : l < L := hc _ List.mem_cons_self
    obtain ⟨a, ef, es, h⟩ := eff i hi r fun y hy => hc y (List.mem_cons_of_mem _ hy)
    refine ⟨a + (if i = l then 1 else 0), ef.map (· + (if i = l then 1 else 0)), (match es with | .kp => .kp | .fl => .fl | .mk p => .mk (p + (if i = l then 1 else 0))), fun x hx => ?_⟩
    obtain ⟨h1, h2, h3⟩ := h (step (.S l w n) x) (wid_step hx _)
    have hm : gt (step (.S l w n) x).m i = gt x.m i + (if i = l then 1 else 0) := by
      show gt (bump x.m l) i = _
      unfold bump
      rw [gt_set (by rw [hx.1]; exact hl)]
      by_cases e : i = l
      · subst e; simp
      · simp [e]
    rw [hm] at h1 h2 h3
    refine ⟨h1.trans (by omega), h2.trans ?_, h3.trans ?_⟩
    · cases ef with
      | none => rfl
      | some p => show gt x.m i + _ + p = gt x.m i + (p + _); omega
    · cases es with
      | kp => rfl
      | fl => rfl
      | mk p => show gt x.m i + _ + p = gt x.m i + (p + _); omega
/-- the block again and again -/
def sq (b : List Cm) (x : St3) : Nat → St3
  | 0 => x
  | n + 1 => run b (sq b x n)
theorem wid_sq {L : Nat} {b : List Cm} {x : St3} (h : wid L x) : ∀ n, wid L (sq b x n)
  | 0 => h
  | n + 1 => wid_run b (wid_sq h n)
theorem sq_aff {L : Nat} {b : List Cm} {x : St3} (h : wid L x) (hc : ∀ c ∈ b, c.at_ L) : Aff L fun n => sq b x (n + 2) := by
  refine ⟨fun n => wid_sq h (n + 2), fun i hi => ?_⟩
  obtain ⟨a, ef, es, E⟩ := eff i hi b hc
  have em := fun n => (E (sq b x n) (wid_sq h n)).1
  have efl := fun n => (E (sq b x n) (wid_sq h n)).2.1
  have esu := fun n => (E (sq b x n) (wid_sq h n)).2.2
  have pm : Po 2 fun n => gt (sq b x n).m i := fun n => by
    show (gt (sq b x (n + 1 + 1)).m i - gt (sq b x (n + 1)).m i) - (gt (sq b x (n + 1)).m i - gt (sq b x n).m i) = 0
    have e1 : gt (sq b x (n + 1 + 1)).m i = gt (sq b x (n + 1)).m i + a := em (n + 1)
    have e2 : gt (sq b x (n + 1)).m i = gt (sq b x n).m i + a := em n
    omega
  have pfl : Po 2 fun n => gt (sq b x (n + 1)).f i := by
    cases ef with
    | none =>
      refine Po.mono (by omega : 1 ≤ 2) fun n => ?_
      have e1 : gt (sq b x (n + 1 + 1)).f i = gt (sq b x (n + 1)).f i := efl (n + 1)
      show gt (sq b x (n + 1 + 1)).f i - gt (sq b x (n + 1)).f i = 0
      omega
    | some p => exact Po.congr (fun n => (efl n).symm) (Po.addc (c := p) pm)
  refine ⟨pm.shift.shift, pfl.shift, ?_⟩
  cases es with
  | kp =>
    refine Po.mono (by omega : 1 ≤ 2) fun n => ?_
    have e1 : gt (sq b x (n + 2 + 1)).s i = gt (sq b x (n + 2)).s i := esu (n + 2)
    show gt (sq b x (n + 1 + 2)).s i - gt (sq b x (n + 2)).s i = 0
    rw [show n + 1 + 2 = n + 2 + 1 from rfl]
    omega
  | fl => exact Po.congr (fun n => (esu (n + 1)).symm) pfl
  | mk p => exact Po.congr (fun n => (esu (n + 1)).symm) (Po.addc (c := p) pm.shift)
def rep (t : Nat) (b : List Cm) : List Cm := (List.replicate t b).flatten
theorem rep_succ (t : Nat) (b : List Cm) : rep (t + 1) b = rep t b ++ b := by
  unfold rep
  rw [List.replicate_succ', List.flatten_append]
  simp
theorem run_rep (b : List Cm) (x : St3) : ∀ t, run (rep t b) x = sq b x t
  | 0 => rfl
  | t + 1 => by rw [rep_succ, run_app, run_rep b x t]; rfl
def z3 (L : Nat) : St3 := ⟨zer L, zer L, zer L⟩
theorem wid_z (L : Nat) : wid L (z3 L) := ⟨zer_len, zer_len, zer_len⟩
/-- the count as the rounds go -/
def fcn (L : Nat) (hd b tl : List Cm) (t : Nat) : Int := cnt L (hd ++ rep t b ++ tl)
theorem cnt_ctb (L : Nat) (r : List Cm) : cnt L r = prd 1 (zer L) (zer L) + ctb r (z3 L) := by
  show ((_ :: spans r (zer L) (zer L) (zer L)).map val).sum = _
  simp [val, ctb, z3]
theorem fcn_eq (L : Nat) (hd b tl : List Cm) (t : Nat) : fcn L hd b tl t = prd 1 (zer L) (zer L) + (ctb hd (z3 L) + ctb (rep t b) (run hd (z3 L)) + ctb tl (sq b (run hd (z3 L)) t)) := by
  unfold fcn
  rw [cnt_ctb, ctb_app, ctb_app, run_app, run_rep]
theorem fcn_df (L : Nat) (hd b tl : List Cm) (t : Nat) : fcn L hd b tl (t + 1) - fcn L hd b tl t = ctb b (sq b (run hd (z3 L)) t) + (ctb tl (sq b (run hd (z3 L)) (t + 1)) - ctb tl (sq b (run hd (z3 L)) t)) := by
  rw [fcn_eq, fcn_eq, rep_succ, ctb_app, run_rep]
  omega
theorem fcn_po (L : Nat) (hd b tl : List Cm) (h1 : ∀ c ∈ b, c.at_ L) (h2 : ∀ c ∈ tl, c.at_ L) : Po (L + 2) fun n => fcn L hd b tl (n + 2) := by
  have A := sq_aff (b := b) (wid_run hd (wid_z L)) h1
  have pb := (ctb_po b A h1).1
  have pt := (ctb_po tl A h2).1
  have pt2 : Po (L + 1) (df fun n => ctb tl (sq b (run hd (z3 L)) (n + 2))) := Po.up (d := L) pt
  exact Po.congr (d := L + 1) (h := df fun n => fcn L hd b tl (n + 2)) (fun n => (fcn_df L hd b tl (n + 2)).symm) (Po.add pb pt2)
end K51
end

section
set_option Elab.async false
set_option linter.all false
set_option maxRecDepth 100000
namespace K51
open PySem L2 DL Pol
theorem obs_len (r : List Cm) : (obs r).length = r.length := by unfold obs; simp
theorem obs_app (a b : List Cm) : obs a ++ obs b = obs (a ++ b) := by unfold obs; simp
theorem obs_rep (t : Nat) (b : List Cm) : (List.replicate t (obs b)).flatten = obs (rep t b) := by
  unfold rep obs
  rw [List.map_flatten, List.map_replicate]
theorem rep_len (t : Nat) (b : List Cm) : (rep t b).length = t * b.length := by
  unfold rep
  induction t with
  | zero => simp
  | succ t ih => simp [List.replicate_succ, ih]; rw [Nat.add_mul]; omega
theorem rep_mem {t : Nat} {b : List Cm} {c : Cm} (h : c ∈ rep t b) : c ∈ b := by
  unfold rep at h
  obtain ⟨l, h1, h2⟩ := List.mem_flatten.mp h
  rw [List.eq_of_mem_replicate h1] at h2
  exact h2
theorem at_ok {xs : List Int} {c : Cm} (h : c.ok xs) : c.at_ xs.length := by
  cases c with
  | S l w n =>
    obtain ⟨x, h1, _⟩ := h
    exact (List.getElem?_eq_some_iff.mp h1).1
  | F l => exact h
  | X => trivial
theorem mulD_obs (b : List Cm) (t : Nat) (cs : List Cell) (h : b.length ≤ 100) (ht : t ≤ 1000) : mulD (.lst (obs b)) (.int (t : Int)) cs = .ok (.lst (obs (rep t b))) cs := by
  have h0 : b.length * t ≤ 100000 := Nat.mul_le_mul h ht
  unfold mulD both itemsL itemsT asI
  simp only []
  rw [if_pos (in63F_of (by omega) (by omega) (by rw [obs_len]; simpa using (by omega : b.length * t ≤ 1000000)))]
  simp [obs_rep]
/-- the bounds under which the loop of extended runs -/
theorem extOk_of : ∀ (m : Nat) (g : Nat → Int) (n k e : Nat), n < 2 ^ 110 → k + m ≤ 100 → e + m ≤ 1000 → (∀ i, (g i).natAbs < 2 ^ e) → (ch n k) < 2 ^ (110 * (k + 1)) → extOk m (rows g m) (ch n k) k n
  | 0, _, _, _, _, _, _, _, _, _ => by unfold extOk; trivial
  | m + 1, g, n, k, e, hn, hk, he, hg, hc => by
    have hd := difs_rows m g
    rw [rows_succ] at hd ⊢
    have lc : (ch n k : Int).natAbs.log2 < 20000 := by
      have h1 : (ch n k : Int).natAbs = ch n k := by omega
      rw [h1]
      rcases Nat.eq_zero_or_pos (ch n k) with z | z
      · rw [z]; decide
      · have := (Nat.log2_lt (by omega)).mpr hc
        omega
    refine ⟨.inr ?_, .inr ?_, ?_⟩
    · unfold CMulW
      have hx := hg 0
      have lx : (g 0).natAbs.log2 ≤ e := by
        rcases Nat.eq_zero_or_pos (g 0).natAbs with z | z
        · rw [z]; simp
        · exact Nat.le_of_lt ((Nat.log2_lt (by omega)).mpr hx)
      omega
    · unfold CMulW
      have hx : ((n : Int) - k).natAbs < 2 ^ 111 := by
        have : (2 : Nat) ^ 111 = 2 * 2 ^ 110 := by decide
        have h2 : (100 : Nat) < 2 ^ 110 := by decide
        omega
      have lx : ((n : Int) - k).natAbs.log2 ≤ 111 := by
        rcases Nat.eq_zero_or_pos ((n : Int) - k).natAbs with z | z
        · rw [z]; simp
        · exact Nat.le_of_lt ((Nat.log2_lt (by omega)).mpr hx)
      omega
    · have hcc : (ch n k : Int) * ((n : Int) - k) / ((k : Int) + 1) = (ch n (k + 1) : Int) := by
        rw [Int.mul_comm, ← ch_mul]
        exact Int.mul_ediv_cancel_left _ (by omega)
      rw [hcc, hd]
      refine extOk_of m (df g) n (k + 1) (e + 1) hn (by omega) (by omega) (fun i => ?_) ?_
      · have a := hg (i + 1)
        have b := hg i
        show (g (i + 1) - g i).natAbs < 2 ^ (e + 1)
        rw [Nat.pow_succ]
        omega
      · have h1 := ch_mul n k
        rcases Nat.lt_or_ge n k with z | z
        · rw [ch_gt (by omega)]; exact Nat.two_pow_pos _
        · have h2 : (k + 1) * ch n (k + 1) = (n - k) * ch n k := by
            have e1 : ((n : Int) - k) = ((n - k : Nat) : Int) := by omega
            rw [e1] at h1
            exact_mod_cast h1
          have h3 : ch n (k + 1) ≤ (n - k) * ch n k := by
            rw [← h2]; exact Nat.le_mul_of_pos_left _ (by omega)
          have h4 : (n - k) * ch n k < 2 ^ 110 * 2 ^ (110 * (k + 1)) := by
            refine Nat.lt_of_le_of_lt (Nat.mul_le_mul_right _ (by omega : n - k ≤ 2 ^ 110)) ?_
            exact Nat.mul_lt_mul_of_pos_left hc (Nat.two_pow_pos _)
          rw [← Nat.pow_add] at h4
          have h5 : 110 + 110 * (k + 1) = 110 * (k + 1 + 1) := by omega
          rw [h5] at h4
          omega

theorem prd_bd : ∀ (lo hi : List Int) (p : Int) (e : Nat), bd 900 lo → bd 900 hi → p.natAbs < 2 ^ e → (prd p lo hi).natAbs < 2 ^ (e + 10 * lo.length)
  | [], hi, p, e, _, _, h => by
    have e1 : prd p [] hi = p := by cases hi <;> rfl
    rw [e1]; exact h
  | l :: lo, [], p, e, _, _, h => by
    have e1 : prd p (l :: lo) [] = p := rfl
    rw [e1]
    exact Nat.lt_of_lt_of_le h (Nat.pow_le_pow_right (by omega) (by omega))
  | l :: lo, h :: hi, p, e, b1, b2, hp => by
    obtain ⟨l1, l2⟩ := b1 l List.mem_cons_self
    obtain ⟨h1, h2⟩ := b2 h List.mem_cons_self
    have hm : (p * (h - l + 1)).natAbs < 2 ^ (e + 10) := by
      rw [Int.natAbs_mul, Nat.pow_add]
      have : (h - l + 1).natAbs ≤ 2 ^ 10 := by omega
      refine Nat.lt_of_le_of_lt (Nat.mul_le_mul_left _ this) ?_
      exact Nat.mul_lt_mul_of_pos_right hp (by decide)
    have ih := prd_bd lo hi _ (e + 10) (fun x hx => b1 x (List.mem_cons_of_mem _ hx)) (fun x hx => b2 x (List.mem_cons_of_mem _ hx)) hm
    show (prd (p * (h - l + 1)) lo hi).natAbs < _
    have e2 : e + 10 * (l :: lo).length = e + 10 + 10 * lo.length := by simp; omega
    rw [e2]; exact ih
theorem sum_bd (B : Nat) : ∀ (qs : List Int), (∀ q ∈ qs, q.natAbs ≤ B) → (qs.sum).natAbs ≤ qs.length * B
  | [], _ => by simp
  | q :: qs, h => by
    have a := h q List.mem_cons_self
    have b := sum_bd B qs fun y hy => h y (List.mem_cons_of_mem _ hy)
    rw [List.sum_cons, List.length_cons, Nat.add_mul]
    omega
theorem spans_len : ∀ (r : List Cm) (m f s : List Int), (spans r m f s).length ≤ r.length := fun r m f s => by
  rw [← tsp_spans r 0, List.length_map]; exact tsp_len r 0 m f s
theorem spans_wid (L : Nat) : ∀ (r : List Cm) (m f s : List Int), m.length = L → f.length = L → s.length = L → ∀ q ∈ spans r m f s, q.1.length = L
  | [], _, _, _, _, _, _, q, hq => nomatch hq
  | .S l w n :: r, m, f, s, hm, hf, hs, q, hq => by
    rcases List.mem_cons.mp hq with z | z
    · subst z; show (s.set l _).length = L; rw [List.length_set]; exact hs
    · exact spans_wid L r (bump m l) f s (by rw [bump_len]; exact hm) hf hs q z
  | .F l :: r, m, f, s, hm, hf, hs, q, hq => spans_wid L r m _ s hm (by rw [List.length_set]; exact hf) hs q hq
  | .X :: r, m, f, s, hm, hf, hs, q, hq => spans_wid L r m f f hm hf hf q hq
theorem cnt_bd (L : Nat) (r : List Cm) (hL : L ≤ 6) (hr : r.length ≤ 900) : (cnt L r).natAbs < 2 ^ 80 := by
  unfold cnt
  have h := sum_bd (2 ^ 61) (((zer L, zer L) :: spans r (zer L) (zer L) (zer L)).map fun p => prd 1 p.1 p.2) fun q hq => by
    obtain ⟨p, hp, rfl⟩ := List.mem_map.mp hq
    obtain ⟨b1, b2⟩ := spans_bd r L hr p hp
    have w : p.1.length = L := by
      rcases List.mem_cons.mp hp with z | z
      · subst z; exact zer_len
      · exact spans_wid L r _ _ _ zer_len zer_len zer_len p z
    have := prd_bd p.1 p.2 1 1 b1 b2 (by decide)
    rw [w] at this
    exact Nat.le_of_lt (Nat.lt_of_lt_of_le this (Nat.pow_le_pow_right (by omega) (by omega)))
  have l1 := spans_len r (zer L) (zer L) (zer L)
  rw [List.length_map, List.length_cons] at h
  have h2 : ((spans r (zer L) (zer L) (zer L)).length + 1) * 2 ^ 61 ≤ 901 * 2 ^ 61 := Nat.mul_le_mul_right _ (by omega)
  have h3 : (901 : Nat) * 2 ^ 61 < 2 ^ 80 := by decide
  omega
end K51
end

section
set_option Elab.async false
set_option linter.all false
set_option maxRecDepth 100000
namespace K51
open PySem L2 DL Pol
/-- what a call is given -/
structure Giv (xs : List Int) (hd b tl : List Cm) : Prop where
  l1 : 1 ≤ xs.length
  l6 : xs.length ≤ 6
  many : hd.length + b.length + tl.length ≤ 20
  okh : ∀ c ∈ hd, c.ok xs
  okb : ∀ c ∈ b, c.ok xs
  okt : ∀ c ∈ tl, c.ok xs
theorem Giv.len {xs : List Int} {hd b tl : List Cm} (G : Giv xs hd b tl) (t : Nat) (ht : t ≤ 40) : (hd ++ rep t b ++ tl).length ≤ 900 := by
  have h := G.many
  have h2 : t * b.length ≤ 40 * 20 := Nat.mul_le_mul ht (by omega)
  rw [List.length_append, List.length_append, rep_len]
  omega
theorem Giv.at_ {xs : List Int} {hd b tl : List Cm} (G : Giv xs hd b tl) (t : Nat) : ∀ c ∈ hd ++ rep t b ++ tl, c.at_ xs.length := fun c hc => by
  rcases List.mem_append.mp hc with h | h
  · rcases List.mem_append.mp h with h | h
    · exact at_ok (G.okh c h)
    · exact at_ok (G.okb c (rep_mem h))
  · exact at_ok (G.okt c h)
theorem F_at {xs : List Int} {hd b tl : List Cm} (G : Giv xs hd b tl) (t : Nat) (ht : t ≤ 40) (cs : List Cell) : F_count_of [memD xs, .lst (obs (hd ++ (rep t b ++ tl)))] cs = .ok (.int (fcn xs.length hd b tl t)) cs := by
  rw [← List.append_assoc]
  exact Th_count xs (hd ++ rep t b ++ tl) cs G.l1 G.l6 (G.len t ht) (G.at_ t)
def gg (xs : List Int) (hd b tl : List Cm) (a : Nat) : Nat → Int := fun i => fcn xs.length hd b tl (i + a)
theorem rows_congr {g h : Nat → Int} {m : Nat} (e : ∀ i, i < m → g i = h i) : rows g m = rows h m := by
  unfold rows
  exact List.map_congr_left fun i hi => e i (List.mem_range.mp hi)
theorem gg_ok {xs : List Int} {hd b tl : List Cm} (G : Giv xs hd b tl) (a n : Nat) (ha : a ≤ 4) (hn : n < 2 ^ 110) : extOk (xs.length + 2) (rows (gg xs hd b tl a) (xs.length + 2)) 1 0 n := by
  have h6 := G.l6
  have e := rows_congr (g := gg xs hd b tl a) (h := fun i => if i < 30 then gg xs hd b tl a i else 0) (m := xs.length + 2) fun i hi => by
    show _ = if i < 30 then _ else 0
    rw [if_pos (by omega)]
  rw [e]
  have k := extOk_of (xs.length + 2) (fun i => if i < 30 then gg xs hd b tl a i else 0) n 0 80 hn (by omega) (by omega) (fun i => by
    show (if i < 30 then _ else (0 : Int)).natAbs < _
    by_cases hi : i < 30
    · rw [if_pos hi]
      exact cnt_bd _ _ h6 (G.len (i + a) (by omega))
    · rw [if_neg hi]; decide) (by rw [ch_zero]; decide)
  rw [ch_zero] at k
  exact k
theorem gg_po {xs : List Int} {hd b tl : List Cm} (G : Giv xs hd b tl) (a : Nat) (ha : 2 ≤ a) : Po (xs.length + 2) (gg xs hd b tl a) := by
  have h := fcn_po xs.length hd b tl (fun c hc => at_ok (G.okb c hc)) (fun c hc => at_ok (G.okt c hc))
  have sh : ∀ k, Po (xs.length + 2) fun n => fcn xs.length hd b tl (n + k + 2) := fun k => by
    induction k with
    | zero => exact h
    | succ k ih => exact Po.congr (fun n => by rw [show n + 1 + k + 2 = n + (k + 1) + 2 by omega]) ih.shift
  exact Po.congr (fun n => by unfold gg; rw [show n + (a - 2) + 2 = n + a by omega]) (sh (a - 2))
theorem F_repeated {xs : List Int} {hd b tl : List Cm} (G : Giv xs hd b tl) (t : Nat) (ht : (t : Int) ≤ 1000000000000000000000000000000) (cs : List Cell) :
    F_count_repeated [memD xs, .lst (obs hd), .lst (obs b), .lst (obs tl), .int t] cs = .ok (.int (fcn xs.length hd b tl t)) cs := by
  have n1 : ((hd.length : Int) + b.length + tl.length) ≤ 20 := by have := G.many; omega
  have e1 : ∀ cs, F_check_commands [memD xs, .lst (obs (hd ++ (b ++ tl)))] cs = .ok .non cs := fun cs => F_chk xs _ cs G.l6 fun c hc => by
    rcases List.mem_append.mp hc with h | h
    · exact G.okh c h
    · rcases List.mem_append.mp h with h | h
      · exact G.okb c h
      · exact G.okt c h
  have t0 : (0 : Int) ≤ (t : Int) := by omega
  have fit : ∀ k, k ≤ 900 → fits k := fun k hk => fits_of (by omega)
  have hm := G.many
  have f1 : fits ((obs hd).length + (obs b).length) := fit _ (by rw [obs_len, obs_len]; omega)
  have f2 : fits ((obs (hd ++ b)).length + (obs tl).length) := fit _ (by rw [obs_len, obs_len, List.length_append]; omega)
  have f3 : ∀ k, k ≤ 40 → fits ((obs hd).length + (obs (rep k b)).length) := fun k hk => fit _ (by
    have := G.len k hk
    rw [List.length_append, List.length_append] at this
    rw [obs_len, obs_len]; omega)
  have f4 : ∀ k, k ≤ 40 → fits ((obs (hd ++ rep k b)).length + (obs tl).length) := fun k hk => fit _ (by
    have := G.len k hk
    rw [List.length_append] at this
    rw [obs_len, obs_len]; omega)
  have f1' : fits (hd.length + b.length) := fit _ (by omega)
  have f2' : fits (hd.length + b.length + tl.length) := fit _ (by omega)
  have f2'' : fits ((hd ++ b).length + tl.length) := fit _ (by rw [List.length_append]; omega)
  unfold F_count_repeated b_count_repeated
  unfold memD at e1 ⊢
  by_cases hle : (t : Int) ≤ 4 + (xs.length : Int) + 1
  · have ht2 : t ≤ 11 := by have := G.l6; omega
    have hF := F_at G t (by omega) cs
    have hM := fun cs => mulD_obs b t cs (by omega) (by omega)
    have g3 := f3 t (by omega)
    have g4 := f4 t (by omega)
    have g3' := g3
    have g4' := g4
    rw [obs_len, obs_len] at g3' g4'
    have g4'' := g4'
    rw [List.length_append] at g4''
    unfold memD at hF
    simp [mkF, finS, env0, sSeq, sNil, sIf, sSet, sAsg, sExpr, sRet, sRetN, sPass, sNo, sPar, sPar3, sFor, Out.bind, Out.bindS, dVar, dC, d1, d2, dNil, dCons, dTup, dLst, dLstC, dCall, dFn, dIf, dML, dSl, oNone, oSome, dFrz, qB, qNot, qAnd, qOr, qTru, eNot, eAnd, eOr, gNm, gTupD, gsCons, gsNil, gIx, addD, subD, fdivD, modD, powD, negD, ltD, leD, gtD, geD, cmpD, chainD, both, asI, asS, asB, intX, lenD, tupleD, listD, listC, absD, max2D, min2D, itemsL, itemsT, itemsS, ixD, getD, atK, isC, isNonD, List.length_cons, List.length_nil, List.map_cons, List.map_nil, List.getElem?_cons_zero, List.getElem?_cons_succ, List.set_cons_zero, List.set_cons_succ, List.cons_append, List.nil_append, List.replicate_succ, List.replicate_zero, if_true, if_false, reduceIte, decide_eq_true_eq, L2.atI, L2.ixN, lenD1, itL, itT, itA, itS, itR1, itR2, itEn, itEnA, itZ, sFldD, DL.putK, end_get, end_set, List.mem_cons, List.not_mem_nil, or_false, false_or, or_true, true_or, D.lt, D.ltL, Bool.and_true, Bool.true_and, trim_app, gA, g0, sA, s0, List.append_assoc, List.length_append, trim_len, fits_of, fitsL_of, in63_of, in63F_of, in62_of, lo63_of, hi63_of, hi63F_of, few_of, le640_of, od, obs_len, il_len, n1, e1, f1, f2, f1', f2', f2'', g3', g4', g4'', obs_app, t0, ht, hle, hM, hF, g3, g4, Int.not_lt.mpr n1]
  · have h6 := G.l6
    have tn : t - 4 < 2 ^ 110 := by
      have : (1000000000000000000000000000000 : Nat) < 2 ^ 110 := by decide
      omega
    have ext := ext_ok (xs.length + 2) (gg xs hd b tl 4) (t - 4) (gg_po G 4 (by omega))
    have ex := F_ext (xs.length + 2) (rows (gg xs hd b tl 4) (xs.length + 2)) ((t - 4 : Nat) : Int) cs (by unfold rows; simp) (by omega) (gg_ok G 4 (t - 4) (by omega) tn)
    rw [ext] at ex
    have e4 : gg xs hd b tl 4 (t - 4) = fcn xs.length hd b tl t := by unfold gg; rw [show t - 4 + 4 = t by omega]
    rw [e4, show ((t - 4 : Nat) : Int) = (t : Int) - 4 by omega] at ex
    have hlc : dLc [8] (itR2 (dCons (dC (.int 4)) (dCons (d2 (dVar 6) (dC (.int 1)) addD) dNil))) (gNm 8) pYes ce_count_repeated_0
        [some (memD xs), some (.lst (obs hd)), some (.lst (obs b)), some (.lst (obs tl)), some (.int t), some (.int ((hd.length : Int) + b.length + tl.length)), some (.int (4 + (xs.length : Int) + 1)), none, none] cs = .ok (.lst (ilist (rows (gg xs hd b tl 4) (xs.length + 2)))) cs := by
      have er : ilist (rows (gg xs hd b tl 4) (xs.length + 2)) = (List.range (xs.length + 2)).map fun i => .int (gg xs hd b tl 4 i) := by unfold ilist rows; rw [List.map_map]; rfl
      rw [er]
      refine lc_map (chk := noChk) (List.range (xs.length + 2)) (fun (i : Nat) => .int (4 + (i : Int))) _ ?_ (fun _ => trivial) (by simp; omega) (fun i hi acc => ⟨_, rfl, ?_⟩) (ltL_map fun _ _ => rfl)
      · have i1 : in62 (4 : Int) := in62_of (by omega) (by omega)
        have i2 : in62 (4 + (xs.length : Int) + 1 + 1) := in62_of (by omega) (by omega)
        have i3 : (4 + (xs.length : Int) + 1 + 1 - 4).toNat = xs.length + 2 := by omega
        simp only [itR2, dCons, dC, dNil, d2, dVar, Out.bind, List.getElem?_cons_succ, List.getElem?_cons_zero, addD, both, asI, i1, i2, and_self, if_true, i3]
        rfl
      · have hi := List.mem_range.mp hi
        have hF := F_at G (i + 4) (by omega) (cs ++ [.lst acc])
        have hM := fun cs => mulD_obs b (i + 4) cs (by omega) (by omega)
        have ei : ((i + 4 : Nat) : Int) = 4 + (i : Int) := by omega
        rw [ei] at hM
        have g3 := f3 (i + 4) (by omega)
        have g4 := f4 (i + 4) (by omega)
        rw [obs_len, obs_len] at g3 g4
        have g4'' := g4
        rw [List.length_append] at g4''
        show ce_count_repeated_0 [_, _, _, _, _, _, _, _, some (.int (4 + (i : Int)))] _ = _
        unfold memD at hF ⊢
        simp [ce_count_repeated_0, mkF, finS, env0, sSeq, sNil, sIf, sSet, sAsg, sExpr, sRet, sRetN, sPass, sNo, sPar, sPar3, sFor, Out.bind, Out.bindS, dVar, dC, d1, d2, dNil, dCons, dTup, dLst, dLstC, dCall, dFn, dIf, dML, dSl, oNone, oSome, dFrz, qB, qNot, qAnd, qOr, qTru, eNot, eAnd, eOr, gNm, gTupD, gsCons, gsNil, gIx, addD, subD, fdivD, modD, powD, negD, ltD, leD, gtD, geD, cmpD, chainD, both, asI, asS, asB, intX, lenD, tupleD, listD, listC, absD, max2D, min2D, itemsL, itemsT, itemsS, ixD, getD, atK, isC, isNonD, List.length_cons, List.length_nil, List.map_cons, List.map_nil, List.getElem?_cons_zero, List.getElem?_cons_succ, List.set_cons_zero, List.set_cons_succ, List.cons_append, List.nil_append, List.replicate_succ, List.replicate_zero, if_true, if_false, reduceIte, decide_eq_true_eq, L2.atI, L2.ixN, lenD1, itL, itT, itA, itS, itR1, itR2, itEn, itEnA, itZ, sFldD, DL.putK, end_get, end_set, List.mem_cons, List.not_mem_nil, or_false, false_or, or_true, true_or, D.lt, D.ltL, Bool.and_true, Bool.true_and, trim_app, gA, g0, sA, s0, List.append_assoc, List.length_append, trim_len, fits_of, fitsL_of, in63_of, in63F_of, in62_of, lo63_of, hi63_of, hi63F_of, few_of, le640_of, obs_len, obs_app, hM, hF, g3, g4, g4'']
        rfl
    unfold memD at hlc
    simp [mkF, finS, env0, sSeq, sNil, sIf, sSet, sAsg, sExpr, sRet, sRetN, sPass, sNo, sPar, sPar3, sFor, Out.bind, Out.bindS, dVar, dC, d1, d2, dNil, dCons, dTup, dLst, dLstC, dCall, dFn, dIf, dML, dSl, oNone, oSome, dFrz, qB, qNot, qAnd, qOr, qTru, eNot, eAnd, eOr, gNm, gTupD, gsCons, gsNil, gIx, addD, subD, fdivD, modD, powD, negD, ltD, leD, gtD, geD, cmpD, chainD, both, asI, asS, asB, intX, lenD, tupleD, listD, listC, absD, max2D, min2D, itemsL, itemsT, itemsS, ixD, getD, atK, isC, isNonD, List.length_cons, List.length_nil, List.map_cons, List.map_nil, List.getElem?_cons_zero, List.getElem?_cons_succ, List.set_cons_zero, List.set_cons_succ, List.cons_append, List.nil_append, List.replicate_succ, List.replicate_zero, if_true, if_false, reduceIte, decide_eq_true_eq, L2.atI, L2.ixN, lenD1, itL, itT, itA, itS, itR1, itR2, itEn, itEnA, itZ, sFldD, DL.putK, end_get, end_set, List.mem_cons, List.not_mem_nil, or_false, false_or, or_true, true_or, D.lt, D.ltL, Bool.and_true, Bool.true_and, trim_app, gA, g0, sA, s0, List.append_assoc, List.length_append, trim_len, fits_of, fitsL_of, in63_of, in63F_of, in62_of, lo63_of, hi63_of, hi63F_of, few_of, le640_of, od, obs_len, il_len, n1, e1, f1, f2, f1', f2', f2'', obs_app, t0, ht, hle, Int.not_lt.mpr n1, hlc, ex]
end K51
end

section
set_option Elab.async false
set_option linter.all false
set_option maxRecDepth 100000
namespace K51
open PySem L2 DL Pol
theorem rngL_succ (lo : Int) (n : Nat) : rngL lo (n + 1) = .int lo :: rngL (lo + 1) n := by
  unfold rngL
  rw [List.range_succ_eq_map, List.map_cons, List.map_map]
  congr 1
  · simp
  · refine List.map_congr_left fun i _ => ?_
    show D.int (lo + ((i + 1 : Nat) : Int)) = D.int (lo + 1 + (i : Int))
    congr 1
    omega
end K51
end

section
set_option Elab.async false
set_option linter.all false
set_option maxRecDepth 100000
namespace K51
open PySem L2 DL Pol
/-! ### draws -/
def drawV (a b c m : Int) : Int := if a > 0 then a % m else
  let c' := c + 1
  let v1 := (b + 51787 * c' + 17) * 48271 % 2147483563
  let v2 := v1 * (v1 / 1013 + 62089 + c') % 2147483549
  v2 * (v2 / 2011 + 40692) % 2147483543 / 7 % m
def drawS (a b c m : Int) : List D := if a > 0 then [.int (a / m), .int b, .int c] else [.int a, .int b, .int (c + 1)]
theorem F_draw {n : Nat} {cs : List Cell} {a b c m : Int} (h : cs[n]? = some (.lst [.int a, .int b, .int c])) (hm : 0 < m) (hm2 : m.natAbs.log2 < 9000) :
    F_law_draw [.cell n, .int m] cs = .ok (.int (drawV a b c m)) (cs.set n (.lst (drawS a b c m))) := by
  have hn : n < cs.length := live_len h
  have hs : ∀ x, (cs.set n x)[n]? = some x := fun x => List.getElem?_set_self hn
  have hd := divX_w (i := a) hm hm2
  unfold F_law_draw b_law_draw
  by_cases ha : a > 0
  · simp [mkF, finS, env0, sSeq, sNil, sIf, sSet, sAsg, sExpr, sRet, sRetN, sPass, sNo, sPar, sPar3, sFor, Out.bind, Out.bindS, dVar, dC, d1, d2, dNil, dCons, dTup, dLst, dLstC, dCall, dFn, dIf, dML, dSl, oNone, oSome, dFrz, qB, qNot, qAnd, qOr, qTru, eNot, eAnd, eOr, gNm, gTupD, gsCons, gsNil, gIx, addD, subD, mulD, fdivD, modD, powD, negD, ltD, leD, gtD, geD, cmpD, chainD, both, asI, asS, asB, intX, lenD, tupleD, listD, listC, absD, max2D, min2D, itemsL, itemsT, itemsS, ixD, getD, atK, isC, isNonD, List.length_cons, List.length_nil, List.map_cons, List.map_nil, List.getElem?_cons_zero, List.getElem?_cons_succ, List.set_cons_zero, List.set_cons_succ, List.cons_append, List.nil_append, List.replicate_succ, List.replicate_zero, if_true, if_false, reduceIte, decide_eq_true_eq, L2.atI, L2.ixN, lenD1, itL, itT, itA, itS, itR1, itR2, itEn, itEnA, itZ, sFldD, DL.putK, end_get, end_set, List.mem_cons, List.not_mem_nil, or_false, false_or, or_true, true_or, D.lt, D.ltL, Bool.and_true, Bool.true_and, trim_app, gA, g0, sA, s0, List.append_assoc, List.length_append, trim_len, fits_of, fitsL_of, in63_of, in63F_of, in62_of, lo63_of, hi63_of, hi63F_of, few_of, le640_of, h, ha, hm, hd, drawV, drawS, trim_len]
  · have m1 : CMulX 51787 (c + 1) := mulX_l (by decide) (by decide)
    have m2 : CMulX (b + 51787 * (c + 1) + 17) 48271 := mulX_r (by decide) (by decide)
    have l1 := Int.emod_nonneg ((b + 51787 * (c + 1) + 17) * 48271) (show (2147483563 : Int) ≠ 0 by decide)
    have l2 := Int.emod_lt_of_pos ((b + 51787 * (c + 1) + 17) * 48271) (show (0 : Int) < 2147483563 by decide)
    generalize hv1 : (b + 51787 * (c + 1) + 17) * 48271 % 2147483563 = v1 at l1 l2
    have m3 : CMulX v1 (v1 / 1013 + 62089 + (c + 1)) := mulX_l (by omega) (by omega)
    have k1 := Int.emod_nonneg (v1 * (v1 / 1013 + 62089 + (c + 1))) (show (2147483549 : Int) ≠ 0 by decide)
    have k2 := Int.emod_lt_of_pos (v1 * (v1 / 1013 + 62089 + (c + 1))) (show (0 : Int) < 2147483549 by decide)
    have q1 : CDivX v1 1013 := divX_s (by decide) (by decide)
    generalize hv2 : v1 * (v1 / 1013 + 62089 + (c + 1)) % 2147483549 = v2 at k1 k2
    have m4 : CMulX v2 (v2 / 2011 + 40692) := mulX_l (by omega) (by omega)
    have q2 : CDivX v2 2011 := divX_s (by decide) (by decide)
    have q3 : CDivX (v2 * (v2 / 2011 + 40692) % 2147483543) 7 := divX_s (by decide) (by decide)
    simp [mkF, finS, env0, sSeq, sNil, sIf, sSet, sAsg, sExpr, sRet, sRetN, sPass, sNo, sPar, sPar3, sFor, Out.bind, Out.bindS, dVar, dC, d1, d2, dNil, dCons, dTup, dLst, dLstC, dCall, dFn, dIf, dML, dSl, oNone, oSome, dFrz, qB, qNot, qAnd, qOr, qTru, eNot, eAnd, eOr, gNm, gTupD, gsCons, gsNil, gIx, addD, subD, mulD, fdivD, modD, powD, negD, ltD, leD, gtD, geD, cmpD, chainD, both, asI, asS, asB, intX, lenD, tupleD, listD, listC, absD, max2D, min2D, itemsL, itemsT, itemsS, ixD, getD, atK, isC, isNonD, List.length_cons, List.length_nil, List.map_cons, List.map_nil, List.getElem?_cons_zero, List.getElem?_cons_succ, List.set_cons_zero, List.set_cons_succ, List.cons_append, List.nil_append, List.replicate_succ, List.replicate_zero, if_true, if_false, reduceIte, decide_eq_true_eq, L2.atI, L2.ixN, lenD1, itL, itT, itA, itS, itR1, itR2, itEn, itEnA, itZ, sFldD, DL.putK, end_get, end_set, List.mem_cons, List.not_mem_nil, or_false, false_or, or_true, true_or, D.lt, D.ltL, Bool.and_true, Bool.true_and, trim_app, gA, g0, sA, s0, List.append_assoc, List.length_append, trim_len, fits_of, fitsL_of, in63_of, in63F_of, in62_of, lo63_of, hi63_of, hi63F_of, few_of, le640_of, h, ha, hm, hd, drawV, drawS, trim_len, hs, m1, m2, m3, m4, q1, q2, q3, hv1, hv2]
def isS (c : Cell) : Prop := ∃ a b d : Int, c = .lst [.int a, .int b, .int d]
theorem isS_lt {c : Cell} (h : isS c) (n : Nat) : c.lt n = true := by
  obtain ⟨a, b, d, rfl⟩ := h
  rfl
theorem draw_ok {n : Nat} {cs : List Cell} {c : Cell} (h : cs[n]? = some c) (hs : isS c) (m : Int) (hm : 0 < m) (hm2 : m.natAbs.log2 < 9000) :
    ∃ r c', isS c' ∧ 0 ≤ r ∧ r < m ∧ F_law_draw [.cell n, .int m] cs = .ok (.int r) (cs.set n c') := by
  obtain ⟨a, b, d, rfl⟩ := hs
  refine ⟨drawV a b d m, .lst (drawS a b d m), ?_, ?_, ?_, F_draw h hm hm2⟩
  · unfold drawS
    split
    · exact ⟨_, _, _, rfl⟩
    · exact ⟨_, _, _, rfl⟩
  · unfold drawV
    split
    · exact Int.emod_nonneg _ (by omega)
    · exact Int.emod_nonneg _ (by omega)
  · unfold drawV
    split
    · exact Int.emod_lt_of_pos _ hm
    · exact Int.emod_lt_of_pos _ hm
theorem set_self {cs : List Cell} {n : Nat} {c : Cell} (h : cs[n]? = some c) : cs.set n c = cs := by
  obtain ⟨h1, h2⟩ := List.getElem?_eq_some_iff.mp h
  rw [← h2, List.set_getElem_self]
theorem set_get {cs : List Cell} {n : Nat} {c : Cell} (h : n < cs.length) : (cs.set n c)[n]? = some c := List.getElem?_set_self h
theorem app_get {cs e : List Cell} {n : Nat} {c : Cell} (h : cs[n]? = some c) : (cs ++ e)[n]? = some c := by
  rw [List.getElem?_append_left (live_len h)]; exact h
theorem app_set {cs e : List Cell} {n : Nat} {c : Cell} (h : n < cs.length) : (cs ++ e).set n c = cs.set n c ++ e := List.set_append_left _ _ h
/-- a comprehension whose element draws -/
theorem lcL_st {g : GDen} {h : Den D} {env : DL.Env} {cs : List Cell} {n : Nat} {P : D → Prop} (hn : n < cs.length) : ∀ (xs acc : List D) (c : Cell), isS c → acc.length + xs.length ≤ 1000000 →
    (∀ x ∈ xs, ∀ (c : Cell) (acc : List D), isS c → ∃ env' d c', isS c' ∧ P d ∧ g x env (cs.set n c ++ [.lst acc]) = .nx env' (cs.set n c ++ [.lst acc]) ∧ h env' (cs.set n c ++ [.lst acc]) = .ok d (cs.set n c' ++ [.lst acc])) →
    ∃ ds c', isS c' ∧ (∀ d ∈ ds, P d) ∧ ds.length = xs.length ∧ lcL noChk g pYes h cs.length env xs (cs.set n c ++ [.lst acc]) = .ok () (cs.set n c' ++ [.lst (acc ++ ds)])
  | [], acc, c, hs, _, _ => ⟨[], c, hs, fun _ h => (nomatch h), rfl, by unfold lcL; rw [if_pos (show noChk _ from trivial), List.append_nil]⟩
  | x :: xs, acc, c, hs, hl, he => by
    obtain ⟨env', d, c1, s1, p1, h1, h2⟩ := he x List.mem_cons_self c acc hs
    obtain ⟨ds, c', s', p', l', ih⟩ := lcL_st (P := P) hn xs (acc ++ [d]) c1 s1 (by simp at hl ⊢; omega) fun y hy => he y (List.mem_cons_of_mem _ hy)
    refine ⟨d :: ds, c', s', fun y hy => ?_, by simp [l'], ?_⟩
    · rcases List.mem_cons.mp hy with z | z
      · subst z; exact p1
      · exact p' y z
    · have hf : fitsL acc.length := fitsL_of (by simp at hl; omega)
      have ht : ∀ b, DL.trim (cs.set n c ++ [.lst acc]) (cs.set n c1 ++ [.lst acc]) b = cs.set n c1 ++ [.lst acc] := fun b => trim_len (by simp)
      have eg : (cs.set n c1 ++ [Cell.lst acc])[cs.length]? = some (.lst acc) := by
        have := end_get (cs := cs.set n c1) (c := .lst acc)
        rwa [List.length_set] at this
      have es : ∀ z, (cs.set n c1 ++ [Cell.lst acc]).set cs.length z = cs.set n c1 ++ [z] := fun z => by
        have := end_set (cs := cs.set n c1) (c := .lst acc) (d := z)
        rwa [List.length_set] at this
      rw [lcL]
      simp only [if_pos (show noChk _ from trivial), h1, pYes, h2, ht, eg, if_pos hf, es, if_true]
      rw [ih]
      simp
theorem lc_st {vs : List Nat} {f : Den ItV} {g : GDen} {h : Den D} {env : DL.Env} {cs : List Cell} {n : Nat} {P : D → Prop} {c : Cell} (xs : List D) (hn : n < cs.length) (hs : isS c) (hf : f env cs = .ok ⟨xs, noChk⟩ (cs.set n c)) (hl : xs.length ≤ 1000000)
    (he : ∀ x ∈ xs, ∀ (c : Cell) (acc : List D), isS c → ∃ env' d c', isS c' ∧ P d ∧ g x (wipeE env vs) (cs.set n c ++ [.lst acc]) = .nx env' (cs.set n c ++ [.lst acc]) ∧ h env' (cs.set n c ++ [.lst acc]) = .ok d (cs.set n c' ++ [.lst acc]))
    (hlt : ∀ d, P d → ∀ n, D.lt n d = true) :
    ∃ ds c', isS c' ∧ (∀ d ∈ ds, P d) ∧ ds.length = xs.length ∧ dLc vs f g pYes h env cs = .ok (.lst ds) (cs.set n c') := by
  obtain ⟨ds, c', s', p', l', e⟩ := lcL_st (env := wipeE env vs) (P := P) hn xs [] c hs (by simpa using hl) he
  refine ⟨ds, c', s', p', l', ?_⟩
  have eg : (cs.set n c' ++ [Cell.lst ds])[cs.length]? = some (.lst ds) := by
    have := end_get (cs := cs.set n c') (c := .lst ds)
    rwa [List.length_set] at this
  have es : ∀ z, (cs.set n c' ++ [Cell.lst ds]).set cs.length z = cs.set n c' ++ [z] := fun z => by
    have := end_set (cs := cs.set n c') (c := .lst ds) (d := z)
    rwa [List.length_set] at this
  have hlt2 : D.ltL cs.length ds = true := by
    have := ltL_map (n := cs.length) (ψ := fun d : D => d) (xs := ds) fun d hd => hlt d (p' d hd) _
    simpa using this
  unfold dLc dTr dFrz dLcC
  have ln : (cs.set n c).length = cs.length := by simp
  simp only [hf, Out.bind, ln, e, List.nil_append, eg, es]
  rw [show D.lt cs.length (.lst ds) = D.ltL cs.length ds from rfl, hlt2]
  rw [trim_gen (by simp) fun i x q => ?_]
  by_cases hi : n = i
  · subst hi
    rw [List.getElem?_set_self hn] at q; cases q
    exact .inr (isS_lt s' _)
  · rw [List.getElem?_set_ne hi] at q
    exact .inl q

theorem choice_ok {n : Nat} {cs : List Cell} {c : Cell} (h : cs[n]? = some c) (hs : isS c) (xs : List D) (h1 : 1 ≤ xs.length) (h2 : xs.length ≤ 100) :
    ∃ x c', x ∈ xs ∧ isS c' ∧ F_law_choice [.cell n, .lst xs] cs = .ok x (cs.set n c') := by
  obtain ⟨r, c', s', r0, r1, e⟩ := draw_ok h hs (xs.length : Int) (by omega) (by
    have : ((xs.length : Int).natAbs).log2 ≤ 100 := by
      have e1 : (xs.length : Int).natAbs = xs.length := by omega
      rw [e1]
      exact Nat.le_trans (Nat.log2_le_self _) h2
    omega)
  have hr : r.toNat < xs.length := by omega
  have hx : xs[r.toNat]? = some xs[r.toNat] := List.getElem?_eq_getElem hr
  have ha := atI_int r0 hx
  refine ⟨xs[r.toNat], c', List.getElem_mem hr, s', ?_⟩
  unfold F_law_choice b_law_choice
  have ei : ∀ cs, ixD (.lst xs) (.int r) cs = .ok xs[r.toNat] cs := fun cs => by
    unfold ixD asI
    simp only [itemsS, itemsL, ha]
  simp only [mkF, finS, env0, sRet, d2, dFn, dCall, dCons, dNil, dVar, Out.bind, Out.bindS, lenD, lenD1, itemsS, itemsL, List.length_cons, List.length_nil, List.map_cons, List.map_nil, List.cons_append, List.nil_append, List.replicate_succ, List.replicate_zero, Nat.reduceAdd, Nat.reduceSub, if_true, List.getElem?_cons_zero, List.getElem?_cons_succ, e, ei]
  rw [trim_len (by simp)]
end K51
end

section
set_option Elab.async false
set_option linter.all false
set_option maxRecDepth 100000
namespace K51
open PySem L2 DL Pol
theorem to_il {Q : Int → Prop} : ∀ (ds : List D), (∀ d ∈ ds, ∃ y, d = .int y ∧ Q y) → ∃ ys, ds = ilist ys ∧ ∀ y ∈ ys, Q y
  | [], _ => ⟨[], rfl, fun _ h => (nomatch h)⟩
  | d :: ds, h => by
    obtain ⟨y, rfl, q⟩ := h d List.mem_cons_self
    obtain ⟨ys, rfl, q2⟩ := to_il ds fun d hd => h d (List.mem_cons_of_mem _ hd)
    exact ⟨y :: ys, rfl, fun z hz => by
      rcases List.mem_cons.mp hz with e | e
      · subst e; exact q
      · exact q2 z e⟩
theorem sizes_ok {n : Nat} {cs : List Cell} {c : Cell} (h : cs[n]? = some c) (hs : isS c) :
    ∃ ys c', isS c' ∧ 1 ≤ ys.length ∧ ys.length ≤ 4 ∧ (∀ y ∈ ys, 1 ≤ y ∧ y ≤ 3) ∧ F_law_sizes [.cell n] cs = .ok (.lst (ilist ys)) (cs.set n c') := by
  have hn := live_len h
  obtain ⟨r, c1, s1, r0, r1, e1⟩ := draw_ok h hs 4 (by decide) (by decide)
  have hi : in62 (1 + r) := in62_of (by omega) (by omega)
  obtain ⟨ds, c', s', p', l', e⟩ := lc_st (vs := [1]) (f := itR1 (dCons (d2 (dC (.int 1)) (dFn F_law_draw (dCons (dVar 0) (dCons (dC (.int 4)) dNil))) addD) dNil)) (g := gNm 1) (h := ce_law_sizes_0) (env := [some (.cell n), none])
    (P := fun d => ∃ y, d = .int y ∧ (1 ≤ y ∧ y ≤ 3)) (rngL 0 (1 + r).toNat) hn s1
    (by simp [itR1, dCons, dNil, d2, dC, dFn, dVar, Out.bind, e1, addD, both, asI, hi]) (by rw [rngL_length]; omega) (fun x hx c acc hc => by
      obtain ⟨q, c2, s2, q0, q1, e2⟩ := draw_ok (cs := cs.set n c ++ [.lst acc]) (app_get (set_get hn)) hc 3 (by decide) (by decide)
      rw [app_set (by simpa using hn), List.set_set] at e2
      refine ⟨_, .int (1 + q), c2, s2, ⟨1 + q, rfl, by omega, by omega⟩, rfl, ?_⟩
      show ce_law_sizes_0 [some (.cell n), some x] _ = _
      simp [ce_law_sizes_0, d2, dC, dFn, dCons, dNil, dVar, Out.bind, e2, addD, both, asI])
    (fun d ⟨y, hy, _⟩ n => by subst hy; rfl)
  obtain ⟨ys, rfl, q⟩ := to_il ds p'
  rw [il_len, rngL_length] at l'
  refine ⟨ys, c', s', by omega, by omega, q, ?_⟩
  unfold F_law_sizes b_law_sizes
  simp only [mkF, finS, env0, sRet, Out.bindS, List.length_cons, List.length_nil, List.map_cons, List.map_nil, List.cons_append, List.nil_append, List.replicate_succ, List.replicate_zero, Nat.reduceAdd, Nat.reduceSub, if_true, e]
  rw [trim_len (by simp)]
end K51
end

section
set_option Elab.async false
set_option linter.all false
set_option maxRecDepth 100000
namespace K51
open PySem L2 DL Pol
theorem eq_xs' : (eqD (.str "fence") (.str "store")) = some false := eq_xs
theorem log_small {n : Nat} (h : n ≤ 8999) : n.log2 < 9000 := Nat.lt_of_le_of_lt (Nat.log2_le_self _) (by omega)
theorem command_ok {n : Nat} {cs : List Cell} {c : Cell} (h : cs[n]? = some c) (hs : isS c) (ys : List Int) (h1 : 1 ≤ ys.length) (h6 : ys.length ≤ 6) (hy : ∀ y ∈ ys, 1 ≤ y ∧ y ≤ 4) :
    ∃ (k : Cm) (c' : Cell), k.ok ys ∧ isS c' ∧ F_law_command [.cell n, .lst (ilist ys)] cs = .ok k.sp (cs.set n c') := by
  have hn := live_len h
  obtain ⟨x, c1, x1, s1, e1⟩ := choice_ok h hs [.str "store", .str "store", .str "store", .str "flush", .str "fence"] (by decide) (by decide)
  have g1 := set_get (c := c1) hn
  obtain ⟨l, c2, s2, l0, l1, e2⟩ := draw_ok g1 s1 (ys.length : Int) (by omega) (by
    rw [show ((ys.length : Int).natAbs) = ys.length by omega]; exact log_small (by omega))
  rw [List.set_set] at e2
  have g2 := set_get (c := c2) hn
  have hl : l.toNat < ys.length := by omega
  have el : ((l.toNat : Nat) : Int) = l := Int.toNat_of_nonneg l0
  have fl : fits ys.length := fits_of (by omega)
  unfold F_law_command b_law_command
  have hx : x = .str "store" ∨ x = .str "flush" ∨ x = .str "fence" := by
    simp only [List.mem_cons, List.not_mem_nil, or_false] at x1
    rcases x1 with r | r | r | r | r
    · exact .inl r
    · exact .inl r
    · exact .inl r
    · exact .inr (.inl r)
    · exact .inr (.inr r)
  rcases hx with r | r | r <;> subst r
  · obtain ⟨w, c3, s3, w0, w1, e3⟩ := draw_ok g2 s2 ys[l.toNat] (by have := hy _ (List.getElem_mem hl); omega) (by
      have := hy _ (List.getElem_mem hl)
      exact log_small (by omega))
    rw [List.set_set] at e3
    have g3 := set_get (c := c3) hn
    obtain ⟨v, c4, v1, s4, e4⟩ := choice_ok g3 s3 [.int 0, .int 1, .int 2, .int (-1), .int 100000000000000000000] (by decide) (by decide)
    rw [List.set_set] at e4
    have hv : ∃ z, v = .int z := by
      simp only [List.mem_cons, List.not_mem_nil, or_false] at v1
      rcases v1 with r | r | r | r | r <;> exact ⟨_, r⟩
    obtain ⟨z, rfl⟩ := hv
    have ha : L2.atI (ilist ys) l = some (.int ys[l.toNat]) := atI_int l0 (by rw [il_get, List.getElem?_eq_getElem hl]; rfl)
    refine ⟨.S l.toNat w z, c4, ⟨ys[l.toNat], List.getElem?_eq_getElem hl, w0, w1⟩, s4, ?_⟩
    have ha2 : ∀ cs, ixD (.lst (ilist ys)) (.int l) cs = .ok (.int ys[l.toNat]) cs := fun cs => by
      unfold ixD asI
      simp only [itemsS, itemsL, ha]
    have p1 : CPow 10 20 := by unfold CPow; decide
    simp [Cm.sp, el, trim_len, mkF, finS, env0, sSeq, sNil, sIf, sSet, sAsg, sExpr, sRet, sRetN, sPass, sNo, sPar, sPar3, sFor, Out.bind, Out.bindS, dVar, dC, d1, d2, dNil, dCons, dTup, dLst, dLstC, dCall, dFn, dIf, dML, dSl, oNone, oSome, dFrz, qB, qNot, qAnd, qOr, qTru, eNot, eAnd, eOr, gNm, gTupD, gsCons, gsNil, gIx, addD, subD, mulD, fdivD, modD, powD, negD, ltD, leD, gtD, geD, cmpD, chainD, both, asI, asS, asB, intX, lenD, tupleD, listD, listC, absD, max2D, min2D, itemsL, itemsT, itemsS, getD, atK, isC, isNonD, List.length_cons, List.length_nil, List.map_cons, List.map_nil, List.getElem?_cons_zero, List.getElem?_cons_succ, List.set_cons_zero, List.set_cons_succ, List.cons_append, List.nil_append, List.replicate_succ, List.replicate_zero, if_true, if_false, reduceIte, decide_eq_true_eq, L2.atI, L2.ixN, lenD1, itL, itT, itS, itR1, itR2, itEn, itZ, sFldD, DL.putK, end_get, end_set, List.mem_cons, List.not_mem_nil, or_false, false_or, or_true, true_or, D.lt, D.ltL, Bool.and_true, Bool.true_and, trim_app, gA, g0, sA, s0, List.append_assoc, List.length_append, trim_len, fits_of, fitsL_of, in63_of, in63F_of, in62_of, lo63_of, hi63_of, hi63F_of, few_of, le640_of, e1, e2, e3, e4, ha2, eqC, resL, D.okE, eq_ss, il_len, p1]
  · refine ⟨.F l.toNat, c2, hl, s2, ?_⟩
    simp [Cm.sp, el, trim_len, mkF, finS, env0, sSeq, sNil, sIf, sSet, sAsg, sExpr, sRet, sRetN, sPass, sNo, sPar, sPar3, sFor, Out.bind, Out.bindS, dVar, dC, d1, d2, dNil, dCons, dTup, dLst, dLstC, dCall, dFn, dIf, dML, dSl, oNone, oSome, dFrz, qB, qNot, qAnd, qOr, qTru, eNot, eAnd, eOr, gNm, gTupD, gsCons, gsNil, gIx, addD, subD, mulD, fdivD, modD, powD, negD, ltD, leD, gtD, geD, cmpD, chainD, both, asI, asS, asB, intX, lenD, tupleD, listD, listC, absD, max2D, min2D, itemsL, itemsT, itemsS, ixD, getD, atK, isC, isNonD, List.length_cons, List.length_nil, List.map_cons, List.map_nil, List.getElem?_cons_zero, List.getElem?_cons_succ, List.set_cons_zero, List.set_cons_succ, List.cons_append, List.nil_append, List.replicate_succ, List.replicate_zero, if_true, if_false, reduceIte, decide_eq_true_eq, L2.atI, L2.ixN, lenD1, itL, itT, itA, itS, itR1, itR2, itEn, itEnA, itZ, sFldD, DL.putK, end_get, end_set, List.mem_cons, List.not_mem_nil, or_false, false_or, or_true, true_or, D.lt, D.ltL, Bool.and_true, Bool.true_and, trim_app, gA, g0, sA, s0, List.append_assoc, List.length_append, trim_len, fits_of, fitsL_of, in63_of, in63F_of, in62_of, lo63_of, hi63_of, hi63F_of, few_of, le640_of, fits_of, e1, e2, eqC, resL, D.okE, eq_fs, eq_ff, il_len]
  · refine ⟨.X, c2, trivial, s2, ?_⟩
    simp [Cm.sp, el, trim_len, mkF, finS, env0, sSeq, sNil, sIf, sSet, sAsg, sExpr, sRet, sRetN, sPass, sNo, sPar, sPar3, sFor, Out.bind, Out.bindS, dVar, dC, d1, d2, dNil, dCons, dTup, dLst, dLstC, dCall, dFn, dIf, dML, dSl, oNone, oSome, dFrz, qB, qNot, qAnd, qOr, qTru, eNot, eAnd, eOr, gNm, gTupD, gsCons, gsNil, gIx, addD, subD, mulD, fdivD, modD, powD, negD, ltD, leD, gtD, geD, cmpD, chainD, both, asI, asS, asB, intX, lenD, tupleD, listD, listC, absD, max2D, min2D, itemsL, itemsT, itemsS, ixD, getD, atK, isC, isNonD, List.length_cons, List.length_nil, List.map_cons, List.map_nil, List.getElem?_cons_zero, List.getElem?_cons_succ, List.set_cons_zero, List.set_cons_succ, List.cons_append, List.nil_append, List.replicate_succ, List.replicate_zero, if_true, if_false, reduceIte, decide_eq_true_eq, L2.atI, L2.ixN, lenD1, itL, itT, itA, itS, itR1, itR2, itEn, itEnA, itZ, sFldD, DL.putK, end_get, end_set, List.mem_cons, List.not_mem_nil, or_false, false_or, or_true, true_or, D.lt, D.ltL, Bool.and_true, Bool.true_and, trim_app, gA, g0, sA, s0, List.append_assoc, List.length_append, trim_len, fits_of, fitsL_of, in63_of, in63F_of, in62_of, lo63_of, hi63_of, hi63F_of, few_of, le640_of, fits_of, e1, e2, eqC, resL, D.okE, eq_xs, eq_xf, il_len]
end K51
end

section
set_option Elab.async false
set_option linter.all false
set_option maxRecDepth 100000
namespace K51
open PySem L2 DL Pol
theorem to_sps {Q : Cm → Prop} : ∀ (ds : List D), (∀ d ∈ ds, ∃ k : Cm, d = k.sp ∧ Q k) → ∃ r, ds = sps r ∧ ∀ c ∈ r, Q c
  | [], _ => ⟨[], rfl, fun _ h => (nomatch h)⟩
  | d :: ds, h => by
    obtain ⟨y, rfl, q⟩ := h d List.mem_cons_self
    obtain ⟨ys, rfl, q2⟩ := to_sps ds fun d hd => h d (List.mem_cons_of_mem _ hd)
    exact ⟨y :: ys, rfl, fun z hz => by
      rcases List.mem_cons.mp hz with e | e
      · subst e; exact q
      · exact q2 z e⟩
theorem lt_sp (k : Cm) (n : Nat) : D.lt n k.sp = true := by cases k <;> rfl
theorem sps_len (r : List Cm) : (sps r).length = r.length := by unfold sps; simp
theorem specs_ok {n : Nat} {cs : List Cell} {c : Cell} (h : cs[n]? = some c) (hs : isS c) (ys : List Int) (h1 : 1 ≤ ys.length) (h6 : ys.length ≤ 6) (hy : ∀ y ∈ ys, 1 ≤ y ∧ y ≤ 4) :
    ∃ (r : List Cm) (c' : Cell), r.length ≤ 6 ∧ (∀ k ∈ r, k.ok ys) ∧ isS c' ∧ F_law_specs [.cell n, .lst (ilist ys), .int 6] cs = .ok (.lst (sps r)) (cs.set n c') := by
  have hn := live_len h
  obtain ⟨q, c1, s1, r0, r1, e1⟩ := draw_ok h hs 7 (by decide) (by decide)
  have hi : in62 q := in62_of (by omega) (by omega)
  obtain ⟨ds, c', s', p', l', e⟩ := lc_st (vs := [3]) (f := itR1 (dCons (dFn F_law_draw (dCons (dVar 0) (dCons (d2 (dVar 2) (dC (.int 1)) addD) dNil))) dNil)) (g := gNm 3) (h := ce_law_specs_0) (env := [some (.cell n), some (.lst (ilist ys)), some (.int 6), none])
    (P := fun d => ∃ k : Cm, d = k.sp ∧ k.ok ys) (rngL 0 q.toNat) hn s1
    (by simp [itR1, dCons, dNil, d2, dC, dFn, dVar, Out.bind, e1, addD, both, asI, hi]) (by rw [rngL_length]; omega) (fun x hx c acc hc => by
      obtain ⟨k, c2, k1, s2, e2⟩ := command_ok (cs := cs.set n c ++ [.lst acc]) (app_get (set_get hn)) hc ys h1 h6 hy
      rw [app_set (by simpa using hn), List.set_set] at e2
      refine ⟨_, k.sp, c2, s2, ⟨k, rfl, k1⟩, rfl, ?_⟩
      show ce_law_specs_0 [some (.cell n), some (.lst (ilist ys)), some (.int 6), some x] _ = _
      simp [ce_law_specs_0, d2, dC, dFn, dCons, dNil, dVar, Out.bind, e2])
    (fun d ⟨k, hk, _⟩ n => by subst hk; exact lt_sp k n)
  obtain ⟨r, rfl, q2⟩ := to_sps ds p'
  rw [sps_len, rngL_length] at l'
  refine ⟨r, c', by omega, q2, s', ?_⟩
  unfold F_law_specs b_law_specs
  simp only [mkF, finS, env0, sRet, Out.bindS, List.length_cons, List.length_nil, List.map_cons, List.map_nil, List.cons_append, List.nil_append, List.replicate_succ, List.replicate_zero, Nat.reduceAdd, Nat.reduceSub, if_true, e]
  rw [trim_len (by simp)]
theorem F_done (k : Cm) (cs : List Cell) : F_law_done [k.sp] cs = .ok k.ob cs := by
  unfold F_law_done b_law_done
  cases k with
  | S l w n => simp [Cm.sp, Cm.ob, mkF, finS, env0, sSeq, sNil, sIf, sSet, sAsg, sExpr, sRet, sRetN, sPass, sNo, sPar, sPar3, sFor, Out.bind, Out.bindS, dVar, dC, d1, d2, dNil, dCons, dTup, dLst, dLstC, dCall, dFn, dIf, dML, dSl, oNone, oSome, dFrz, qB, qNot, qAnd, qOr, qTru, eNot, eAnd, eOr, gNm, gTupD, gsCons, gsNil, gIx, addD, subD, mulD, fdivD, modD, powD, negD, ltD, leD, gtD, geD, cmpD, chainD, both, asI, asS, asB, intX, lenD, tupleD, listD, listC, absD, max2D, min2D, itemsL, itemsT, itemsS, ixD, getD, atK, isC, isNonD, List.length_cons, List.length_nil, List.map_cons, List.map_nil, List.getElem?_cons_zero, List.getElem?_cons_succ, List.set_cons_zero, List.set_cons_succ, List.cons_append, List.nil_append, List.replicate_succ, List.replicate_zero, if_true, if_false, reduceIte, decide_eq_true_eq, L2.atI, L2.ixN, lenD1, itL, itT, itA, itS, itR1, itR2, itEn, itEnA, itZ, sFldD, DL.putK, end_get, end_set, List.mem_cons, List.not_mem_nil, or_false, false_or, or_true, true_or, D.lt, D.ltL, Bool.and_true, Bool.true_and, trim_app, gA, g0, sA, s0, List.append_assoc, List.length_append, trim_len, fits_of, fitsL_of, in63_of, in63F_of, in62_of, lo63_of, hi63_of, hi63F_of, few_of, le640_of, eqC, resL, D.okE, eq_ss, mkO, F_Store_init, b_Store_init, od]
  | F l => simp [Cm.sp, Cm.ob, mkF, finS, env0, sSeq, sNil, sIf, sSet, sAsg, sExpr, sRet, sRetN, sPass, sNo, sPar, sPar3, sFor, Out.bind, Out.bindS, dVar, dC, d1, d2, dNil, dCons, dTup, dLst, dLstC, dCall, dFn, dIf, dML, dSl, oNone, oSome, dFrz, qB, qNot, qAnd, qOr, qTru, eNot, eAnd, eOr, gNm, gTupD, gsCons, gsNil, gIx, addD, subD, mulD, fdivD, modD, powD, negD, ltD, leD, gtD, geD, cmpD, chainD, both, asI, asS, asB, intX, lenD, tupleD, listD, listC, absD, max2D, min2D, itemsL, itemsT, itemsS, ixD, getD, atK, isC, isNonD, List.length_cons, List.length_nil, List.map_cons, List.map_nil, List.getElem?_cons_zero, List.getElem?_cons_succ, List.set_cons_zero, List.set_cons_succ, List.cons_append, List.nil_append, List.replicate_succ, List.replicate_zero, if_true, if_false, reduceIte, decide_eq_true_eq, L2.atI, L2.ixN, lenD1, itL, itT, itA, itS, itR1, itR2, itEn, itEnA, itZ, sFldD, DL.putK, end_get, end_set, List.mem_cons, List.not_mem_nil, or_false, false_or, or_true, true_or, D.lt, D.ltL, Bool.and_true, Bool.true_and, trim_app, gA, g0, sA, s0, List.append_assoc, List.length_append, trim_len, fits_of, fitsL_of, in63_of, in63F_of, in62_of, lo63_of, hi63_of, hi63F_of, few_of, le640_of, eqC, resL, D.okE, eq_fs, eq_ff, mkO, F_Flush_init, b_Flush_init, od]
  | X => simp [Cm.sp, Cm.ob, mkF, finS, env0, sSeq, sNil, sIf, sSet, sAsg, sExpr, sRet, sRetN, sPass, sNo, sPar, sPar3, sFor, Out.bind, Out.bindS, dVar, dC, d1, d2, dNil, dCons, dTup, dLst, dLstC, dCall, dFn, dIf, dML, dSl, oNone, oSome, dFrz, qB, qNot, qAnd, qOr, qTru, eNot, eAnd, eOr, gNm, gTupD, gsCons, gsNil, gIx, addD, subD, mulD, fdivD, modD, powD, negD, ltD, leD, gtD, geD, cmpD, chainD, both, asI, asS, asB, intX, lenD, tupleD, listD, listC, absD, max2D, min2D, itemsL, itemsT, itemsS, ixD, getD, atK, isC, isNonD, List.length_cons, List.length_nil, List.map_cons, List.map_nil, List.getElem?_cons_zero, List.getElem?_cons_succ, List.set_cons_zero, List.set_cons_succ, List.cons_append, List.nil_append, List.replicate_succ, List.replicate_zero, if_true, if_false, reduceIte, decide_eq_true_eq, L2.atI, L2.ixN, lenD1, itL, itT, itA, itS, itR1, itR2, itEn, itEnA, itZ, sFldD, DL.putK, end_get, end_set, List.mem_cons, List.not_mem_nil, or_false, false_or, or_true, true_or, D.lt, D.ltL, Bool.and_true, Bool.true_and, trim_app, gA, g0, sA, s0, List.append_assoc, List.length_append, trim_len, fits_of, fitsL_of, in63_of, in63F_of, in62_of, lo63_of, hi63_of, hi63F_of, few_of, le640_of, eqC, resL, D.okE, eq_xs, eq_xf]
theorem trim_no {cs0 cs : List Cell} : DL.trim cs0 cs false = cs := by
  unfold DL.trim; rw [if_neg]; intro h; cases h.1
theorem F_source (z : Int) (hz : Builtin.Int.intBits z ≤ 1048576) (cs : List Cell) : ∃ c, isS c ∧ F_law_source [.int z] cs = .ok (.cell cs.length) (cs ++ [c]) := by
  have p1 : CPow 10 18 := by unfold CPow; decide
  by_cases h : z ≥ 1000000000000000000
  · refine ⟨.lst [.int z, .int (z % 2147483587), .int 0], ⟨_, _, _, rfl⟩, ?_⟩
    have m1 : CMulX z 1 := mulX_r (by decide) (by decide)
    have d1 : CDivX z 2147483587 := divX_w (by decide) (by decide)
    unfold F_law_source b_law_source
    simp [mkF, finS, env0, sSeq, sNil, sIf, sSet, sAsg, sExpr, sRet, sRetN, sPass, sNo, sPar, sPar3, sFor, Out.bind, Out.bindS, dVar, dC, d1, d2, dNil, dCons, dTup, dLst, dLstC, dCall, dFn, dIf, dML, dSl, oNone, oSome, dFrz, qB, qNot, qAnd, qOr, qTru, eNot, eAnd, eOr, gNm, gTupD, gsCons, gsNil, gIx, addD, subD, mulD, fdivD, modD, powD, negD, ltD, leD, gtD, geD, cmpD, chainD, both, asI, asS, asB, intX, lenD, tupleD, listD, listC, absD, max2D, min2D, itemsL, itemsT, itemsS, ixD, getD, atK, isC, isNonD, List.length_cons, List.length_nil, List.map_cons, List.map_nil, List.getElem?_cons_zero, List.getElem?_cons_succ, List.set_cons_zero, List.set_cons_succ, List.cons_append, List.nil_append, List.replicate_succ, List.replicate_zero, if_true, if_false, reduceIte, decide_eq_true_eq, L2.atI, L2.ixN, lenD1, itL, itT, itA, itS, itR1, itR2, itEn, itEnA, itZ, sFldD, DL.putK, end_get, end_set, List.mem_cons, List.not_mem_nil, or_false, false_or, or_true, true_or, D.lt, D.ltL, Bool.and_true, Bool.true_and, trim_app, gA, g0, sA, s0, List.append_assoc, List.length_append, trim_len, fits_of, fitsL_of, in63_of, in63F_of, in62_of, lo63_of, hi63_of, hi63F_of, few_of, le640_of, p1, m1, d1, h, trim_no]
  · refine ⟨.lst [.int 0, .int (z % 2147483587), .int 0], ⟨_, _, _, rfl⟩, ?_⟩
    have m1 : CMulX z 0 := mulX_r (by decide) (by decide)
    have d1 : CDivX z 2147483587 := divX_w (by decide) (by decide)
    unfold F_law_source b_law_source
    simp [mkF, finS, env0, sSeq, sNil, sIf, sSet, sAsg, sExpr, sRet, sRetN, sPass, sNo, sPar, sPar3, sFor, Out.bind, Out.bindS, dVar, dC, d1, d2, dNil, dCons, dTup, dLst, dLstC, dCall, dFn, dIf, dML, dSl, oNone, oSome, dFrz, qB, qNot, qAnd, qOr, qTru, eNot, eAnd, eOr, gNm, gTupD, gsCons, gsNil, gIx, addD, subD, mulD, fdivD, modD, powD, negD, ltD, leD, gtD, geD, cmpD, chainD, both, asI, asS, asB, intX, lenD, tupleD, listD, listC, absD, max2D, min2D, itemsL, itemsT, itemsS, ixD, getD, atK, isC, isNonD, List.length_cons, List.length_nil, List.map_cons, List.map_nil, List.getElem?_cons_zero, List.getElem?_cons_succ, List.set_cons_zero, List.set_cons_succ, List.cons_append, List.nil_append, List.replicate_succ, List.replicate_zero, if_true, if_false, reduceIte, decide_eq_true_eq, L2.atI, L2.ixN, lenD1, itL, itT, itA, itS, itR1, itR2, itEn, itEnA, itZ, sFldD, DL.putK, end_get, end_set, List.mem_cons, List.not_mem_nil, or_false, false_or, or_true, true_or, D.lt, D.ltL, Bool.and_true, Bool.true_and, trim_app, gA, g0, sA, s0, List.append_assoc, List.length_append, trim_len, fits_of, fitsL_of, in63_of, in63F_of, in62_of, lo63_of, hi63_of, hi63F_of, few_of, le640_of, p1, m1, d1, h, trim_no]
theorem F_cell_at (ns : List Int) (i : Nat) (cs : List Cell) (hl : ns.length ≤ 63) (hb : ∀ z ∈ ns, Builtin.Int.intBits z ≤ 1048576) : ∃ z, Builtin.Int.intBits z ≤ 1048576 ∧ F_law_cell_at [.lst (ilist ns), .int (i : Int)] cs = .ok (.int z) cs := by
  have fl : fits ns.length := fits_of (by omega)
  unfold F_law_cell_at b_law_cell_at
  by_cases h : i < ns.length
  · refine ⟨ns[i], hb _ (List.getElem_mem h), ?_⟩
    have ha : L2.atI (ilist ns) (i : Int) = some (.int ns[i]) := atI_nat (by rw [il_get, List.getElem?_eq_getElem h]; rfl)
    have ha2 : ∀ cs, ixD (.lst (ilist ns)) (.int (i : Int)) cs = .ok (.int ns[i]) cs := fun cs => by
      unfold ixD asI
      simp only [itemsS, itemsL, ha]
    have h2 : (i : Int) < (ns.length : Int) := by omega
    simp [mkF, finS, env0, sSeq, sNil, sIf, sSet, sAsg, sExpr, sRet, sRetN, sPass, sNo, sPar, sPar3, sFor, Out.bind, Out.bindS, dVar, dC, d1, d2, dNil, dCons, dTup, dLst, dLstC, dCall, dFn, dIf, dML, dSl, oNone, oSome, dFrz, qB, qNot, qAnd, qOr, qTru, eNot, eAnd, eOr, gNm, gTupD, gsCons, gsNil, gIx, addD, subD, mulD, fdivD, modD, powD, negD, ltD, leD, gtD, geD, cmpD, chainD, both, asI, asS, asB, intX, lenD, tupleD, listD, listC, absD, max2D, min2D, itemsL, itemsT, itemsS, getD, atK, isC, isNonD, List.length_cons, List.length_nil, List.map_cons, List.map_nil, List.getElem?_cons_zero, List.getElem?_cons_succ, List.set_cons_zero, List.set_cons_succ, List.cons_append, List.nil_append, List.replicate_succ, List.replicate_zero, if_true, if_false, reduceIte, decide_eq_true_eq, L2.atI, L2.ixN, lenD1, itL, itT, itS, itR1, itR2, itEn, itZ, sFldD, DL.putK, end_get, end_set, List.mem_cons, List.not_mem_nil, or_false, false_or, or_true, true_or, D.lt, D.ltL, Bool.and_true, Bool.true_and, trim_app, gA, g0, sA, s0, List.append_assoc, List.length_append, trim_len, fits_of, fitsL_of, in63_of, in63F_of, in62_of, lo63_of, hi63_of, hi63F_of, few_of, le640_of, il_len, fl, h, h2, ha2]
  · refine ⟨0, by decide, ?_⟩
    have h2 : ¬ (i : Int) < (ns.length : Int) := by omega
    simp [mkF, finS, env0, sSeq, sNil, sIf, sSet, sAsg, sExpr, sRet, sRetN, sPass, sNo, sPar, sPar3, sFor, Out.bind, Out.bindS, dVar, dC, d1, d2, dNil, dCons, dTup, dLst, dLstC, dCall, dFn, dIf, dML, dSl, oNone, oSome, dFrz, qB, qNot, qAnd, qOr, qTru, eNot, eAnd, eOr, gNm, gTupD, gsCons, gsNil, gIx, addD, subD, mulD, fdivD, modD, powD, negD, ltD, leD, gtD, geD, cmpD, chainD, both, asI, asS, asB, intX, lenD, tupleD, listD, listC, absD, max2D, min2D, itemsL, itemsT, itemsS, getD, atK, isC, isNonD, List.length_cons, List.length_nil, List.map_cons, List.map_nil, List.getElem?_cons_zero, List.getElem?_cons_succ, List.set_cons_zero, List.set_cons_succ, List.cons_append, List.nil_append, List.replicate_succ, List.replicate_zero, if_true, if_false, reduceIte, decide_eq_true_eq, L2.atI, L2.ixN, lenD1, itL, itT, itS, itR1, itR2, itEn, itZ, sFldD, DL.putK, end_get, end_set, List.mem_cons, List.not_mem_nil, or_false, false_or, or_true, true_or, D.lt, D.ltL, Bool.and_true, Bool.true_and, trim_app, gA, g0, sA, s0, List.append_assoc, List.length_append, trim_len, fits_of, fitsL_of, in63_of, in63F_of, in62_of, lo63_of, hi63_of, hi63F_of, few_of, le640_of, il_len, fl, h, h2]
end K51
end

section
set_option Elab.async false
set_option linter.all false
set_option maxRecDepth 100000
namespace K51
open PySem L2 DL Pol
/-! ### errors -/
inductive OK2 where
  | ln (i : Int) | wd (i : Int)
def OK2.exn {α : Type} (k : OK2) (cs : List Cell) : Out α := match k with
  | .ln i => .exn 2 [2] [.int i] cs
  | .wd i => .exn 3 [3] [.int i] cs
def OK2.ex (k : OK2) (env : DL.Env) (cs : List Cell) : SO := match k with
  | .ln i => .ex 2 [2] [.int i] env cs
  | .wd i => .ex 3 [3] [.int i] env cs
def OK2.told : OK2 → D
  | .ln i => .tup [.str "line", .int i]
  | .wd i => .tup [.str "word", .int i]
theorem cl_bad (xs : List Int) (i : Int) (cs : List Cell) (hb : xs.length ≤ 6) (h : ¬ (0 ≤ i ∧ i < xs.length)) : F_Memory_check_line [memD xs, .int i] cs = .exn 2 [2] [.int i] cs := by
  have hb2 : xs.length ≤ 1000000 := by omega
  unfold F_Memory_check_line b_Memory_check_line memD
  by_cases h0 : 0 ≤ i
  · have h1 : ¬ i < xs.length := fun z => h ⟨h0, z⟩
    simp [mkF, finS, env0, sSeq, sNil, sIf, sSet, sAsg, sExpr, sRet, sRetN, sPass, sNo, sPar, sPar3, sFor, Out.bind, Out.bindS, dVar, dC, d1, d2, dNil, dCons, dTup, dLst, dLstC, dCall, dFn, dIf, dML, dSl, oNone, oSome, dFrz, qB, qNot, qAnd, qOr, qTru, eNot, eAnd, eOr, gNm, gTupD, gsCons, gsNil, gIx, addD, subD, mulD, fdivD, modD, powD, negD, ltD, leD, gtD, geD, cmpD, chainD, both, asI, asS, asB, intX, lenD, tupleD, listD, listC, absD, max2D, min2D, itemsL, itemsT, itemsS, ixD, getD, atK, isC, isNonD, List.length_cons, List.length_nil, List.map_cons, List.map_nil, List.getElem?_cons_zero, List.getElem?_cons_succ, List.set_cons_zero, List.set_cons_succ, List.cons_append, List.nil_append, List.replicate_succ, List.replicate_zero, if_true, if_false, reduceIte, decide_eq_true_eq, L2.atI, L2.ixN, lenD1, itL, itT, itA, itS, itR1, itR2, itEn, itEnA, itZ, sFldD, DL.putK, end_get, end_set, List.mem_cons, List.not_mem_nil, or_false, false_or, or_true, true_or, D.lt, D.ltL, Bool.and_true, Bool.true_and, trim_app, gA, g0, sA, s0, List.append_assoc, List.length_append, trim_len, fits_of, fitsL_of, in63_of, in63F_of, in62_of, lo63_of, hi63_of, hi63F_of, few_of, le640_of, od, il_len, hb2, h0, h1, trim_len, sRaise]
  · simp [mkF, finS, env0, sSeq, sNil, sIf, sSet, sAsg, sExpr, sRet, sRetN, sPass, sNo, sPar, sPar3, sFor, Out.bind, Out.bindS, dVar, dC, d1, d2, dNil, dCons, dTup, dLst, dLstC, dCall, dFn, dIf, dML, dSl, oNone, oSome, dFrz, qB, qNot, qAnd, qOr, qTru, eNot, eAnd, eOr, gNm, gTupD, gsCons, gsNil, gIx, addD, subD, mulD, fdivD, modD, powD, negD, ltD, leD, gtD, geD, cmpD, chainD, both, asI, asS, asB, intX, lenD, tupleD, listD, listC, absD, max2D, min2D, itemsL, itemsT, itemsS, ixD, getD, atK, isC, isNonD, List.length_cons, List.length_nil, List.map_cons, List.map_nil, List.getElem?_cons_zero, List.getElem?_cons_succ, List.set_cons_zero, List.set_cons_succ, List.cons_append, List.nil_append, List.replicate_succ, List.replicate_zero, if_true, if_false, reduceIte, decide_eq_true_eq, L2.atI, L2.ixN, lenD1, itL, itT, itA, itS, itR1, itR2, itEn, itEnA, itZ, sFldD, DL.putK, end_get, end_set, List.mem_cons, List.not_mem_nil, or_false, false_or, or_true, true_or, D.lt, D.ltL, Bool.and_true, Bool.true_and, trim_app, gA, g0, sA, s0, List.append_assoc, List.length_append, trim_len, fits_of, fitsL_of, in63_of, in63F_of, in62_of, lo63_of, hi63_of, hi63F_of, few_of, le640_of, od, il_len, hb2, h0, trim_len, sRaise]
theorem ckw_bad (xs : List Int) (l : Nat) (w x : Int) (cs : List Cell) (h : xs[l]? = some x) (hb : xs.length ≤ 6) (hw : ¬ (0 ≤ w ∧ w < x)) : F_Memory_check_word [memD xs, .int l, .int w] cs = .exn 3 [3] [.int w] cs := by
  obtain ⟨hl, rfl⟩ := List.getElem?_eq_some_iff.mp h
  have e := F_check_line xs l cs hl hb
  unfold F_Memory_check_word b_Memory_check_word
  unfold memD at e ⊢
  by_cases w0 : 0 ≤ w
  · have w1 : xs[l] ≤ w := Int.not_lt.mp fun z => hw ⟨w0, z⟩
    simp [mkF, finS, env0, sSeq, sNil, sIf, sSet, sAsg, sExpr, sRet, sRetN, sPass, sNo, sPar, sPar3, sFor, Out.bind, Out.bindS, dVar, dC, d1, d2, dNil, dCons, dTup, dLst, dLstC, dCall, dFn, dIf, dML, dSl, oNone, oSome, dFrz, qB, qNot, qAnd, qOr, qTru, eNot, eAnd, eOr, gNm, gTupD, gsCons, gsNil, gIx, addD, subD, mulD, fdivD, modD, powD, negD, ltD, leD, gtD, geD, cmpD, chainD, both, asI, asS, asB, intX, lenD, tupleD, listD, listC, absD, max2D, min2D, itemsL, itemsT, itemsS, ixD, getD, atK, isC, isNonD, List.length_cons, List.length_nil, List.map_cons, List.map_nil, List.getElem?_cons_zero, List.getElem?_cons_succ, List.set_cons_zero, List.set_cons_succ, List.cons_append, List.nil_append, List.replicate_succ, List.replicate_zero, if_true, if_false, reduceIte, decide_eq_true_eq, L2.atI, L2.ixN, lenD1, itL, itT, itA, itS, itR1, itR2, itEn, itEnA, itZ, sFldD, DL.putK, end_get, end_set, List.mem_cons, List.not_mem_nil, or_false, false_or, or_true, true_or, D.lt, D.ltL, Bool.and_true, Bool.true_and, trim_app, gA, g0, sA, s0, List.append_assoc, List.length_append, trim_len, fits_of, fitsL_of, in63_of, in63F_of, in62_of, lo63_of, hi63_of, hi63F_of, few_of, le640_of, dMth, clsOf, lk_check_line_7, e, od, il_len, il_get, h, hl, w0, w1, sRaise]
  · simp [mkF, finS, env0, sSeq, sNil, sIf, sSet, sAsg, sExpr, sRet, sRetN, sPass, sNo, sPar, sPar3, sFor, Out.bind, Out.bindS, dVar, dC, d1, d2, dNil, dCons, dTup, dLst, dLstC, dCall, dFn, dIf, dML, dSl, oNone, oSome, dFrz, qB, qNot, qAnd, qOr, qTru, eNot, eAnd, eOr, gNm, gTupD, gsCons, gsNil, gIx, addD, subD, mulD, fdivD, modD, powD, negD, ltD, leD, gtD, geD, cmpD, chainD, both, asI, asS, asB, intX, lenD, tupleD, listD, listC, absD, max2D, min2D, itemsL, itemsT, itemsS, ixD, getD, atK, isC, isNonD, List.length_cons, List.length_nil, List.map_cons, List.map_nil, List.getElem?_cons_zero, List.getElem?_cons_succ, List.set_cons_zero, List.set_cons_succ, List.cons_append, List.nil_append, List.replicate_succ, List.replicate_zero, if_true, if_false, reduceIte, decide_eq_true_eq, L2.atI, L2.ixN, lenD1, itL, itT, itA, itS, itR1, itR2, itEn, itEnA, itZ, sFldD, DL.putK, end_get, end_set, List.mem_cons, List.not_mem_nil, or_false, false_or, or_true, true_or, D.lt, D.ltL, Bool.and_true, Bool.true_and, trim_app, gA, g0, sA, s0, List.append_assoc, List.length_append, trim_len, fits_of, fitsL_of, in63_of, in63F_of, in62_of, lo63_of, hi63_of, hi63F_of, few_of, le640_of, dMth, clsOf, lk_check_line_7, e, od, il_len, il_get, h, hl, w0, sRaise]
/-- commands with an invalid part -/
inductive Odd (xs : List Int) : D → OK2 → Prop
  | sl (l : Nat) (w n : Int) (h : xs.length ≤ l) : Odd xs (.obj 9 [.int l, .int w, .int n]) (.ln l)
  | sw (l : Nat) (w n x : Int) (h : xs[l]? = some x) (h2 : ¬ (0 ≤ w ∧ w < x)) : Odd xs (.obj 9 [.int l, .int w, .int n]) (.wd w)
  | fl (i : Int) (h : ¬ (0 ≤ i ∧ i < xs.length)) : Odd xs (.obj 10 [.int i]) (.ln i)
theorem odd_step (xs : List Int) (hb : xs.length ≤ 6) {d : D} {k : OK2} (h : Odd xs d k) (b : Option D) (cs : List Cell) : lb_check_commands_0 [some (memD xs), b, some d] cs = k.ex [some (memD xs), b, some d] cs := by
  cases h with
  | sl l w n h =>
    have e := cl_bad xs l cs hb (by omega)
    unfold lb_check_commands_0 OK2.ex
    unfold memD at e ⊢
    have e2 : F_Memory_check_word [.obj 7 [.tup (ilist xs)], .int l, .int w] cs = .exn 2 [2] [.int l] cs := by
      unfold F_Memory_check_word b_Memory_check_word
      simp [mkF, finS, env0, sSeq, sNil, sIf, sSet, sAsg, sExpr, sRet, sRetN, sPass, sNo, sPar, sPar3, sFor, Out.bind, Out.bindS, dVar, dC, d1, d2, dNil, dCons, dTup, dLst, dLstC, dCall, dFn, dIf, dML, dSl, oNone, oSome, dFrz, qB, qNot, qAnd, qOr, qTru, eNot, eAnd, eOr, gNm, gTupD, gsCons, gsNil, gIx, addD, subD, mulD, fdivD, modD, powD, negD, ltD, leD, gtD, geD, cmpD, chainD, both, asI, asS, asB, intX, lenD, tupleD, listD, listC, absD, max2D, min2D, itemsL, itemsT, itemsS, ixD, getD, atK, isC, isNonD, List.length_cons, List.length_nil, List.map_cons, List.map_nil, List.getElem?_cons_zero, List.getElem?_cons_succ, List.set_cons_zero, List.set_cons_succ, List.cons_append, List.nil_append, List.replicate_succ, List.replicate_zero, if_true, if_false, reduceIte, decide_eq_true_eq, L2.atI, L2.ixN, lenD1, itL, itT, itA, itS, itR1, itR2, itEn, itEnA, itZ, sFldD, DL.putK, end_get, end_set, List.mem_cons, List.not_mem_nil, or_false, false_or, or_true, true_or, D.lt, D.ltL, Bool.and_true, Bool.true_and, trim_app, gA, g0, sA, s0, List.append_assoc, List.length_append, trim_len, fits_of, fitsL_of, in63_of, in63F_of, in62_of, lo63_of, hi63_of, hi63F_of, few_of, le640_of, dMth, clsOf, lk_check_line_7, e, od, sRaise]
    have e3 : F_Store_check [.obj 9 [.int l, .int w, .int n], .obj 7 [.tup (ilist xs)]] cs = .exn 2 [2] [.int l] cs := by
      unfold F_Store_check b_Store_check
      simp [mkF, finS, env0, sSeq, sNil, sIf, sSet, sAsg, sExpr, sRet, sRetN, sPass, sNo, sPar, sPar3, sFor, Out.bind, Out.bindS, dVar, dC, d1, d2, dNil, dCons, dTup, dLst, dLstC, dCall, dFn, dIf, dML, dSl, oNone, oSome, dFrz, qB, qNot, qAnd, qOr, qTru, eNot, eAnd, eOr, gNm, gTupD, gsCons, gsNil, gIx, addD, subD, mulD, fdivD, modD, powD, negD, ltD, leD, gtD, geD, cmpD, chainD, both, asI, asS, asB, intX, lenD, tupleD, listD, listC, absD, max2D, min2D, itemsL, itemsT, itemsS, ixD, getD, atK, isC, isNonD, List.length_cons, List.length_nil, List.map_cons, List.map_nil, List.getElem?_cons_zero, List.getElem?_cons_succ, List.set_cons_zero, List.set_cons_succ, List.cons_append, List.nil_append, List.replicate_succ, List.replicate_zero, if_true, if_false, reduceIte, decide_eq_true_eq, L2.atI, L2.ixN, lenD1, itL, itT, itA, itS, itR1, itR2, itEn, itEnA, itZ, sFldD, DL.putK, end_get, end_set, List.mem_cons, List.not_mem_nil, or_false, false_or, or_true, true_or, D.lt, D.ltL, Bool.and_true, Bool.true_and, trim_app, gA, g0, sA, s0, List.append_assoc, List.length_append, trim_len, fits_of, fitsL_of, in63_of, in63F_of, in62_of, lo63_of, hi63_of, hi63F_of, few_of, le640_of, dMth, clsOf, lk_check_word_7, e2, od]
    simp [mkF, finS, env0, sSeq, sNil, sIf, sSet, sAsg, sExpr, sRet, sRetN, sPass, sNo, sPar, sPar3, sFor, Out.bind, Out.bindS, dVar, dC, d1, d2, dNil, dCons, dTup, dLst, dLstC, dCall, dFn, dIf, dML, dSl, oNone, oSome, dFrz, qB, qNot, qAnd, qOr, qTru, eNot, eAnd, eOr, gNm, gTupD, gsCons, gsNil, gIx, addD, subD, mulD, fdivD, modD, powD, negD, ltD, leD, gtD, geD, cmpD, chainD, both, asI, asS, asB, intX, lenD, tupleD, listD, listC, absD, max2D, min2D, itemsL, itemsT, itemsS, ixD, getD, atK, isC, isNonD, List.length_cons, List.length_nil, List.map_cons, List.map_nil, List.getElem?_cons_zero, List.getElem?_cons_succ, List.set_cons_zero, List.set_cons_succ, List.cons_append, List.nil_append, List.replicate_succ, List.replicate_zero, if_true, if_false, reduceIte, decide_eq_true_eq, L2.atI, L2.ixN, lenD1, itL, itT, itA, itS, itR1, itR2, itEn, itEnA, itZ, sFldD, DL.putK, end_get, end_set, List.mem_cons, List.not_mem_nil, or_false, false_or, or_true, true_or, D.lt, D.ltL, Bool.and_true, Bool.true_and, trim_app, gA, g0, sA, s0, List.append_assoc, List.length_append, trim_len, fits_of, fitsL_of, in63_of, in63F_of, in62_of, lo63_of, hi63_of, hi63F_of, few_of, le640_of, dMth, clsOf, lk_check_9, e3, od]
  | sw l w n x h h2 =>
    have e2 := ckw_bad xs l w x cs h hb h2
    unfold lb_check_commands_0 OK2.ex
    unfold memD at e2 ⊢
    have e3 : F_Store_check [.obj 9 [.int l, .int w, .int n], .obj 7 [.tup (ilist xs)]] cs = .exn 3 [3] [.int w] cs := by
      unfold F_Store_check b_Store_check
      simp [mkF, finS, env0, sSeq, sNil, sIf, sSet, sAsg, sExpr, sRet, sRetN, sPass, sNo, sPar, sPar3, sFor, Out.bind, Out.bindS, dVar, dC, d1, d2, dNil, dCons, dTup, dLst, dLstC, dCall, dFn, dIf, dML, dSl, oNone, oSome, dFrz, qB, qNot, qAnd, qOr, qTru, eNot, eAnd, eOr, gNm, gTupD, gsCons, gsNil, gIx, addD, subD, mulD, fdivD, modD, powD, negD, ltD, leD, gtD, geD, cmpD, chainD, both, asI, asS, asB, intX, lenD, tupleD, listD, listC, absD, max2D, min2D, itemsL, itemsT, itemsS, ixD, getD, atK, isC, isNonD, List.length_cons, List.length_nil, List.map_cons, List.map_nil, List.getElem?_cons_zero, List.getElem?_cons_succ, List.set_cons_zero, List.set_cons_succ, List.cons_append, List.nil_append, List.replicate_succ, List.replicate_zero, if_true, if_false, reduceIte, decide_eq_true_eq, L2.atI, L2.ixN, lenD1, itL, itT, itA, itS, itR1, itR2, itEn, itEnA, itZ, sFldD, DL.putK, end_get, end_set, List.mem_cons, List.not_mem_nil, or_false, false_or, or_true, true_or, D.lt, D.ltL, Bool.and_true, Bool.true_and, trim_app, gA, g0, sA, s0, List.append_assoc, List.length_append, trim_len, fits_of, fitsL_of, in63_of, in63F_of, in62_of, lo63_of, hi63_of, hi63F_of, few_of, le640_of, dMth, clsOf, lk_check_word_7, e2, od]
    simp [mkF, finS, env0, sSeq, sNil, sIf, sSet, sAsg, sExpr, sRet, sRetN, sPass, sNo, sPar, sPar3, sFor, Out.bind, Out.bindS, dVar, dC, d1, d2, dNil, dCons, dTup, dLst, dLstC, dCall, dFn, dIf, dML, dSl, oNone, oSome, dFrz, qB, qNot, qAnd, qOr, qTru, eNot, eAnd, eOr, gNm, gTupD, gsCons, gsNil, gIx, addD, subD, mulD, fdivD, modD, powD, negD, ltD, leD, gtD, geD, cmpD, chainD, both, asI, asS, asB, intX, lenD, tupleD, listD, listC, absD, max2D, min2D, itemsL, itemsT, itemsS, ixD, getD, atK, isC, isNonD, List.length_cons, List.length_nil, List.map_cons, List.map_nil, List.getElem?_cons_zero, List.getElem?_cons_succ, List.set_cons_zero, List.set_cons_succ, List.cons_append, List.nil_append, List.replicate_succ, List.replicate_zero, if_true, if_false, reduceIte, decide_eq_true_eq, L2.atI, L2.ixN, lenD1, itL, itT, itA, itS, itR1, itR2, itEn, itEnA, itZ, sFldD, DL.putK, end_get, end_set, List.mem_cons, List.not_mem_nil, or_false, false_or, or_true, true_or, D.lt, D.ltL, Bool.and_true, Bool.true_and, trim_app, gA, g0, sA, s0, List.append_assoc, List.length_append, trim_len, fits_of, fitsL_of, in63_of, in63F_of, in62_of, lo63_of, hi63_of, hi63F_of, few_of, le640_of, dMth, clsOf, lk_check_9, e3, od]
  | fl i h =>
    have e := cl_bad xs i cs hb h
    unfold lb_check_commands_0 OK2.ex
    unfold memD at e ⊢
    have e3 : F_Flush_check [.obj 10 [.int i], .obj 7 [.tup (ilist xs)]] cs = .exn 2 [2] [.int i] cs := by
      unfold F_Flush_check b_Flush_check
      simp [mkF, finS, env0, sSeq, sNil, sIf, sSet, sAsg, sExpr, sRet, sRetN, sPass, sNo, sPar, sPar3, sFor, Out.bind, Out.bindS, dVar, dC, d1, d2, dNil, dCons, dTup, dLst, dLstC, dCall, dFn, dIf, dML, dSl, oNone, oSome, dFrz, qB, qNot, qAnd, qOr, qTru, eNot, eAnd, eOr, gNm, gTupD, gsCons, gsNil, gIx, addD, subD, mulD, fdivD, modD, powD, negD, ltD, leD, gtD, geD, cmpD, chainD, both, asI, asS, asB, intX, lenD, tupleD, listD, listC, absD, max2D, min2D, itemsL, itemsT, itemsS, ixD, getD, atK, isC, isNonD, List.length_cons, List.length_nil, List.map_cons, List.map_nil, List.getElem?_cons_zero, List.getElem?_cons_succ, List.set_cons_zero, List.set_cons_succ, List.cons_append, List.nil_append, List.replicate_succ, List.replicate_zero, if_true, if_false, reduceIte, decide_eq_true_eq, L2.atI, L2.ixN, lenD1, itL, itT, itA, itS, itR1, itR2, itEn, itEnA, itZ, sFldD, DL.putK, end_get, end_set, List.mem_cons, List.not_mem_nil, or_false, false_or, or_true, true_or, D.lt, D.ltL, Bool.and_true, Bool.true_and, trim_app, gA, g0, sA, s0, List.append_assoc, List.length_append, trim_len, fits_of, fitsL_of, in63_of, in63F_of, in62_of, lo63_of, hi63_of, hi63F_of, few_of, le640_of, dMth, clsOf, lk_check_line_7, e, od]
    simp [mkF, finS, env0, sSeq, sNil, sIf, sSet, sAsg, sExpr, sRet, sRetN, sPass, sNo, sPar, sPar3, sFor, Out.bind, Out.bindS, dVar, dC, d1, d2, dNil, dCons, dTup, dLst, dLstC, dCall, dFn, dIf, dML, dSl, oNone, oSome, dFrz, qB, qNot, qAnd, qOr, qTru, eNot, eAnd, eOr, gNm, gTupD, gsCons, gsNil, gIx, addD, subD, mulD, fdivD, modD, powD, negD, ltD, leD, gtD, geD, cmpD, chainD, both, asI, asS, asB, intX, lenD, tupleD, listD, listC, absD, max2D, min2D, itemsL, itemsT, itemsS, ixD, getD, atK, isC, isNonD, List.length_cons, List.length_nil, List.map_cons, List.map_nil, List.getElem?_cons_zero, List.getElem?_cons_succ, List.set_cons_zero, List.set_cons_succ, List.cons_append, List.nil_append, List.replicate_succ, List.replicate_zero, if_true, if_false, reduceIte, decide_eq_true_eq, L2.atI, L2.ixN, lenD1, itL, itT, itA, itS, itR1, itR2, itEn, itEnA, itZ, sFldD, DL.putK, end_get, end_set, List.mem_cons, List.not_mem_nil, or_false, false_or, or_true, true_or, D.lt, D.ltL, Bool.and_true, Bool.true_and, trim_app, gA, g0, sA, s0, List.append_assoc, List.length_append, trim_len, fits_of, fitsL_of, in63_of, in63F_of, in62_of, lo63_of, hi63_of, hi63F_of, few_of, le640_of, dMth, clsOf, lk_check_10, e3, od]
theorem forL_ex {chk : List Cell → Prop} {g : GDen} {b : SDen} {x : D} {r : List D} {env env1 env2 : DL.Env} {cs cs1 cs2 : List Cell} {c : Nat} {ks : List Nat} {fs : List D} (hc : chk cs) (h1 : g x env cs = .nx env1 cs1) (h2 : b env1 cs1 = .ex c ks fs env2 cs2) :
    forL chk g b (x :: r) env cs = .ex c ks fs env2 cs2 := by
  rw [forL]; simp only [if_pos hc, h1, h2]
theorem good_step (xs : List Int) (hb : xs.length ≤ 6) (c : Cm) (b o : Option D) (cs : List Cell) (hk : c.ok xs) : lb_check_commands_0 [some (memD xs), b, some c.ob] cs = .nx [some (memD xs), b, some c.ob] cs := by
  cases c with
  | S l w n =>
    have e2 := F_Store_chk xs l w n cs hk hb
    unfold Cm.ob at e2 ⊢
    simp [lb_check_commands_0, mkF, finS, env0, sSeq, sNil, sIf, sSet, sAsg, sExpr, sRet, sRetN, sPass, sNo, sPar, sPar3, sFor, Out.bind, Out.bindS, dVar, dC, d1, d2, dNil, dCons, dTup, dLst, dLstC, dCall, dFn, dIf, dML, dSl, oNone, oSome, dFrz, qB, qNot, qAnd, qOr, qTru, eNot, eAnd, eOr, gNm, gTupD, gsCons, gsNil, gIx, addD, subD, mulD, fdivD, modD, powD, negD, ltD, leD, gtD, geD, cmpD, chainD, both, asI, asS, asB, intX, lenD, tupleD, listD, listC, absD, max2D, min2D, itemsL, itemsT, itemsS, ixD, getD, atK, isC, isNonD, List.length_cons, List.length_nil, List.map_cons, List.map_nil, List.getElem?_cons_zero, List.getElem?_cons_succ, List.set_cons_zero, List.set_cons_succ, List.cons_append, List.nil_append, List.replicate_succ, List.replicate_zero, if_true, if_false, reduceIte, decide_eq_true_eq, L2.atI, L2.ixN, lenD1, itL, itT, itA, itS, itR1, itR2, itEn, itEnA, itZ, sFldD, DL.putK, end_get, end_set, List.mem_cons, List.not_mem_nil, or_false, false_or, or_true, true_or, D.lt, D.ltL, Bool.and_true, Bool.true_and, trim_app, gA, g0, sA, s0, List.append_assoc, List.length_append, trim_len, fits_of, fitsL_of, in63_of, in63F_of, in62_of, lo63_of, hi63_of, hi63F_of, few_of, le640_of, dMth, clsOf, lk_check_9, e2, od]
  | F l =>
    have e2 := F_Flush_chk xs l cs hk hb
    unfold Cm.ob at e2 ⊢
    simp [lb_check_commands_0, mkF, finS, env0, sSeq, sNil, sIf, sSet, sAsg, sExpr, sRet, sRetN, sPass, sNo, sPar, sPar3, sFor, Out.bind, Out.bindS, dVar, dC, d1, d2, dNil, dCons, dTup, dLst, dLstC, dCall, dFn, dIf, dML, dSl, oNone, oSome, dFrz, qB, qNot, qAnd, qOr, qTru, eNot, eAnd, eOr, gNm, gTupD, gsCons, gsNil, gIx, addD, subD, mulD, fdivD, modD, powD, negD, ltD, leD, gtD, geD, cmpD, chainD, both, asI, asS, asB, intX, lenD, tupleD, listD, listC, absD, max2D, min2D, itemsL, itemsT, itemsS, ixD, getD, atK, isC, isNonD, List.length_cons, List.length_nil, List.map_cons, List.map_nil, List.getElem?_cons_zero, List.getElem?_cons_succ, List.set_cons_zero, List.set_cons_succ, List.cons_append, List.nil_append, List.replicate_succ, List.replicate_zero, if_true, if_false, reduceIte, decide_eq_true_eq, L2.atI, L2.ixN, lenD1, itL, itT, itA, itS, itR1, itR2, itEn, itEnA, itZ, sFldD, DL.putK, end_get, end_set, List.mem_cons, List.not_mem_nil, or_false, false_or, or_true, true_or, D.lt, D.ltL, Bool.and_true, Bool.true_and, trim_app, gA, g0, sA, s0, List.append_assoc, List.length_append, trim_len, fits_of, fitsL_of, in63_of, in63F_of, in62_of, lo63_of, hi63_of, hi63F_of, few_of, le640_of, dMth, clsOf, lk_check_10, e2, od]
  | X =>
    have e2 := F_X_chk (Cm.X).ob (memD xs) cs
    unfold Cm.ob at e2 ⊢
    simp [lb_check_commands_0, mkF, finS, env0, sSeq, sNil, sIf, sSet, sAsg, sExpr, sRet, sRetN, sPass, sNo, sPar, sPar3, sFor, Out.bind, Out.bindS, dVar, dC, d1, d2, dNil, dCons, dTup, dLst, dLstC, dCall, dFn, dIf, dML, dSl, oNone, oSome, dFrz, qB, qNot, qAnd, qOr, qTru, eNot, eAnd, eOr, gNm, gTupD, gsCons, gsNil, gIx, addD, subD, mulD, fdivD, modD, powD, negD, ltD, leD, gtD, geD, cmpD, chainD, both, asI, asS, asB, intX, lenD, tupleD, listD, listC, absD, max2D, min2D, itemsL, itemsT, itemsS, ixD, getD, atK, isC, isNonD, List.length_cons, List.length_nil, List.map_cons, List.map_nil, List.getElem?_cons_zero, List.getElem?_cons_succ, List.set_cons_zero, List.set_cons_succ, List.cons_append, List.nil_append, List.replicate_succ, List.replicate_zero, if_true, if_false, reduceIte, decide_eq_true_eq, L2.atI, L2.ixN, lenD1, itL, itT, itA, itS, itR1, itR2, itEn, itEnA, itZ, sFldD, DL.putK, end_get, end_set, List.mem_cons, List.not_mem_nil, or_false, false_or, or_true, true_or, D.lt, D.ltL, Bool.and_true, Bool.true_and, trim_app, gA, g0, sA, s0, List.append_assoc, List.length_append, trim_len, fits_of, fitsL_of, in63_of, in63F_of, in62_of, lo63_of, hi63_of, hi63F_of, few_of, le640_of, dMth, clsOf, lk_check_11, e2, od]
theorem bad_loop (xs : List Int) (hb : xs.length ≤ 6) {d : D} {k : OK2} (h : Odd xs d k) (rest : List D) : ∀ (r : List Cm) (o b : Option D) (cs : List Cell), (∀ c ∈ r, c.ok xs) →
    forL noChk (gNm 2) lb_check_commands_0 (obs r ++ d :: rest) [some (memD xs), b, o] cs = k.ex [some (memD xs), b, some d] cs
  | [], o, b, cs, _ => by
    have e := odd_step xs hb h b cs
    cases k with
    | ln i => exact forL_ex trivial rfl e
    | wd i => exact forL_ex trivial rfl e
  | c :: r, o, b, cs, hr => (forL_step (r := obs r ++ d :: rest) trivial rfl (good_step xs hb c b o cs (hr c List.mem_cons_self))).trans (bad_loop xs hb h rest r _ b cs fun y hy => hr y (List.mem_cons_of_mem _ hy))
theorem chk_bad (xs : List Int) (hb : xs.length ≤ 6) {d : D} {k : OK2} (h : Odd xs d k) (rest : List D) (r : List Cm) (cs : List Cell) (hr : ∀ c ∈ r, c.ok xs) : F_check_commands [memD xs, .lst (obs r ++ d :: rest)] cs = k.exn cs := by
  have e := bad_loop xs hb h rest r none (some (.lst (obs r ++ d :: rest))) cs hr
  unfold F_check_commands b_check_commands
  cases k <;> simp [mkF, finS, env0, sSeq, sNil, sIf, sSet, sAsg, sExpr, sRet, sRetN, sPass, sNo, sPar, sPar3, sFor, Out.bind, Out.bindS, dVar, dC, d1, d2, dNil, dCons, dTup, dLst, dLstC, dCall, dFn, dIf, dML, dSl, oNone, oSome, dFrz, qB, qNot, qAnd, qOr, qTru, eNot, eAnd, eOr, gNm, gTupD, gsCons, gsNil, gIx, addD, subD, mulD, fdivD, modD, powD, negD, ltD, leD, gtD, geD, cmpD, chainD, both, asI, asS, asB, intX, lenD, tupleD, listD, listC, absD, max2D, min2D, itemsL, itemsT, itemsS, ixD, getD, atK, isC, isNonD, List.length_cons, List.length_nil, List.map_cons, List.map_nil, List.getElem?_cons_zero, List.getElem?_cons_succ, List.set_cons_zero, List.set_cons_succ, List.cons_append, List.nil_append, List.replicate_succ, List.replicate_zero, if_true, if_false, reduceIte, decide_eq_true_eq, L2.atI, L2.ixN, lenD1, itL, itT, itA, itS, itR1, itR2, itEn, itEnA, itZ, sFldD, DL.putK, end_get, end_set, List.mem_cons, List.not_mem_nil, or_false, false_or, or_true, true_or, D.lt, D.ltL, Bool.and_true, Bool.true_and, trim_app, gA, g0, sA, s0, List.append_assoc, List.length_append, trim_len, fits_of, fitsL_of, in63_of, in63F_of, in62_of, lo63_of, hi63_of, hi63F_of, few_of, le640_of, e, OK2.ex, OK2.exn]
/-- lists, tuples and cells lead to the same -/
theorem rep_any (mm h b t n : D) (xs ys zs : List D) (cs : List Cell) (e1 : itemsS cs h = some xs) (e2 : itemsS cs b = some ys) (e3 : itemsS cs t = some zs) :
    F_count_repeated [mm, h, b, t, n] cs = F_count_repeated [mm, .lst xs, .lst ys, .lst zs, n] cs := by
  have l : ∀ x : List D, itemsS cs (.lst x) = some x := fun x => rfl
  have d1 : ∀ (x : D) (y : List D), itemsS cs x = some y → listD [x] cs = .ok (.lst y) cs := fun x y e => by unfold listD; simp [e]
  have f3 : fits 3 := fits_of (by omega)
  unfold F_count_repeated b_count_repeated
  simp only [if_pos f3, if_true, mkF, env0, List.length_cons, List.length_nil, List.map_cons, List.map_nil, List.cons_append, List.nil_append, sSeq, sAsg, dTup, dCons, dNil, dCall, dVar, List.getElem?_cons_zero, List.getElem?_cons_succ, Out.bind, d1 _ _ e1, d1 _ _ e2, d1 _ _ e3, d1 _ _ (l xs), d1 _ _ (l ys), d1 _ _ (l zs), Out.bindS, gTupD, gsCons, gsNil, gNm, itemsS, itemsT, fits_of, List.replicate_succ, List.replicate_zero, Nat.reduceAdd, Nat.reduceSub, List.set_cons_zero, List.set_cons_succ]
theorem rep_many (mm n : D) (xs ys zs : List D) (cs : List Cell) (k : Int) (h : (xs.length : Int) + ys.length + zs.length = k) (hk : 20 < k) (hk2 : k ≤ 100) :
    F_count_repeated [mm, .lst xs, .lst ys, .lst zs, n] cs = .exn 1 [1, 0] [.int k, .str "commands"] cs := by
  unfold F_count_repeated b_count_repeated
  simp [mkF, finS, env0, sSeq, sNil, sIf, sSet, sAsg, sExpr, sRet, sRetN, sPass, sNo, sPar, sPar3, sFor, Out.bind, Out.bindS, dVar, dC, d1, d2, dNil, dCons, dTup, dLst, dLstC, dCall, dFn, dIf, dML, dSl, oNone, oSome, dFrz, qB, qNot, qAnd, qOr, qTru, eNot, eAnd, eOr, gNm, gTupD, gsCons, gsNil, gIx, addD, subD, mulD, fdivD, modD, powD, negD, ltD, leD, gtD, geD, cmpD, chainD, both, asI, asS, asB, intX, lenD, tupleD, listD, listC, absD, max2D, min2D, itemsL, itemsT, itemsS, ixD, getD, atK, isC, isNonD, List.length_cons, List.length_nil, List.map_cons, List.map_nil, List.getElem?_cons_zero, List.getElem?_cons_succ, List.set_cons_zero, List.set_cons_succ, List.cons_append, List.nil_append, List.replicate_succ, List.replicate_zero, if_true, if_false, reduceIte, decide_eq_true_eq, L2.atI, L2.ixN, lenD1, itL, itT, itA, itS, itR1, itR2, itEn, itEnA, itZ, sFldD, DL.putK, end_get, end_set, List.mem_cons, List.not_mem_nil, or_false, false_or, or_true, true_or, D.lt, D.ltL, Bool.and_true, Bool.true_and, trim_app, gA, g0, sA, s0, List.append_assoc, List.length_append, trim_len, fits_of, fitsL_of, in63_of, in63F_of, in62_of, lo63_of, hi63_of, hi63F_of, few_of, le640_of, h, hk, sRaise, trim_len]
theorem rep_bad (xs : List Int) (hb : xs.length ≤ 6) {d : D} {k : OK2} (h : Odd xs d k) (n : D) (hd b tl rest : List D) (r : List Cm) (cs : List Cell) (e : hd ++ (b ++ tl) = obs r ++ d :: rest) (hr : ∀ c ∈ r, c.ok xs) (hm : hd.length + b.length + tl.length ≤ 20) :
    F_count_repeated [memD xs, .lst hd, .lst b, .lst tl, n] cs = k.exn cs := by
  have hm2 : (hd.length : Int) + b.length + tl.length ≤ 20 := by omega
  have e2 := chk_bad xs hb h rest r cs hr
  have f1 : fits (hd.length + b.length) := fits_of (by omega)
  have f2 : fits (hd.length + b.length + tl.length) := fits_of (by omega)
  have f3 : fits (hd.length + (b.length + tl.length)) := fits_of (by omega)
  unfold F_count_repeated b_count_repeated
  cases k <;> (unfold OK2.exn at e2 ⊢; simp [mkF, finS, env0, sSeq, sNil, sIf, sSet, sAsg, sExpr, sRet, sRetN, sPass, sNo, sPar, sPar3, sFor, Out.bind, Out.bindS, dVar, dC, d1, d2, dNil, dCons, dTup, dLst, dLstC, dCall, dFn, dIf, dML, dSl, oNone, oSome, dFrz, qB, qNot, qAnd, qOr, qTru, eNot, eAnd, eOr, gNm, gTupD, gsCons, gsNil, gIx, addD, subD, mulD, fdivD, modD, powD, negD, ltD, leD, gtD, geD, cmpD, chainD, both, asI, asS, asB, intX, lenD, tupleD, listD, listC, absD, max2D, min2D, itemsL, itemsT, itemsS, ixD, getD, atK, isC, isNonD, List.length_cons, List.length_nil, List.map_cons, List.map_nil, List.getElem?_cons_zero, List.getElem?_cons_succ, List.set_cons_zero, List.set_cons_succ, List.cons_append, List.nil_append, List.replicate_succ, List.replicate_zero, if_true, if_false, reduceIte, decide_eq_true_eq, L2.atI, L2.ixN, lenD1, itL, itT, itA, itS, itR1, itR2, itEn, itEnA, itZ, sFldD, DL.putK, end_get, end_set, List.mem_cons, List.not_mem_nil, or_false, false_or, or_true, true_or, D.lt, D.ltL, Bool.and_true, Bool.true_and, trim_app, gA, g0, sA, s0, List.append_assoc, List.length_append, trim_len, fits_of, fitsL_of, in63_of, in63F_of, in62_of, lo63_of, hi63_of, hi63F_of, few_of, le640_of, hm2, Int.not_lt.mpr hm2, f1, f2, f3, e, e2])
theorem rep_rounds (xs : List Int) (hb : xs.length ≤ 6) (n : Int) (hd b tl : List Cm) (cs : List Cell) (hr : ∀ c ∈ hd ++ (b ++ tl), c.ok xs) (hm : hd.length + b.length + tl.length ≤ 20) (hn : ¬ (0 ≤ n ∧ n ≤ 1000000000000000000000000000000)) :
    F_count_repeated [memD xs, .lst (obs hd), .lst (obs b), .lst (obs tl), .int n] cs = .exn 1 [1, 0] [.int n, .str "rounds"] cs := by
  have hm2 : (hd.length : Int) + b.length + tl.length ≤ 20 := by omega
  have e2 := F_chk xs _ cs hb hr
  have f1 : fits (hd.length + b.length) := fits_of (by omega)
  have f2 : fits ((hd ++ b).length + tl.length) := fits_of (by rw [List.length_append]; omega)
  have f3 : fits (hd.length + b.length + tl.length) := fits_of (by omega)
  unfold F_count_repeated b_count_repeated
  by_cases h0 : 0 ≤ n
  · have h1 : ¬ n ≤ 1000000000000000000000000000000 := fun z => hn ⟨h0, z⟩
    simp [mkF, finS, env0, sSeq, sNil, sIf, sSet, sAsg, sExpr, sRet, sRetN, sPass, sNo, sPar, sPar3, sFor, Out.bind, Out.bindS, dVar, dC, d1, d2, dNil, dCons, dTup, dLst, dLstC, dCall, dFn, dIf, dML, dSl, oNone, oSome, dFrz, qB, qNot, qAnd, qOr, qTru, eNot, eAnd, eOr, gNm, gTupD, gsCons, gsNil, gIx, addD, subD, mulD, fdivD, modD, powD, negD, ltD, leD, gtD, geD, cmpD, chainD, both, asI, asS, asB, intX, lenD, tupleD, listD, listC, absD, max2D, min2D, itemsL, itemsT, itemsS, ixD, getD, atK, isC, isNonD, List.length_cons, List.length_nil, List.map_cons, List.map_nil, List.getElem?_cons_zero, List.getElem?_cons_succ, List.set_cons_zero, List.set_cons_succ, List.cons_append, List.nil_append, List.replicate_succ, List.replicate_zero, if_true, if_false, reduceIte, decide_eq_true_eq, L2.atI, L2.ixN, lenD1, itL, itT, itA, itS, itR1, itR2, itEn, itEnA, itZ, sFldD, DL.putK, end_get, end_set, List.mem_cons, List.not_mem_nil, or_false, false_or, or_true, true_or, D.lt, D.ltL, Bool.and_true, Bool.true_and, trim_app, gA, g0, sA, s0, List.append_assoc, List.length_append, trim_len, fits_of, fitsL_of, in63_of, in63F_of, in62_of, lo63_of, hi63_of, hi63F_of, few_of, le640_of, obs_len, hm2, Int.not_lt.mpr hm2, f1, f2, f3, obs_app, e2, h0, h1, sRaise]
  · simp [mkF, finS, env0, sSeq, sNil, sIf, sSet, sAsg, sExpr, sRet, sRetN, sPass, sNo, sPar, sPar3, sFor, Out.bind, Out.bindS, dVar, dC, d1, d2, dNil, dCons, dTup, dLst, dLstC, dCall, dFn, dIf, dML, dSl, oNone, oSome, dFrz, qB, qNot, qAnd, qOr, qTru, eNot, eAnd, eOr, gNm, gTupD, gsCons, gsNil, gIx, addD, subD, mulD, fdivD, modD, powD, negD, ltD, leD, gtD, geD, cmpD, chainD, both, asI, asS, asB, intX, lenD, tupleD, listD, listC, absD, max2D, min2D, itemsL, itemsT, itemsS, ixD, getD, atK, isC, isNonD, List.length_cons, List.length_nil, List.map_cons, List.map_nil, List.getElem?_cons_zero, List.getElem?_cons_succ, List.set_cons_zero, List.set_cons_succ, List.cons_append, List.nil_append, List.replicate_succ, List.replicate_zero, if_true, if_false, reduceIte, decide_eq_true_eq, L2.atI, L2.ixN, lenD1, itL, itT, itA, itS, itR1, itR2, itEn, itEnA, itZ, sFldD, DL.putK, end_get, end_set, List.mem_cons, List.not_mem_nil, or_false, false_or, or_true, true_or, D.lt, D.ltL, Bool.and_true, Bool.true_and, trim_app, gA, g0, sA, s0, List.append_assoc, List.length_append, trim_len, fits_of, fitsL_of, in63_of, in63F_of, in62_of, lo63_of, hi63_of, hi63F_of, few_of, le640_of, obs_len, hm2, Int.not_lt.mpr hm2, f1, f2, f3, obs_app, e2, h0, sRaise]
/-! ### what is told of an error -/
theorem told_bc {fb : Den D} {env : DL.Env} {cs : List Cell} {w : Str} {i : Int} (h : fb env cs = .exn 1 [1, 0] [.int i, .str w] cs) : dLam 2 H_law_error g_law_error fb env cs = .ok (.tup [.str w, .int i]) cs := by
  have f2 : fits 2 := fits_of (by omega)
  unfold dLam dActF sAct H_law_error
  simp [sSeq, sTry, h, Out.bindS, Out.bind, sHd, slotOk, xTup, xCons, xNil, xAt, atK, offE, finS, List.lookup, f2, D.lt, D.ltL, trim_len]
theorem told_k {fb : Den D} {env : DL.Env} {cs : List Cell} {k : OK2} (h : fb env cs = k.exn cs) : dLam 2 H_law_error g_law_error fb env cs = .ok k.told cs := by
  have f2 : fits 2 := fits_of (by omega)
  unfold dLam dActF sAct H_law_error
  cases k with
  | ln i =>
    unfold OK2.exn at h
    simp [sSeq, sTry, h, Out.bindS, Out.bind, sHd, slotOk, xTup, xCons, xNil, xAt, atK, offE, finS, List.lookup, f2, D.lt, D.ltL, trim_len, OK2.told, dC]
  | wd i =>
    unfold OK2.exn at h
    simp [sSeq, sTry, h, Out.bindS, Out.bind, sHd, slotOk, xTup, xCons, xNil, xAt, atK, offE, finS, List.lookup, f2, D.lt, D.ltL, trim_len, OK2.told, dC]
end K51
end

section
set_option Elab.async false
set_option linter.all false
set_option maxRecDepth 100000
namespace K51
open PySem L2 DL Pol
theorem sAn {b l : List Cell} {n k : Nat} {x : Cell} (h : b.length = n) : (b ++ l).set (n + k) x = b ++ l.set k x := by subst h; exact sA
theorem gAn {b l : List Cell} {n k : Nat} (h : b.length = n) : (b ++ l)[n + k]? = l[k]? := by subst h; exact gA
theorem seq_at {r : Int} {m : Nat} (h0 : 0 ≤ r) (h1 : r < m) : seqIndex? r m = some r.toNat := by
  unfold seqIndex?
  have : ¬ r < 0 := by omega
  simp [this, h0, h1]
theorem logm {m : Nat} (h : m ≤ 8999) : ((m : Int).natAbs).log2 < 9000 := by
  rw [show (m : Int).natAbs = m by omega]; exact log_small h
theorem il_erase {xs : List Int} {k : Nat} : (ilist xs).eraseIdx k = ilist (xs.eraseIdx k) := by
  unfold ilist
  induction xs generalizing k with
  | nil => rfl
  | cons x r ih => cases k with
    | zero => rfl
    | succ k => simp [ih]
theorem shuf_loop {n : Nat} {cs : List Cell} (hn : n < cs.length) (a1 : Option D) : ∀ (m : Nat) (rem res : List Int) (c : Cell), rem.length = m → isS c → m + res.length ≤ 1000 →
    ∃ res' c', isS c' ∧ res'.length = res.length + m ∧ (∀ y ∈ res', y ∈ res ∨ y ∈ rem) ∧ whileD lt_law_shuffled_1 lb_law_shuffled_0 (m + 1) [some (.cell n), a1, some (.cell cs.length), some (.cell (cs.length + 1))] (cs.set n c ++ [.lst (ilist rem), .lst (ilist res)])
      = .nx [some (.cell n), a1, some (.cell cs.length), some (.cell (cs.length + 1))] (cs.set n c' ++ [.lst [], .lst (ilist res')])
  | 0, rem, res, c, hl, hs, _ => by
    have e0 : rem = [] := List.length_eq_zero_iff.mp hl
    subst e0
    have g : (cs.set n c ++ [Cell.lst (ilist []), Cell.lst (ilist res)])[cs.length]? = some (.lst []) := by
      have := g0 (b := cs.set n c) (l := [Cell.lst (ilist []), Cell.lst (ilist res)])
      rw [List.length_set] at this
      exact this
    refine ⟨res, c, hs, by omega, fun y hy => .inl hy, whileD_stop ?_⟩
    unfold lt_law_shuffled_1
    rw [show ilist [] = [] from rfl] at g ⊢
    simp [qB, d2, dLst, dNil, dVar, Out.bind, neC, resL, g, D.okE, okL_nil, eqD, eqL, fits_of, asB, qTru]
  | m + 1, rem, res, c, hl, hs, hm => by
    have lc : (cs.set n c).length = cs.length := List.length_set
    have g1 : (cs.set n c ++ [Cell.lst (ilist rem), Cell.lst (ilist res)])[n]? = some c := app_get (set_get hn)
    have gr : ∀ c, (cs.set n c ++ [Cell.lst (ilist rem), Cell.lst (ilist res)])[cs.length]? = some (.lst (ilist rem)) := fun c => by
      have := g0 (b := cs.set n c) (l := [Cell.lst (ilist rem), Cell.lst (ilist res)])
      rw [List.length_set] at this
      exact this
    have gq : ∀ c z, (cs.set n c ++ [z, Cell.lst (ilist res)])[cs.length + 1]? = some (.lst (ilist res)) := fun c z => gAn (b := cs.set n c) (l := [z, Cell.lst (ilist res)]) (k := 1) List.length_set
    obtain ⟨r, c1, s1, r0, r1, e1⟩ := draw_ok g1 hs (rem.length : Int) (by omega) (logm (by omega))
    rw [app_set (by simpa using hn), List.set_set] at e1
    have hr : r.toNat < rem.length := by omega
    obtain ⟨res', c', s', l', q', ih⟩ := shuf_loop hn a1 m (rem.eraseIdx r.toNat) (res ++ [rem[r.toNat]]) c1 (by rw [List.length_eraseIdx_of_lt hr]; omega) s1 (by simp; omega)
    refine ⟨res', c', s', by rw [l']; simp; omega, fun y hy => ?_, (whileD_step ?_ ?_).trans ih⟩
    · rcases q' y hy with h | h
      · rcases List.mem_append.mp h with h | h
        · exact .inl h
        · rw [List.mem_singleton] at h; rw [h]; exact .inr (List.getElem_mem hr)
      · exact .inr (List.mem_of_mem_eraseIdx h)
    · unfold lt_law_shuffled_1
      have ok := okL_il (ob := false) (n := 19) rem
      have hne : eqL (ilist rem) [] = some false := by
        cases rem with
        | nil => simp at hl
        | cons x y => unfold ilist; simp [eqL]
      simp [qB, d2, dLst, dNil, dVar, Out.bind, neC, resL, gr, D.okE, ok, okL_nil, eqD, hne, fits_of, asB, qTru]
    · have hL1 : isL (cs.set n c ++ [Cell.lst (ilist rem), Cell.lst (ilist res)]) (.cell (cs.length + 1)) = true := by simp only [isL, itemsL, gq]; rfl
      have hL2 : isL (cs.set n c ++ [Cell.lst (ilist rem), Cell.lst (ilist res)]) (.cell cs.length) = true := by simp only [isL, itemsL, gr]; rfl
      have i63 : in63 r := in63_of (by omega) (by omega)
      have fl : fits rem.length := fits_of (by omega)
      have hx : (ilist rem)[r.toNat]? = some (.int rem[r.toNat]) := by rw [il_get, List.getElem?_eq_getElem hr]; rfl
      have es : (cs.set n c1 ++ [Cell.lst (ilist rem), Cell.lst (ilist res)]).set cs.length (.lst ((ilist rem).eraseIdx r.toNat)) = cs.set n c1 ++ [Cell.lst (ilist (rem.eraseIdx r.toNat)), Cell.lst (ilist res)] := by
        have := sAn (b := cs.set n c1) (l := [Cell.lst (ilist rem), Cell.lst (ilist res)]) (k := 0) (x := .lst ((ilist rem).eraseIdx r.toNat)) (n := cs.length) List.length_set
        rw [il_erase] at this ⊢
        exact this
      have hP : popD (.cell cs.length) [.int r] (cs.set n c1 ++ [Cell.lst (ilist rem), Cell.lst (ilist res)]) = .ok (.int rem[r.toNat]) (cs.set n c1 ++ [Cell.lst (ilist (rem.eraseIdx r.toNat)), Cell.lst (ilist res)]) := by
        unfold popD
        simp only [gr, if_pos i63, il_len, seq_at r0 r1, hx, es]
      have fl2 : fitsL (ilist res).length := fitsL_of (by rw [il_len]; omega)
      have es2 : ∀ z, (cs.set n c1 ++ [z, Cell.lst (ilist res)]).set (cs.length + 1) (.lst (ilist res ++ [.int rem[r.toNat]])) = cs.set n c1 ++ [z, Cell.lst (ilist (res ++ [rem[r.toNat]]))] := fun z => by
        have := sAn (b := cs.set n c1) (l := [z, Cell.lst (ilist res)]) (k := 1) (x := .lst (ilist res ++ [.int rem[r.toNat]])) (n := cs.length) List.length_set
        rw [this]
        unfold ilist; simp
      have hA : appendD (.cell (cs.length + 1)) [.int rem[r.toNat]] (cs.set n c1 ++ [Cell.lst (ilist (rem.eraseIdx r.toNat)), Cell.lst (ilist res)]) = .ok .non (cs.set n c1 ++ [Cell.lst (ilist (rem.eraseIdx r.toNat)), Cell.lst (ilist (res ++ [rem[r.toNat]]))]) := by
        unfold appendD
        simp only [gq, if_pos fl2, es2]
      have hlen : lenD1 (.cell cs.length) (cs.set n c ++ [Cell.lst (ilist rem), Cell.lst (ilist res)]) = .ok (.int rem.length) (cs.set n c ++ [Cell.lst (ilist rem), Cell.lst (ilist res)]) := by
        simp only [lenD1, itemsS, itemsL, gr, il_len]
      unfold lb_law_shuffled_0
      simp only [sExpr, dML, dCons, dNil, dVar, dFn, dCall, lenD, Out.bind, Out.bindS, List.getElem?_cons_zero, List.getElem?_cons_succ, hL1, hL2, if_true, hlen, e1, hP, hA]
theorem shuf_ok {n : Nat} {cs : List Cell} {c : Cell} (h : cs[n]? = some c) (hs : isS c) (xs : List Int) (hx : xs.length ≤ 1000) :
    ∃ ys c', isS c' ∧ ys.length = xs.length ∧ (∀ y ∈ ys, y ∈ xs) ∧ F_law_shuffled [.cell n, .lst (ilist xs)] cs = .ok (.lst (ilist ys)) (cs.set n c') := by
  have hn := live_len h
  obtain ⟨ys, c', s', l', q', e⟩ := shuf_loop hn (some (.lst (ilist xs))) xs.length xs [] c rfl hs (by simpa using hx)
  rw [set_self h] at e
  have e2 := sWhile_of _ e (fun z => nomatch z)
  refine ⟨ys, c', s', by simpa using l', fun y hy => (q' y hy).resolve_left (by simp), ?_⟩
  have gq : (cs.set n c' ++ [Cell.lst [], Cell.lst (ilist ys)])[cs.length + 1]? = some (.lst (ilist ys)) := gAn (b := cs.set n c') (l := [Cell.lst [], Cell.lst (ilist ys)]) (k := 1) List.length_set
  have es := sAn (b := cs.set n c') (l := [Cell.lst [], Cell.lst (ilist ys)]) (k := 1) (x := .gone) (n := cs.length) List.length_set
  have ap : cs ++ [Cell.lst (ilist xs)] ++ [Cell.lst (ilist [])] = cs ++ [Cell.lst (ilist xs), Cell.lst (ilist [])] := by simp
  have ln : (cs ++ [Cell.lst (ilist xs)]).length = cs.length + 1 := by simp
  have f0 : fits 0 := fits_of (by omega)
  have nl : ilist [] = [] := rfl
  rw [nl] at e2 ap
  unfold F_law_shuffled b_law_shuffled
  simp only [mkF, finS, env0, sSeq, sSet, sRet, dFrz, Out.bind, Out.bindS, List.length_cons, List.length_nil, List.map_cons, List.map_nil, List.cons_append, List.nil_append, List.replicate_succ, List.replicate_zero, Nat.reduceAdd, Nat.reduceSub, if_true, dLstC, dCons, dNil, dVar, dCall, listC, itemsS, itemsL, List.getElem?_cons_zero, List.getElem?_cons_succ, List.set_cons_zero, List.set_cons_succ, ln, if_pos f0, ap, e2, gq, es]
  rw [show D.lt cs.length (.lst (ilist ys)) = true from ltL_il _, trim_gen (by simp) fun i x q => ?_]
  by_cases hi : n = i
  · subst hi
    rw [List.getElem?_set_self hn] at q; cases q
    exact .inr (isS_lt s' _)
  · rw [List.getElem?_set_ne hi] at q
    exact .inl q
end K51
end

section
set_option Elab.async false
set_option linter.all false
set_option maxRecDepth 100000
namespace K51
open PySem L2 DL Pol
theorem drawJ {n : Nat} {cs J : List Cell} {c : Cell} (hn : n < cs.length) (hs : isS c) (m : Int) (hm : 0 < m) (hm2 : m.natAbs.log2 < 9000) :
    ∃ r c', isS c' ∧ 0 ≤ r ∧ r < m ∧ F_law_draw [.cell n, .int m] (cs.set n c ++ J) = .ok (.int r) (cs.set n c' ++ J) := by
  obtain ⟨r, c', s', r0, r1, e⟩ := draw_ok (cs := cs.set n c ++ J) (app_get (set_get hn)) hs m hm hm2
  rw [app_set (by simpa using hn), List.set_set] at e
  exact ⟨r, c', s', r0, r1, e⟩
theorem mk_store (a b d : Int) (cs : List Cell) : mkO od 9 F_Store_init [.int a, .int b, .int d] cs = .ok (.obj 9 [.int a, .int b, .int d]) cs := by
  simp [mkF, finS, env0, sSeq, sNil, sIf, sSet, sAsg, sExpr, sRet, sRetN, sPass, sNo, sPar, sPar3, sFor, Out.bind, Out.bindS, dVar, dC, d1, d2, dNil, dCons, dTup, dLst, dLstC, dCall, dFn, dIf, dML, dSl, oNone, oSome, dFrz, qB, qNot, qAnd, qOr, qTru, eNot, eAnd, eOr, gNm, gTupD, gsCons, gsNil, gIx, addD, subD, mulD, fdivD, modD, powD, negD, ltD, leD, gtD, geD, cmpD, chainD, both, asI, asS, asB, intX, lenD, tupleD, listD, listC, absD, max2D, min2D, itemsL, itemsT, itemsS, ixD, getD, atK, isC, isNonD, List.length_cons, List.length_nil, List.map_cons, List.map_nil, List.getElem?_cons_zero, List.getElem?_cons_succ, List.set_cons_zero, List.set_cons_succ, List.cons_append, List.nil_append, List.replicate_succ, List.replicate_zero, if_true, if_false, reduceIte, decide_eq_true_eq, L2.atI, L2.ixN, lenD1, itL, itT, itA, itS, itR1, itR2, itEn, itEnA, itZ, sFldD, DL.putK, end_get, end_set, List.mem_cons, List.not_mem_nil, or_false, false_or, or_true, true_or, D.lt, D.ltL, Bool.and_true, Bool.true_and, trim_app, gA, g0, sA, s0, List.append_assoc, List.length_append, trim_len, fits_of, fitsL_of, in63_of, in63F_of, in62_of, lo63_of, hi63_of, hi63F_of, few_of, le640_of, mkO, F_Store_init, b_Store_init, od]
theorem mk_flush (a : Int) (cs : List Cell) : mkO od 10 F_Flush_init [.int a] cs = .ok (.obj 10 [.int a]) cs := by
  simp [mkF, finS, env0, sSeq, sNil, sIf, sSet, sAsg, sExpr, sRet, sRetN, sPass, sNo, sPar, sPar3, sFor, Out.bind, Out.bindS, dVar, dC, d1, d2, dNil, dCons, dTup, dLst, dLstC, dCall, dFn, dIf, dML, dSl, oNone, oSome, dFrz, qB, qNot, qAnd, qOr, qTru, eNot, eAnd, eOr, gNm, gTupD, gsCons, gsNil, gIx, addD, subD, mulD, fdivD, modD, powD, negD, ltD, leD, gtD, geD, cmpD, chainD, both, asI, asS, asB, intX, lenD, tupleD, listD, listC, absD, max2D, min2D, itemsL, itemsT, itemsS, ixD, getD, atK, isC, isNonD, List.length_cons, List.length_nil, List.map_cons, List.map_nil, List.getElem?_cons_zero, List.getElem?_cons_succ, List.set_cons_zero, List.set_cons_succ, List.cons_append, List.nil_append, List.replicate_succ, List.replicate_zero, if_true, if_false, reduceIte, decide_eq_true_eq, L2.atI, L2.ixN, lenD1, itL, itT, itA, itS, itR1, itR2, itEn, itEnA, itZ, sFldD, DL.putK, end_get, end_set, List.mem_cons, List.not_mem_nil, or_false, false_or, or_true, true_or, D.lt, D.ltL, Bool.and_true, Bool.true_and, trim_app, gA, g0, sA, s0, List.append_assoc, List.length_append, trim_len, fits_of, fitsL_of, in63_of, in63F_of, in62_of, lo63_of, hi63_of, hi63F_of, few_of, le640_of, mkO, F_Flush_init, b_Flush_init, od]
theorem ne_tup (w : Str) (i : Int) (cs : List Cell) : neC false 20 (.tup [.str w, .int i]) (.tup [.str w, .int i]) cs = .ok (.bl false) cs := by
  unfold neC
  simp [resL, D.okE, D.okL, eqD, eqL]
theorem eq_tup (w : Str) (i : Int) (cs : List Cell) : eqC false 20 (.tup [.str w, .int i]) (.tup [.str w, .int i]) cs = .ok (.bl true) cs := by
  unfold eqC
  simp [resL, D.okE, D.okL, eqD, eqL]
theorem ne_told (k : OK2) (cs : List Cell) : neC false 20 k.told k.told cs = .ok (.bl false) cs := by
  cases k <;> exact ne_tup _ _ _
/-- the rounds of one place -/
theorem turns_loop {xs : List Int} {k : OK2} {L : Nat} {p0 p1 p2 : D} {CS : List Cell} (hx : CS[L]? = some (.lst [p0, p1, p2])) (hr : ∀ t : Int, F_count_repeated [memD xs, p0, p1, p2, .int t] CS = k.exn CS) (a0 a2 a3 a4 a6 a7 a8 a11 : Option D) :
    ∀ (ts : List Int) (a10 : Option D), ∃ b10, forL noChk (gNm 10) lb_law_errors_right_3 (ilist ts) [a0, some (memD xs), a2, a3, a4, some k.told, a6, a7, a8, some (.cell L), a10, a11] CS = .nx [a0, some (memD xs), a2, a3, a4, some k.told, a6, a7, a8, some (.cell L), b10, a11] CS
  | [], a10 => ⟨a10, forL_nil trivial⟩
  | t :: ts, a10 => by
    obtain ⟨b10, ih⟩ := turns_loop hx hr a0 a2 a3 a4 a6 a7 a8 a11 ts (some (.int t))
    refine ⟨b10, ?_⟩
    have x0 : ixD (.cell L) (.int 0) CS = .ok p0 CS := by simp [ixD, asI, itemsS, itemsL, hx, L2.atI, L2.ixN]
    have x1 : ixD (.cell L) (.int 1) CS = .ok p1 CS := by simp [ixD, asI, itemsS, itemsL, hx, L2.atI, L2.ixN]
    have x2 : ixD (.cell L) (.int 2) CS = .ok p2 CS := by simp [ixD, asI, itemsS, itemsL, hx, L2.atI, L2.ixN]
    have hl : lm_law_errors_right_2 [a0, some (memD xs), a2, a3, a4, some k.told, a6, a7, a8, some (.cell L), some (.int t), a11] CS = k.exn CS := by
      unfold lm_law_errors_right_2
      simp only [dFn, dCons, dNil, dVar, dC, d2, Out.bind, List.getElem?_cons_zero, List.getElem?_cons_succ, x0, x1, x2, hr]
    have ht := told_k hl
    refine (forL_step (r := ilist ts) (x := .int t) trivial rfl ?_).trans ih
    show lb_law_errors_right_3 [a0, some (memD xs), a2, a3, a4, some k.told, a6, a7, a8, some (.cell L), some (.int t), a11] CS = _
    unfold lb_law_errors_right_3
    simp only [sIf, sNil, qB, d2, dVar, Out.bind, Out.bindS, ht, ne_told, List.getElem?_cons_zero, List.getElem?_cons_succ, asB, qTru, Bool.false_eq_true, if_false]
/-- three copies -/
theorem lc3 {i : Nat} {hh : Den D} {env : DL.Env} {B : List Cell} (x y z : List D) (hh' : ∀ (w : List D) cs, hh (env.set i (some (.lst w))) cs = .ok (.cell cs.length) (cs ++ [.lst w])) :
    lcL noChk (gNm i) pYes hh B.length env [.lst x, .lst y, .lst z] (B ++ [.lst []]) = .ok () (B ++ [.lst [.cell (B.length + 1), .cell (B.length + 1 + 1), .cell (B.length + 1 + 1 + 1)], .lst x, .lst y, .lst z]) := by
  have lt : ∀ k, D.lt k (.cell k) = false := fun k => by simp [D.lt]
  have f0 : fitsL 0 := fitsL_of (by omega)
  have f1 : fitsL 1 := fitsL_of (by omega)
  have f2 : fitsL 2 := fitsL_of (by omega)
  simp only [lcL, show ∀ c, noChk c = True from fun _ => rfl, if_true, gNm, pYes, hh', lt, trim_no, List.append_assoc, List.cons_append, List.nil_append, List.length_append, List.length_cons, List.length_nil, g0, s0, List.getElem?_cons_zero, List.set_cons_zero, if_pos f0, if_pos f1, if_pos f2, Nat.reduceAdd]
end K51
end

section
set_option Elab.async false
set_option linter.all false
set_option maxRecDepth 100000
namespace K51
open PySem L2 DL Pol
theorem ins_eq (h : List Cm) (i : Nat) (d : D) : (obs h).take i ++ [d] ++ (obs h).drop i = obs (h.take i) ++ d :: obs (h.drop i) := by unfold obs; simp [List.map_take, List.map_drop]
theorem ins_len (h : List Cm) (i : Nat) (d : D) : ((obs h).take i ++ [d] ++ (obs h).drop i).length = h.length + 1 := by
  rw [ins_eq, List.length_append, List.length_cons, obs_len, obs_len, List.length_take, List.length_drop]
  omega
theorem insD {CS : List Cell} {p : Nat} {ys : List D} {i : Int} {y : D} (h : CS[p]? = some (.lst ys)) (hl : ys.length ≤ 1000) (i0 : 0 ≤ i) (i1 : i ≤ 1000) : insertD (.cell p) [.int i, y] CS = .ok .non (CS.set p (.lst (ys.take i.toNat ++ [y] ++ ys.drop i.toNat))) := by
  have f : fitsL ys.length := fitsL_of (by omega)
  have g : in63 i := in63_of (by omega) (by omega)
  unfold insertD
  simp only [h]
  rw [if_pos ⟨f, i0, g⟩]
theorem at_0 {xs : List Int} (h6 : xs.length ≤ 6) {h b t : List Cm} (lh : h.length ≤ 5) (lb : b.length ≤ 5) (lt : t.length ≤ 5) (oh : ∀ c ∈ h, c.ok xs) (ob : ∀ c ∈ b, c.ok xs) (ot : ∀ c ∈ t, c.ok xs) {d : D} {k : OK2} (hO : Odd xs d k) {n : Nat} {cs J : List Cell} {c : Cell} (hn : n < cs.length) (hs : isS c) (r : Int) (a7 a9 a10 : Option D) :
    ∃ c' J' b9 b10, isS c' ∧ lb_law_errors_right_4 [some (.cell n), some (memD xs), some (.lst [.lst (obs h), .lst (obs b), .lst (obs t)]), some (.int xs.length), some d, some k.told, some (.int r), a7, some (.int 0), a9, a10, none] (cs.set n c ++ J)
      = .nx [some (.cell n), some (memD xs), some (.lst [.lst (obs h), .lst (obs b), .lst (obs t)]), some (.int xs.length), some d, some k.told, some (.int r), a7, some (.int 0), b9, b10, none] (cs.set n c' ++ J') := by
  obtain ⟨l, hl0⟩ : ∃ l, ∀ c, (cs.set n c ++ J).length = l := ⟨cs.length + J.length, fun c => by simp⟩
  obtain ⟨B, hB⟩ : ∃ B : Cell → List Cell, ∀ c, cs.set n c ++ J = B c := ⟨_, fun _ => rfl⟩
  have hl : ∀ c, (B c).length = l := fun c => by rw [← hB]; exact hl0 c
  generalize hQ : [Cell.lst [D.cell (l + 1), .cell (l + 1 + 1), .cell (l + 1 + 1 + 1)], .lst (obs h), .lst (obs b), .lst (obs t)] = Q
  have e1 := lc3 (i := 11) (hh := ce_law_errors_right_1) (env := [some (.cell n), some (memD xs), some (.lst [.lst (obs h), .lst (obs b), .lst (obs t)]), some (.int xs.length), some d, some k.told, some (.int r), a7, some (.int 0), a9, a10, none]) (B := B c) (obs h) (obs b) (obs t) (fun w cs => rfl)
  rw [hl, hQ] at e1
  have g9 : ∀ c, (B c ++ Q)[l]? = some (.lst [D.cell (l + 1), .cell (l + 1 + 1), .cell (l + 1 + 1 + 1)]) := fun c => by rw [← hQ]; exact gAn (k := 0) (hl c)
  have gp : ∀ c, (B c ++ Q)[l + 1]? = some (.lst (obs h)) := fun c => by rw [← hQ]; exact gAn (k := 1) (hl c)
  have xa : ixD (.cell l) (.int 0) (B c ++ Q) = .ok (.cell (l + 1)) (B c ++ Q) := by simp [ixD, asI, itemsS, itemsL, g9, L2.atI, L2.ixN]
  have iL : isL (B c ++ Q) (.cell (l + 1)) = true := by simp [isL, itemsL, gp]
  have ln : lenD1 (.cell (l + 1)) (B c ++ Q) = .ok (.int h.length) (B c ++ Q) := by simp [lenD1, itemsS, itemsL, gp, obs_len]
  obtain ⟨i, c1, s1, i0, i1, ed⟩ := drawJ (J := J ++ Q) hn hs ((h.length : Int) + 1) (by omega) (by
    have := logm (m := h.length + 1) (by omega)
    exact this)
  rw [← List.append_assoc, ← List.append_assoc, hB, hB] at ed
  have hi := insD (y := d) (gp c1) (by rw [obs_len]; omega) i0 (by omega : i ≤ 1000)
  have es : (B c1 ++ Q).set (l + 1) (.lst ((obs h).take i.toNat ++ [d] ++ (obs h).drop i.toNat)) = B c1 ++ [Cell.lst [D.cell (l + 1), .cell (l + 1 + 1), .cell (l + 1 + 1 + 1)], .lst ((obs h).take i.toNat ++ [d] ++ (obs h).drop i.toNat), .lst (obs b), .lst (obs t)] := by
    rw [← hQ]; exact sAn (k := 1) (hl c1)
  rw [es] at hi
  have g8 : (B c1 ++ [Cell.lst [D.cell (l + 1), .cell (l + 1 + 1), .cell (l + 1 + 1 + 1)], .lst ((obs h).take i.toNat ++ [d] ++ (obs h).drop i.toNat), .lst (obs b), .lst (obs t)])[l]? = some (.lst [D.cell (l + 1), .cell (l + 1 + 1), .cell (l + 1 + 1 + 1)]) := gAn (k := 0) (hl c1)
  have es2 : ∀ z, (B c1 ++ [Cell.lst [D.cell (l + 1), .cell (l + 1 + 1), .cell (l + 1 + 1 + 1)], .lst ((obs h).take i.toNat ++ [d] ++ (obs h).drop i.toNat), .lst (obs b), .lst (obs t)]).set l z = B c1 ++ [z, .lst ((obs h).take i.toNat ++ [d] ++ (obs h).drop i.toNat), .lst (obs b), .lst (obs t)] := fun z => sAn (k := 0) (hl c1)
  have ix2 : L2.ixN 3 2 = some 2 := by decide
  generalize hQ2 : [Cell.lst [D.cell (l + 1), .cell (l + 1 + 1), .lst [.obj 10 [.int ((xs.length : Int) + 3)]]], .lst ((obs h).take i.toNat ++ [d] ++ (obs h).drop i.toNat), .lst (obs b), .lst (obs t)] = Q2 at es2
  have f1 : fits 1 := fits_of (by omega)
  have f7 : fits 7 := fits_of (by omega)
  have pw : ∀ cs, powD (.int 10) (.int 30) cs = .ok (.int 1000000000000000000000000000000) cs := fun cs => by
    have p1 : CPow 10 30 := by unfold CPow; decide
    unfold powD; simp [both, asI, p1]
  have g9' : (B c1 ++ Q2)[l]? = some (.lst [D.cell (l + 1), .cell (l + 1 + 1), .lst [.obj 10 [.int ((xs.length : Int) + 3)]]]) := by rw [← hQ2]; exact gAn (k := 0) (hl c1)
  have q0 : (B c1 ++ Q2)[l + 1]? = some (.lst ((obs h).take i.toNat ++ [d] ++ (obs h).drop i.toNat)) := by rw [← hQ2]; exact gAn (k := 1) (hl c1)
  have q1 : (B c1 ++ Q2)[l + 1 + 1]? = some (.lst (obs b)) := by rw [← hQ2]; exact gAn (k := 2) (hl c1)
  have q2 : (B c1 ++ Q2)[l + 1 + 1 + 1]? = some (.lst (obs t)) := by rw [← hQ2]; exact gAn (k := 3) (hl c1)
  have hr : ∀ t_ : Int, F_count_repeated [memD xs, .cell (l + 1), .cell (l + 1 + 1), .lst [.obj 10 [.int ((xs.length : Int) + 3)]], .int t_] (B c1 ++ Q2) = k.exn (B c1 ++ Q2) := fun t_ => by
    rw [rep_any _ _ _ _ _ ((obs h).take i.toNat ++ [d] ++ (obs h).drop i.toNat) (obs b) ([.obj 10 [.int ((xs.length : Int) + 3)]]) _ (by simp [itemsS, itemsL, q0]) (by simp [itemsS, itemsL, q1]) (by simp [itemsS, itemsL, itemsT])]
    refine rep_bad xs h6 hO (.int t_) _ _ _ (obs (h.drop i.toNat) ++ (obs b ++ [.obj 10 [.int ((xs.length : Int) + 3)]])) (h.take i.toNat) _ ?_ ?_ ?_
    · rw [ins_eq]; unfold obs; simp
    · intro x hx
      exact oh x (List.mem_of_mem_take hx)
    · rw [ins_len]; simp only [obs_len, List.length_cons, List.length_nil]; omega
  obtain ⟨b10, ef⟩ := turns_loop g9' hr (some (.cell n)) (some (.lst [.lst (obs h), .lst (obs b), .lst (obs t)])) (some (.int xs.length)) (some d) (some (.int r)) a7 (some (.int 0)) none [r, 0, 1, 2, 5, 20, 1000000000000000000000000000000] a10
  change forL noChk (gNm 10) lb_law_errors_right_3 [.int r, .int 0, .int 1, .int 2, .int 5, .int 20, .int 1000000000000000000000000000000] _ _ = _ at ef
  refine ⟨c1, J ++ Q2, some (.cell l), b10, s1, ?_⟩
  rw [← List.append_assoc, hB, hB]
  unfold lb_law_errors_right_4
  simp only [sSeq, sSet, sExpr, sIf, sNil, sFor, sAsg, gIx, dLcC, itL, dML, dCons, dNil, dVar, dC, d2, dFn, dCall, dLst, lenD, qB, qTru, asB, asI, wipeE, Out.bind, Out.bindS, List.getElem?_cons_zero, List.getElem?_cons_succ, List.set_cons_zero, List.set_cons_succ, hl, e1, xa, iL, ln, if_true, show ∀ (a b : Int) cs, addD (.int a) (.int b) cs = .ok (.int (a + b)) cs from fun _ _ _ => rfl, ed, hi, show ∀ (a b : Int) cs, ltD (.int a) (.int b) cs = .ok (.bl (decide (a < b))) cs from fun _ _ _ => rfl, show (decide ((0 : Int) < 2)) = true from by decide, mk_flush, List.length_cons, List.length_nil, Nat.reduceAdd, f1, f7, pw, g8, ix2, es2, hQ2, Bool.false_eq_true, if_false, ef]
theorem at_1 {xs : List Int} (h6 : xs.length ≤ 6) {h b t : List Cm} (lh : h.length ≤ 5) (lb : b.length ≤ 5) (lt : t.length ≤ 5) (oh : ∀ c ∈ h, c.ok xs) (ob : ∀ c ∈ b, c.ok xs) (ot : ∀ c ∈ t, c.ok xs) {d : D} {k : OK2} (hO : Odd xs d k) {n : Nat} {cs J : List Cell} {c : Cell} (hn : n < cs.length) (hs : isS c) (r : Int) (a7 a9 a10 : Option D) :
    ∃ c' J' b9 b10, isS c' ∧ lb_law_errors_right_4 [some (.cell n), some (memD xs), some (.lst [.lst (obs h), .lst (obs b), .lst (obs t)]), some (.int xs.length), some d, some k.told, some (.int r), a7, some (.int 1), a9, a10, none] (cs.set n c ++ J)
      = .nx [some (.cell n), some (memD xs), some (.lst [.lst (obs h), .lst (obs b), .lst (obs t)]), some (.int xs.length), some d, some k.told, some (.int r), a7, some (.int 1), b9, b10, none] (cs.set n c' ++ J') := by
  obtain ⟨l, hl0⟩ : ∃ l, ∀ c, (cs.set n c ++ J).length = l := ⟨cs.length + J.length, fun c => by simp⟩
  obtain ⟨B, hB⟩ : ∃ B : Cell → List Cell, ∀ c, cs.set n c ++ J = B c := ⟨_, fun _ => rfl⟩
  have hl : ∀ c, (B c).length = l := fun c => by rw [← hB]; exact hl0 c
  generalize hQ : [Cell.lst [D.cell (l + 1), .cell (l + 1 + 1), .cell (l + 1 + 1 + 1)], .lst (obs h), .lst (obs b), .lst (obs t)] = Q
  have e1 := lc3 (i := 11) (hh := ce_law_errors_right_1) (env := [some (.cell n), some (memD xs), some (.lst [.lst (obs h), .lst (obs b), .lst (obs t)]), some (.int xs.length), some d, some k.told, some (.int r), a7, some (.int 1), a9, a10, none]) (B := B c) (obs h) (obs b) (obs t) (fun w cs => rfl)
  rw [hl, hQ] at e1
  have g9 : ∀ c, (B c ++ Q)[l]? = some (.lst [D.cell (l + 1), .cell (l + 1 + 1), .cell (l + 1 + 1 + 1)]) := fun c => by rw [← hQ]; exact gAn (k := 0) (hl c)
  have gp : ∀ c, (B c ++ Q)[l + 1 + 1]? = some (.lst (obs b)) := fun c => by rw [← hQ]; exact gAn (k := 2) (hl c)
  have xa : ixD (.cell l) (.int 1) (B c ++ Q) = .ok (.cell (l + 1 + 1)) (B c ++ Q) := by simp [ixD, asI, itemsS, itemsL, g9, L2.atI, L2.ixN]
  have iL : isL (B c ++ Q) (.cell (l + 1 + 1)) = true := by simp [isL, itemsL, gp]
  have ln : lenD1 (.cell (l + 1 + 1)) (B c ++ Q) = .ok (.int b.length) (B c ++ Q) := by simp [lenD1, itemsS, itemsL, gp, obs_len]
  obtain ⟨i, c1, s1, i0, i1, ed⟩ := drawJ (J := J ++ Q) hn hs ((b.length : Int) + 1) (by omega) (by
    have := logm (m := b.length + 1) (by omega)
    exact this)
  rw [← List.append_assoc, ← List.append_assoc, hB, hB] at ed
  have hi := insD (y := d) (gp c1) (by rw [obs_len]; omega) i0 (by omega : i ≤ 1000)
  have es : (B c1 ++ Q).set (l + 1 + 1) (.lst ((obs b).take i.toNat ++ [d] ++ (obs b).drop i.toNat)) = B c1 ++ [Cell.lst [D.cell (l + 1), .cell (l + 1 + 1), .cell (l + 1 + 1 + 1)], .lst (obs h), .lst ((obs b).take i.toNat ++ [d] ++ (obs b).drop i.toNat), .lst (obs t)] := by
    rw [← hQ]; exact sAn (k := 2) (hl c1)
  rw [es] at hi
  have g8 : (B c1 ++ [Cell.lst [D.cell (l + 1), .cell (l + 1 + 1), .cell (l + 1 + 1 + 1)], .lst (obs h), .lst ((obs b).take i.toNat ++ [d] ++ (obs b).drop i.toNat), .lst (obs t)])[l]? = some (.lst [D.cell (l + 1), .cell (l + 1 + 1), .cell (l + 1 + 1 + 1)]) := gAn (k := 0) (hl c1)
  have es2 : ∀ z, (B c1 ++ [Cell.lst [D.cell (l + 1), .cell (l + 1 + 1), .cell (l + 1 + 1 + 1)], .lst (obs h), .lst ((obs b).take i.toNat ++ [d] ++ (obs b).drop i.toNat), .lst (obs t)]).set l z = B c1 ++ [z, .lst (obs h), .lst ((obs b).take i.toNat ++ [d] ++ (obs b).drop i.toNat), .lst (obs t)] := fun z => sAn (k := 0) (hl c1)
  have ix2 : L2.ixN 3 2 = some 2 := by decide
  generalize hQ2 : [Cell.lst [D.cell (l + 1), .cell (l + 1 + 1), .lst [.obj 10 [.int ((xs.length : Int) + 3)]]], .lst (obs h), .lst ((obs b).take i.toNat ++ [d] ++ (obs b).drop i.toNat), .lst (obs t)] = Q2 at es2
  have f1 : fits 1 := fits_of (by omega)
  have f7 : fits 7 := fits_of (by omega)
  have pw : ∀ cs, powD (.int 10) (.int 30) cs = .ok (.int 1000000000000000000000000000000) cs := fun cs => by
    have p1 : CPow 10 30 := by unfold CPow; decide
    unfold powD; simp [both, asI, p1]
  have g9' : (B c1 ++ Q2)[l]? = some (.lst [D.cell (l + 1), .cell (l + 1 + 1), .lst [.obj 10 [.int ((xs.length : Int) + 3)]]]) := by rw [← hQ2]; exact gAn (k := 0) (hl c1)
  have q0 : (B c1 ++ Q2)[l + 1]? = some (.lst (obs h)) := by rw [← hQ2]; exact gAn (k := 1) (hl c1)
  have q1 : (B c1 ++ Q2)[l + 1 + 1]? = some (.lst ((obs b).take i.toNat ++ [d] ++ (obs b).drop i.toNat)) := by rw [← hQ2]; exact gAn (k := 2) (hl c1)
  have q2 : (B c1 ++ Q2)[l + 1 + 1 + 1]? = some (.lst (obs t)) := by rw [← hQ2]; exact gAn (k := 3) (hl c1)
  have hr : ∀ t_ : Int, F_count_repeated [memD xs, .cell (l + 1), .cell (l + 1 + 1), .lst [.obj 10 [.int ((xs.length : Int) + 3)]], .int t_] (B c1 ++ Q2) = k.exn (B c1 ++ Q2) := fun t_ => by
    rw [rep_any _ _ _ _ _ (obs h) ((obs b).take i.toNat ++ [d] ++ (obs b).drop i.toNat) ([.obj 10 [.int ((xs.length : Int) + 3)]]) _ (by simp [itemsS, itemsL, q0]) (by simp [itemsS, itemsL, q1]) (by simp [itemsS, itemsL, itemsT])]
    refine rep_bad xs h6 hO (.int t_) _ _ _ (obs (b.drop i.toNat) ++ [.obj 10 [.int ((xs.length : Int) + 3)]]) (h ++ b.take i.toNat) _ ?_ ?_ ?_
    · rw [ins_eq]; unfold obs; simp
    · intro x hx
      rcases List.mem_append.mp hx with z | z
      · exact oh x z
      · exact ob x (List.mem_of_mem_take z)
    · rw [ins_len]; simp only [obs_len, List.length_cons, List.length_nil]; omega
  obtain ⟨b10, ef⟩ := turns_loop g9' hr (some (.cell n)) (some (.lst [.lst (obs h), .lst (obs b), .lst (obs t)])) (some (.int xs.length)) (some d) (some (.int r)) a7 (some (.int 1)) none [r, 0, 1, 2, 5, 20, 1000000000000000000000000000000] a10
  change forL noChk (gNm 10) lb_law_errors_right_3 [.int r, .int 0, .int 1, .int 2, .int 5, .int 20, .int 1000000000000000000000000000000] _ _ = _ at ef
  refine ⟨c1, J ++ Q2, some (.cell l), b10, s1, ?_⟩
  rw [← List.append_assoc, hB, hB]
  unfold lb_law_errors_right_4
  simp only [sSeq, sSet, sExpr, sIf, sNil, sFor, sAsg, gIx, dLcC, itL, dML, dCons, dNil, dVar, dC, d2, dFn, dCall, dLst, lenD, qB, qTru, asB, asI, wipeE, Out.bind, Out.bindS, List.getElem?_cons_zero, List.getElem?_cons_succ, List.set_cons_zero, List.set_cons_succ, hl, e1, xa, iL, ln, if_true, show ∀ (a b : Int) cs, addD (.int a) (.int b) cs = .ok (.int (a + b)) cs from fun _ _ _ => rfl, ed, hi, show ∀ (a b : Int) cs, ltD (.int a) (.int b) cs = .ok (.bl (decide (a < b))) cs from fun _ _ _ => rfl, show (decide ((1 : Int) < 2)) = true from by decide, mk_flush, List.length_cons, List.length_nil, Nat.reduceAdd, f1, f7, pw, g8, ix2, es2, hQ2, Bool.false_eq_true, if_false, ef]
theorem at_2 {xs : List Int} (h6 : xs.length ≤ 6) {h b t : List Cm} (lh : h.length ≤ 5) (lb : b.length ≤ 5) (lt : t.length ≤ 5) (oh : ∀ c ∈ h, c.ok xs) (ob : ∀ c ∈ b, c.ok xs) (ot : ∀ c ∈ t, c.ok xs) {d : D} {k : OK2} (hO : Odd xs d k) {n : Nat} {cs J : List Cell} {c : Cell} (hn : n < cs.length) (hs : isS c) (r : Int) (a7 a9 a10 : Option D) :
    ∃ c' J' b9 b10, isS c' ∧ lb_law_errors_right_4 [some (.cell n), some (memD xs), some (.lst [.lst (obs h), .lst (obs b), .lst (obs t)]), some (.int xs.length), some d, some k.told, some (.int r), a7, some (.int 2), a9, a10, none] (cs.set n c ++ J)
      = .nx [some (.cell n), some (memD xs), some (.lst [.lst (obs h), .lst (obs b), .lst (obs t)]), some (.int xs.length), some d, some k.told, some (.int r), a7, some (.int 2), b9, b10, none] (cs.set n c' ++ J') := by
  obtain ⟨l, hl0⟩ : ∃ l, ∀ c, (cs.set n c ++ J).length = l := ⟨cs.length + J.length, fun c => by simp⟩
  obtain ⟨B, hB⟩ : ∃ B : Cell → List Cell, ∀ c, cs.set n c ++ J = B c := ⟨_, fun _ => rfl⟩
  have hl : ∀ c, (B c).length = l := fun c => by rw [← hB]; exact hl0 c
  generalize hQ : [Cell.lst [D.cell (l + 1), .cell (l + 1 + 1), .cell (l + 1 + 1 + 1)], .lst (obs h), .lst (obs b), .lst (obs t)] = Q
  have e1 := lc3 (i := 11) (hh := ce_law_errors_right_1) (env := [some (.cell n), some (memD xs), some (.lst [.lst (obs h), .lst (obs b), .lst (obs t)]), some (.int xs.length), some d, some k.told, some (.int r), a7, some (.int 2), a9, a10, none]) (B := B c) (obs h) (obs b) (obs t) (fun w cs => rfl)
  rw [hl, hQ] at e1
  have g9 : ∀ c, (B c ++ Q)[l]? = some (.lst [D.cell (l + 1), .cell (l + 1 + 1), .cell (l + 1 + 1 + 1)]) := fun c => by rw [← hQ]; exact gAn (k := 0) (hl c)
  have gp : ∀ c, (B c ++ Q)[l + 1 + 1 + 1]? = some (.lst (obs t)) := fun c => by rw [← hQ]; exact gAn (k := 3) (hl c)
  have xa : ixD (.cell l) (.int 2) (B c ++ Q) = .ok (.cell (l + 1 + 1 + 1)) (B c ++ Q) := by simp [ixD, asI, itemsS, itemsL, g9, L2.atI, L2.ixN]
  have iL : isL (B c ++ Q) (.cell (l + 1 + 1 + 1)) = true := by simp [isL, itemsL, gp]
  have ln : lenD1 (.cell (l + 1 + 1 + 1)) (B c ++ Q) = .ok (.int t.length) (B c ++ Q) := by simp [lenD1, itemsS, itemsL, gp, obs_len]
  obtain ⟨i, c1, s1, i0, i1, ed⟩ := drawJ (J := J ++ Q) hn hs ((t.length : Int) + 1) (by omega) (by
    have := logm (m := t.length + 1) (by omega)
    exact this)
  rw [← List.append_assoc, ← List.append_assoc, hB, hB] at ed
  have hi := insD (y := d) (gp c1) (by rw [obs_len]; omega) i0 (by omega : i ≤ 1000)
  have es : (B c1 ++ Q).set (l + 1 + 1 + 1) (.lst ((obs t).take i.toNat ++ [d] ++ (obs t).drop i.toNat)) = B c1 ++ [Cell.lst [D.cell (l + 1), .cell (l + 1 + 1), .cell (l + 1 + 1 + 1)], .lst (obs h), .lst (obs b), .lst ((obs t).take i.toNat ++ [d] ++ (obs t).drop i.toNat)] := by
    rw [← hQ]; exact sAn (k := 3) (hl c1)
  rw [es] at hi
  generalize hQ2 : [Cell.lst [D.cell (l + 1), .cell (l + 1 + 1), .cell (l + 1 + 1 + 1)], .lst (obs h), .lst (obs b), .lst ((obs t).take i.toNat ++ [d] ++ (obs t).drop i.toNat)] = Q2 at hi
  have f1 : fits 1 := fits_of (by omega)
  have f7 : fits 7 := fits_of (by omega)
  have pw : ∀ cs, powD (.int 10) (.int 30) cs = .ok (.int 1000000000000000000000000000000) cs := fun cs => by
    have p1 : CPow 10 30 := by unfold CPow; decide
    unfold powD; simp [both, asI, p1]
  have g9' : (B c1 ++ Q2)[l]? = some (.lst [D.cell (l + 1), .cell (l + 1 + 1), .cell (l + 1 + 1 + 1)]) := by rw [← hQ2]; exact gAn (k := 0) (hl c1)
  have q0 : (B c1 ++ Q2)[l + 1]? = some (.lst (obs h)) := by rw [← hQ2]; exact gAn (k := 1) (hl c1)
  have q1 : (B c1 ++ Q2)[l + 1 + 1]? = some (.lst (obs b)) := by rw [← hQ2]; exact gAn (k := 2) (hl c1)
  have q2 : (B c1 ++ Q2)[l + 1 + 1 + 1]? = some (.lst ((obs t).take i.toNat ++ [d] ++ (obs t).drop i.toNat)) := by rw [← hQ2]; exact gAn (k := 3) (hl c1)
  have hr : ∀ t_ : Int, F_count_repeated [memD xs, .cell (l + 1), .cell (l + 1 + 1), .cell (l + 1 + 1 + 1), .int t_] (B c1 ++ Q2) = k.exn (B c1 ++ Q2) := fun t_ => by
    rw [rep_any _ _ _ _ _ (obs h) (obs b) ((obs t).take i.toNat ++ [d] ++ (obs t).drop i.toNat) _ (by simp [itemsS, itemsL, q0]) (by simp [itemsS, itemsL, q1]) (by simp [itemsS, itemsL, itemsT, q2])]
    refine rep_bad xs h6 hO (.int t_) _ _ _ (obs (t.drop i.toNat)) (h ++ (b ++ t.take i.toNat)) _ ?_ ?_ ?_
    · rw [ins_eq]; unfold obs; simp
    · intro x hx
      rcases List.mem_append.mp hx with z | z
      · exact oh x z
      · rcases List.mem_append.mp z with z | z
        · exact ob x z
        · exact ot x (List.mem_of_mem_take z)
    · rw [ins_len]; simp only [obs_len, List.length_cons, List.length_nil]; omega
  obtain ⟨b10, ef⟩ := turns_loop g9' hr (some (.cell n)) (some (.lst [.lst (obs h), .lst (obs b), .lst (obs t)])) (some (.int xs.length)) (some d) (some (.int r)) a7 (some (.int 2)) none [r, 0, 1, 2, 5, 20, 1000000000000000000000000000000] a10
  change forL noChk (gNm 10) lb_law_errors_right_3 [.int r, .int 0, .int 1, .int 2, .int 5, .int 20, .int 1000000000000000000000000000000] _ _ = _ at ef
  refine ⟨c1, J ++ Q2, some (.cell l), b10, s1, ?_⟩
  rw [← List.append_assoc, hB, hB]
  unfold lb_law_errors_right_4
  simp only [sSeq, sSet, sExpr, sIf, sNil, sFor, sAsg, gIx, dLcC, itL, dML, dCons, dNil, dVar, dC, d2, dFn, dCall, dLst, lenD, qB, qTru, asB, asI, wipeE, Out.bind, Out.bindS, List.getElem?_cons_zero, List.getElem?_cons_succ, List.set_cons_zero, List.set_cons_succ, hl, e1, xa, iL, ln, if_true, show ∀ (a b : Int) cs, addD (.int a) (.int b) cs = .ok (.int (a + b)) cs from fun _ _ _ => rfl, ed, hi, show ∀ (a b : Int) cs, ltD (.int a) (.int b) cs = .ok (.bl (decide (a < b))) cs from fun _ _ _ => rfl, show (decide ((2 : Int) < 2)) = false from by decide, mk_flush, List.length_cons, List.length_nil, Nat.reduceAdd, f1, f7, pw, Bool.false_eq_true, if_false, ef]
end K51
end

section
set_option Elab.async false
set_option linter.all false
set_option maxRecDepth 100000
namespace K51
open PySem L2 DL Pol
theorem ads (a b : Int) (cs : List Cell) : addD (.int a) (.int b) cs = .ok (.int (a + b)) cs := rfl
theorem sbs (a b : Int) (cs : List Cell) : subD (.int a) (.int b) cs = .ok (.int (a - b)) cs := rfl
theorem ngs (a : Int) (cs : List Cell) : negD (.int a) cs = .ok (.int (-a)) cs := rfl
theorem eq_int (a b : Int) (cs : List Cell) : eqC false 20 (.int a) (.int b) cs = .ok (.bl (a == b)) cs := by
  unfold eqC
  simp [resL, D.okE, eqD, asI, asB]
def oddL (xs : List Int) (x0 : Int) : List D := [.obj 9 [.int xs.length, .int 0, .int 1], .obj 9 [.int 0, .int x0, .int 1], .obj 10 [.int (-1)], .obj 9 [.int 0, .int (-1), .int 1]]
theorem want_ok {xs : List Int} {x0 : Int} (h1 : 1 ≤ xs.length) (hx0 : xs[0]? = some x0) : ∀ x ∈ oddL xs x0, ∃ k, Odd xs x k ∧ ∀ (a0 a1 a2 a6 a7 a8 a9 a10 a11 : Option D) (cs : List Cell),
    (sIf (qB (d1 (dVar 4) (isiD isi_Store)))
      (sSet 5 (dIf (qB (d2 (d1 (dVar 4) (getD od 2)) (dVar 3) (eqC false 20))) (dTup (dCons (dC (.str "line")) (dCons (dVar 3) dNil))) (dTup (dCons (dC (.str "word")) (dCons (d1 (dVar 4) (getD od 3)) dNil)))))
      sNil) [a0, a1, a2, some (.int xs.length), some x, some (.tup [.str "line", .int (-1)]), a6, a7, a8, a9, a10, a11] cs = .nx [a0, a1, a2, some (.int xs.length), some x, some k.told, a6, a7, a8, a9, a10, a11] cs := by
  have f2 : fits 2 := fits_of (by omega)
  have nz : ((0 : Int) == (xs.length : Int)) = false := by
    rw [beq_eq_false_iff_ne]; omega
  intro x hx
  simp only [oddL, List.mem_cons, List.not_mem_nil, or_false] at hx
  rcases hx with rfl | rfl | rfl | rfl
  · refine ⟨.ln xs.length, Odd.sl xs.length 0 1 (Nat.le_refl _), fun a0 a1 a2 a6 a7 a8 a9 a10 a11 cs => ?_⟩
    simp [sIf, qB, d1, d2, dVar, dIf, dTup, dCons, dNil, dC, sSet, isiD, isi_Store, List.lookup, getD, od, atK, eq_int, Out.bind, Out.bindS, asB, qTru, f2, OK2.told]
  · refine ⟨.wd x0, Odd.sw 0 x0 1 x0 hx0 (by omega), fun a0 a1 a2 a6 a7 a8 a9 a10 a11 cs => ?_⟩
    simp [sIf, qB, d1, d2, dVar, dIf, dTup, dCons, dNil, dC, sSet, isiD, isi_Store, List.lookup, getD, od, atK, eq_int, nz, Out.bind, Out.bindS, asB, qTru, f2, OK2.told]
  · refine ⟨.ln (-1), Odd.fl (-1) (by omega), fun a0 a1 a2 a6 a7 a8 a9 a10 a11 cs => ?_⟩
    simp [sIf, qB, d1, d2, dVar, dIf, dTup, dCons, dNil, dC, sSet, sNil, isiD, isi_Store, List.lookup, getD, od, atK, eq_int, Out.bind, Out.bindS, asB, qTru, f2, OK2.told]
  · refine ⟨.wd (-1), Odd.sw 0 (-1) 1 x0 hx0 (by omega), fun a0 a1 a2 a6 a7 a8 a9 a10 a11 cs => ?_⟩
    simp [sIf, qB, d1, d2, dVar, dIf, dTup, dCons, dNil, dC, sSet, isiD, isi_Store, List.lookup, getD, od, atK, eq_int, nz, Out.bind, Out.bindS, asB, qTru, f2, OK2.told]
theorem long_ok (cs : List Cell) : mulD (.lst [.obj 11 []]) (.int 8) cs = .ok (.lst (List.replicate 8 (.obj 11 []))) cs := by
  unfold mulD both itemsL itemsT asI
  simp only []
  rw [if_pos (in63F_of (by decide) (by decide) (by decide))]
  rfl
theorem errors_ok {xs : List Int} (h1 : 1 ≤ xs.length) (h6 : xs.length ≤ 6) {h b t : List Cm} (lh : h.length ≤ 5) (lb : b.length ≤ 5) (lt : t.length ≤ 5) (oh : ∀ c ∈ h, c.ok xs) (ob : ∀ c ∈ b, c.ok xs) (ot : ∀ c ∈ t, c.ok xs) {n : Nat} {cs : List Cell} {c : Cell} (hc : cs[n]? = some c) (hs : isS c) :
    ∃ c', isS c' ∧ F_law_errors_right [.cell n, memD xs, .lst [.lst (obs h), .lst (obs b), .lst (obs t)]] cs = .ok (.bl true) (cs.set n c') := by
  have hn := live_len hc
  obtain ⟨x0, hx0⟩ : ∃ x0, xs[0]? = some x0 := ⟨xs[0], List.getElem?_eq_getElem h1⟩
  obtain ⟨x, c1, hx, s1, ec⟩ := choice_ok hc hs (oddL xs x0) (by simp [oddL]) (by simp [oddL])
  obtain ⟨k, hO, hw⟩ := want_ok h1 hx0 x hx
  obtain ⟨v, c2, s2, v0, v1, ed⟩ := draw_ok (set_get (c := c1) hn) s1 100000000000000000000 (by decide) (by decide +kernel)
  rw [List.set_set] at ed
  obtain ⟨rd, c3, hr, s3, er⟩ := choice_ok (set_get (c := c2) hn) s2 [.int (-1), .int 1000000000000000000000000000001, .int (-5 - v)] (by simp) (by simp)
  rw [List.set_set] at er
  obtain ⟨r, rfl, hrb⟩ : ∃ r : Int, rd = .int r ∧ ¬ (0 ≤ r ∧ r ≤ 1000000000000000000000000000000) := by
    simp only [List.mem_cons, List.not_mem_nil, or_false] at hr
    rcases hr with e | e | e <;> subst e
    · exact ⟨_, rfl, by omega⟩
    · exact ⟨_, rfl, by omega⟩
    · exact ⟨_, rfl, by omega⟩
  have f4 : fits 4 := fits_of (by omega)
  have f3 : fits 3 := fits_of (by omega)
  have f2 : fits 2 := fits_of (by omega)
  have f1 : fits 1 := fits_of (by omega)
  have fl : fits xs.length := fits_of (by omega)
  have i3 : in62 3 := in62_of (by decide) (by decide)
  have hsz : ∀ cs, getD od 5 (memD xs) cs = .ok (.tup (ilist xs)) cs := fun cs => by simp [memD, getD, od, atK]
  have hx1 : ∀ cs, ixD (.tup (ilist xs)) (.int 0) cs = .ok (.int x0) cs := fun cs => by
    have : (ilist xs)[0]? = some (.int x0) := by rw [il_get, hx0]; rfl
    have a := atI_nat this
    unfold ixD asI
    simp only [itemsS, show ((0 : Nat) : Int) = 0 from rfl] at a ⊢
    simp only [a]
  have pw30 : ∀ cs, powD (.int 10) (.int 30) cs = .ok (.int 1000000000000000000000000000000) cs := fun cs => by
    have p1 : CPow 10 30 := by unfold CPow; decide
    unfold powD; simp [both, asI, p1]
  have pw20 : ∀ cs, powD (.int 10) (.int 20) cs = .ok (.int 100000000000000000000) cs := fun cs => by
    have p1 : CPow 10 20 := by unfold CPow; decide
    unfold powD; simp [both, asI, p1]
  have hln : ∀ cs, lenD1 (.tup (ilist xs)) cs = .ok (.int xs.length) cs := fun cs => by simp [lenD1, itemsS, il_len]
  generalize hP : D.lst [.lst (obs h), .lst (obs b), .lst (obs t)] = P
  -- too many
  have hl0 : ∀ cs, lm_law_errors_right_0 [some (.cell n), some (memD xs), some P, some (.int xs.length), some x, some k.told, some (.int r), some (.lst (List.replicate 8 (.obj 11 []))), none, none, none, none] cs = .exn 1 [1, 0] [.int 25, .str "commands"] cs := fun cs => by
    have ha : addD (.lst (List.replicate 8 (.obj 11 []))) (.lst [x]) cs = .ok (.lst (List.replicate 8 (.obj 11 []) ++ [x])) cs := by
      have f : fits ((List.replicate 8 (D.obj 11 [])).length + [x].length) := fits_of (by simp)
      unfold addD
      simp only [both, asI, asS, itemsT, itemsL, if_pos f]
    unfold lm_law_errors_right_0
    simp only [dFn, dCons, dNil, dVar, dLst, d2, Out.bind, List.getElem?_cons_zero, List.getElem?_cons_succ, List.length_cons, List.length_nil, Nat.reduceAdd, if_pos f1, ha]
    exact rep_many _ _ _ _ _ _ 25 (by simp) (by decide) (by decide)
  have ht0 := fun cs => told_bc (hl0 cs)
  -- the places
  obtain ⟨c4, J4, b9, b10, s4, e4⟩ := at_0 (J := []) h6 lh lb lt oh ob ot hO hn s3 r (some (.lst (List.replicate 8 (.obj 11 [])))) none none
  obtain ⟨c5, J5, b9', b10', s5, e5⟩ := at_1 (J := J4) h6 lh lb lt oh ob ot hO hn s4 r (some (.lst (List.replicate 8 (.obj 11 [])))) b9 b10
  obtain ⟨c6, J6, b9'', b10'', s6, e6⟩ := at_2 (J := J5) h6 lh lb lt oh ob ot hO hn s5 r (some (.lst (List.replicate 8 (.obj 11 [])))) b9' b10'
  rw [List.append_nil, hP] at e4
  rw [hP] at e5 e6
  have ef : forL noChk (gNm 8) lb_law_errors_right_4 (rngL 0 3) [some (.cell n), some (memD xs), some P, some (.int xs.length), some x, some k.told, some (.int r), some (.lst (List.replicate 8 (.obj 11 []))), none, none, none, none] (cs.set n c3)
      = .nx [some (.cell n), some (memD xs), some P, some (.int xs.length), some x, some k.told, some (.int r), some (.lst (List.replicate 8 (.obj 11 []))), some (.int 2), b9'', b10'', none] (cs.set n c6 ++ J6) := by
    show forL noChk (gNm 8) lb_law_errors_right_4 [.int 0, .int 1, .int 2] _ _ = _
    rw [forL_step trivial rfl e4, forL_step trivial rfl e5, forL_step trivial rfl e6]
    exact forL_nil trivial
  -- the rounds
  have hl5 : ∀ a9 a10 cs, lm_law_errors_right_5 [some (.cell n), some (memD xs), some P, some (.int xs.length), some x, some k.told, some (.int r), some (.lst (List.replicate 8 (.obj 11 []))), some (.int 2), a9, a10, none] cs = .exn 1 [1, 0] [.int r, .str "rounds"] cs := fun a9 a10 cs => by
    unfold lm_law_errors_right_5
    rw [← hP]
    have x0 : ∀ cs, ixD (.lst [.lst (obs h), .lst (obs b), .lst (obs t)]) (.int 0) cs = .ok (.lst (obs h)) cs := fun cs => rfl
    have x1 : ∀ cs, ixD (.lst [.lst (obs h), .lst (obs b), .lst (obs t)]) (.int 1) cs = .ok (.lst (obs b)) cs := fun cs => rfl
    have x2 : ∀ cs, ixD (.lst [.lst (obs h), .lst (obs b), .lst (obs t)]) (.int 2) cs = .ok (.lst (obs t)) cs := fun cs => rfl
    simp only [dFn, dCons, dNil, dVar, dC, d2, Out.bind, List.getElem?_cons_zero, List.getElem?_cons_succ, x0, x1, x2]
    refine rep_rounds xs h6 r h b t cs (fun y hy => ?_) (by omega) hrb
    rcases List.mem_append.mp hy with z | z
    · exact oh y z
    · rcases List.mem_append.mp z with z | z
      · exact ob y z
      · exact ot y z
  have ht5 := fun a9 a10 cs => told_bc (hl5 a9 a10 cs)
  refine ⟨c6, s6, ?_⟩
  unfold oddL at ec
  unfold F_law_errors_right b_law_errors_right
  simp only [mkF, finS, env0, sSeq, sSet, sRet, sFor, itR1, List.length_cons, List.length_nil, List.map_cons, List.map_nil, List.cons_append, List.nil_append, List.replicate_succ, List.replicate_zero, Nat.reduceAdd, Nat.reduceSub, if_true, dCall, dCons, dNil, dVar, dC, d1, d2, dFn, dLst, dTup, lenD, Out.bind, Out.bindS, List.getElem?_cons_zero, List.getElem?_cons_succ, List.set_cons_zero, List.set_cons_succ, hsz, hln, mk_store, mk_flush, hx1, ngs, f4, f3, f2, f1, ec]
  simp only [List.replicate_succ, List.replicate_zero] at ht0 ef ht5 
  have lg := fun cs => long_ok cs
  simp only [List.replicate_succ, List.replicate_zero] at lg
  rw [show ((-1 : Int)) = -1 from rfl] at hw
  simp only [hw, pw30, pw20, ads, sbs, ed, er, lg, i3, show ((3 : Int).toNat) = 3 from rfl, show (-(1:Int)) = -1 from rfl, show (-(5:Int)) = -5 from rfl, show ((1000000000000000000000000000000 : Int) + 1) = 1000000000000000000000000000001 from by decide, if_true]
  simp only [List.getElem?_cons_zero, List.getElem?_cons_succ, List.set_cons_zero, List.set_cons_succ, List.length_cons, List.length_nil, Nat.reduceAdd, f3, f2, if_true, ed, sbs, er, sIf, sNil, qB, d2, dTup, dCons, dNil, dC, Out.bind, Out.bindS, ht0, ne_tup, asB, qTru, Bool.false_eq_true, if_false, ef, ht5, eq_tup]
  rw [show D.lt cs.length (.bl true) = true from rfl, trim_gen (by simp) fun i x q => ?_]
  by_cases hi : n = i
  · subst hi
    rw [List.getElem?_set_self hn] at q; cases q
    exact .inr (isS_lt s6 _)
  · rw [List.getElem?_set_ne hi] at q
    exact .inl q
end K51
end

section
set_option Elab.async false
set_option linter.all false
set_option maxRecDepth 100000
namespace K51
open PySem L2 DL Pol
theorem sps_rep (t : Nat) (b : List Cm) : (List.replicate t (sps b)).flatten = sps (rep t b) := by
  induction t with
  | zero => rfl
  | succ n ih =>
    rw [List.replicate_succ, List.flatten_cons, ih]
    unfold rep sps
    rw [List.replicate_succ, List.flatten_cons, List.map_append]
theorem sps_app (a b : List Cm) : sps a ++ sps b = sps (a ++ b) := by unfold sps; simp
theorem sins_eq (h : List Cm) (i : Nat) (k : Cm) : (sps h).take i ++ [k.sp] ++ (sps h).drop i = sps (h.take i ++ k :: h.drop i) := by unfold sps; simp [List.map_take, List.map_drop]
def Q3 (h b t : List Cm) : List Cell := [.gone, .lst (sps h), .lst (sps b), .lst (sps t)]
def three3 (l : Nat) : D := .lst [.cell (l + 1), .cell (l + 1 + 1), .cell (l + 1 + 1 + 1)]
theorem t3_0 (l : Nat) (cs : List Cell) : ixD (three3 l) (.int 0) cs = .ok (.cell (l + 1)) cs := rfl
theorem t3_1 (l : Nat) (cs : List Cell) : ixD (three3 l) (.int 1) cs = .ok (.cell (l + 1 + 1)) cs := rfl
theorem t3_2 (l : Nat) (cs : List Cell) : ixD (three3 l) (.int 2) cs = .ok (.cell (l + 1 + 1 + 1)) cs := rfl
section
variable {xs : List Int} {l : Nat} {B : Cell → List Cell}
theorem q3_0 (hl : ∀ c, (B c).length = l) (h b t : List Cm) (c : Cell) : (B c ++ Q3 h b t)[l + 1]? = some (.lst (sps h)) := gAn (k := 1) (hl c)
theorem q3_1 (hl : ∀ c, (B c).length = l) (h b t : List Cm) (c : Cell) : (B c ++ Q3 h b t)[l + 1 + 1]? = some (.lst (sps b)) := gAn (k := 2) (hl c)
theorem q3_2 (hl : ∀ c, (B c).length = l) (h b t : List Cm) (c : Cell) : (B c ++ Q3 h b t)[l + 1 + 1 + 1]? = some (.lst (sps t)) := gAn (k := 3) (hl c)
theorem pick3 (hl : ∀ c, (B c).length = l) (h b t : List Cm) (oh : ∀ c ∈ h, c.ok xs) (ob : ∀ c ∈ b, c.ok xs) (ot : ∀ c ∈ t, c.ok xs) (a : Int) (a0 : 0 ≤ a) (a3 : a < 3) :
    ∃ (p : Nat) (V : List Cm), (∀ cs, ixD (three3 l) (.int a) cs = .ok (.cell p) cs) ∧ (∀ c, (B c ++ Q3 h b t)[p]? = some (.lst (sps V))) ∧ V.length ≤ h.length + b.length + t.length ∧ (∀ c ∈ V, c.ok xs) ∧
      ∀ V' : List Cm, (∀ c ∈ V', c.ok xs) → V'.length = V.length + 1 → ∃ h' b' t', h'.length + b'.length + t'.length = h.length + b.length + t.length + 1 ∧ (∀ c ∈ h', c.ok xs) ∧ (∀ c ∈ b', c.ok xs) ∧ (∀ c ∈ t', c.ok xs) ∧ ∀ c, (B c ++ Q3 h b t).set p (.lst (sps V')) = B c ++ Q3 h' b' t' := by
  obtain e | e | e : a = 0 ∨ a = 1 ∨ a = 2 := by omega
  · subst e
    exact ⟨l + 1, h, t3_0 l, q3_0 hl h b t, by omega, oh, fun V' o' n' => ⟨V', b, t, by omega, o', ob, ot, fun c => sAn (k := 1) (hl c)⟩⟩
  · subst e
    exact ⟨l + 1 + 1, b, t3_1 l, q3_1 hl h b t, by omega, ob, fun V' o' n' => ⟨h, V', t, by omega, oh, o', ot, fun c => sAn (k := 2) (hl c)⟩⟩
  · subst e
    exact ⟨l + 1 + 1 + 1, t, t3_2 l, q3_2 hl h b t, by omega, ot, fun V' o' n' => ⟨h, b, V', by omega, oh, ob, o', fun c => sAn (k := 3) (hl c)⟩⟩
end
theorem lts (a b : Int) (cs : List Cell) : ltD (.int a) (.int b) cs = .ok (.bl (decide (a < b))) cs := rfl
theorem len_cell {CS : List Cell} {p : Nat} {ys : List D} (h : CS[p]? = some (.lst ys)) : lenD1 (.cell p) CS = .ok (.int ys.length) CS := by simp [lenD1, itemsS, itemsL, h]
theorem bound_loop {xs : List Int} (h1 : 1 ≤ xs.length) (h6 : xs.length ≤ 6) {n : Nat} {cs : List Cell} (hn : n < cs.length) (a2 a3 a5 a6 a7 a10 : Option D) : ∀ (m : Nat) (h b t : List Cm) (c : Cell) (e8 e9 : Option D),
    h.length + b.length + t.length + m = 20 → (∀ c ∈ h, c.ok xs) → (∀ c ∈ b, c.ok xs) → (∀ c ∈ t, c.ok xs) → isS c →
    ∃ h' b' t' c' f8 f9, isS c' ∧ h'.length + b'.length + t'.length = 20 ∧ (∀ c ∈ h', c.ok xs) ∧ (∀ c ∈ b', c.ok xs) ∧ (∀ c ∈ t', c.ok xs) ∧
    whileD lt_law_bound_right_2 lb_law_bound_right_1 (m + 1) [some (.cell n), some (.lst (ilist xs)), a2, a3, some (three3 cs.length), a5, a6, a7, e8, e9, a10] (cs.set n c ++ Q3 h b t)
      = .nx [some (.cell n), some (.lst (ilist xs)), a2, a3, some (three3 cs.length), a5, a6, a7, f8, f9, a10] (cs.set n c' ++ Q3 h' b' t') := by
  intro m
  induction m with
  | zero =>
    intro h b t c e8 e9 hs oh ob ot s
    refine ⟨h, b, t, c, e8, e9, s, hs, oh, ob, ot, whileD_stop ?_⟩
    have hl : ∀ c, (cs.set n c).length = cs.length := fun c => List.length_set
    have l0 := len_cell (q3_0 (B := fun c => cs.set n c) hl h b t c)
    have l1 := len_cell (q3_1 (B := fun c => cs.set n c) hl h b t c)
    have l2 := len_cell (q3_2 (B := fun c => cs.set n c) hl h b t c)
    have hd : decide (((h.length : Int) + b.length + t.length) < 20) = false := by simp; omega
    unfold lt_law_bound_right_2
    simp only [qB, d2, dCall, dCons, dNil, dVar, dC, lenD, Out.bind, List.getElem?_cons_zero, List.getElem?_cons_succ, t3_0, t3_1, t3_2, l0, l1, l2, ads, lts, sps_len, hd, asB, qTru]
  | succ m ih =>
    intro h b t c e8 e9 hs oh ob ot s
    have hl : ∀ c, (cs.set n c).length = cs.length := fun c => List.length_set
    have l0 := len_cell (q3_0 (B := fun c => cs.set n c) hl h b t c)
    have l1 := len_cell (q3_1 (B := fun c => cs.set n c) hl h b t c)
    have l2 := len_cell (q3_2 (B := fun c => cs.set n c) hl h b t c)
    have hd : decide (((h.length : Int) + b.length + t.length) < 20) = true := by simp; omega
    obtain ⟨lf, c1, s1, lf0, lf1, e1⟩ := drawJ (J := Q3 h b t) hn s (xs.length : Int) (by omega) (logm (by omega))
    obtain ⟨x, c2, hx, s2, e2⟩ := choice_ok (cs := cs.set n c1 ++ Q3 h b t) (app_get (set_get hn)) s1 [.tup [.str "fence", .int 0, .int 0, .int 0], .tup [.str "flush", .int lf, .int 0, .int 0]] (by simp) (by simp)
    rw [app_set (by simpa using hn), List.set_set] at e2
    obtain ⟨k, rfl, hk⟩ : ∃ k : Cm, x = k.sp ∧ k.ok xs := by
      simp only [List.mem_cons, List.not_mem_nil, or_false] at hx
      rcases hx with e | e
      · exact ⟨.X, e, trivial⟩
      · refine ⟨.F lf.toNat, ?_, show lf.toNat < xs.length by omega⟩
        rw [e]
        unfold Cm.sp
        simp only [show ((lf.toNat : Nat) : Int) = lf by omega]
    obtain ⟨a, c3, s3, a0, a3', e3⟩ := drawJ (J := Q3 h b t) hn s2 3 (by decide) (by decide)
    obtain ⟨p, V, p1, p2, p3, p4, p5⟩ := pick3 (B := fun c => cs.set n c) hl h b t oh ob ot a a0 a3'
    have lp := len_cell (p2 c3)
    obtain ⟨i, c4, s4, i0, i1, e4⟩ := drawJ (J := Q3 h b t) hn s3 ((V.length : Int) + 1) (by omega) (by
      have := logm (m := V.length + 1) (by omega)
      exact this)
    have hi := insD (y := k.sp) (p2 c4) (by rw [sps_len]; omega) i0 (by omega : i ≤ 1000)
    rw [sins_eq] at hi
    obtain ⟨h', b', t', q1, q2, q3, q4, q5⟩ := p5 (V.take i.toNat ++ k :: V.drop i.toNat) (fun y hy => by
      rcases List.mem_append.mp hy with z | z
      · exact p4 y (List.mem_of_mem_take z)
      · rcases List.mem_cons.mp z with z | z
        · rw [z]; exact hk
        · exact p4 y (List.mem_of_mem_drop z)) (by
      rw [List.length_append, List.length_cons, List.length_take, List.length_drop]; omega)
    have hi2 := hi
    rw [q5 c4] at hi2
    obtain ⟨h2, b2, t2, c', f8, f9, r1, r2, r3, r4, r5, r6⟩ := ih h' b' t' c4 (some k.sp) (some (.cell p)) (by omega) q2 q3 q4 s4
    refine ⟨h2, b2, t2, c', f8, f9, r1, r2, r3, r4, r5, (whileD_step ?_ ?_).trans r6⟩
    · unfold lt_law_bound_right_2
      simp only [qB, d2, dCall, dCons, dNil, dVar, dC, lenD, Out.bind, List.getElem?_cons_zero, List.getElem?_cons_succ, t3_0, t3_1, t3_2, l0, l1, l2, ads, lts, sps_len, hd, asB, qTru]
    · have f4 : fits 4 := fits_of (by omega)
      have f2 : fits 2 := fits_of (by omega)
      have iL : ∀ c, isL (cs.set n c ++ Q3 h b t) (.cell p) = true := fun c => by simp only [isL, itemsL, p2]; rfl
      have ln : ∀ cs, lenD1 (.lst (ilist xs)) cs = .ok (.int xs.length) cs := fun cs => by simp [lenD1, itemsS, itemsL, il_len]
      unfold lb_law_bound_right_1
      simp only [sSeq, sSet, sExpr, dML, dFn, dTup, dLst, d2, dCall, dCons, dNil, dVar, dC, lenD, Out.bind, Out.bindS, List.getElem?_cons_zero, List.getElem?_cons_succ, List.set_cons_zero, List.set_cons_succ, List.length_cons, List.length_nil, Nat.reduceAdd, f4, f2, if_true, ln, e1, e2, e3, p1, iL, lp, ads, sps_len, e4, hi2]
end K51
end

section
set_option Elab.async false
set_option linter.all false
set_option maxRecDepth 100000
namespace K51
open PySem L2 DL Pol
theorem lt_ob (k : Cm) (n : Nat) : D.lt n k.ob = true := by cases k <;> rfl
theorem ltL_obs (r : List Cm) (n : Nat) : D.ltL n (obs r) = true := ltL_map fun x _ => lt_ob x n
theorem itl_cell {CS : List Cell} {p : Nat} {ys : List D} (h : CS[p]? = some (.lst ys)) : itemsL CS (.cell p) = some ys := by simp [itemsL, h]
theorem mulC {CS : List Cell} {p : Nat} {b : List Cm} (h : CS[p]? = some (.lst (sps b))) (t : Nat) (hb : b.length ≤ 100) (ht : t ≤ 1000) : mulD (.cell p) (.int (t : Int)) CS = .ok (.lst (sps (rep t b))) CS := by
  have h0 : b.length * t ≤ 100000 := Nat.mul_le_mul hb ht
  unfold mulD both itemsT asI
  simp only [itl_cell h]
  rw [if_pos (in63F_of (by omega) (by omega) (by rw [sps_len]; simpa using (by omega : b.length * t ≤ 1000000)))]
  simp [sps_rep]
theorem addCL {CS : List Cell} {p : Nat} {a b : List Cm} (h : CS[p]? = some (.lst (sps a))) (hl : a.length + b.length ≤ 900) : addD (.cell p) (.lst (sps b)) CS = .ok (.lst (sps (a ++ b))) CS := by
  have f : fits ((sps a).length + (sps b).length) := fits_of (by rw [sps_len, sps_len]; omega)
  unfold addD
  simp only [asI, asS, both, itemsT, itl_cell h, show itemsL CS (.lst (sps b)) = some (sps b) from rfl, if_pos f, sps_app]
theorem addLC {CS : List Cell} {p : Nat} {a b : List Cm} (h : CS[p]? = some (.lst (sps b))) (hl : a.length + b.length ≤ 900) : addD (.lst (sps a)) (.cell p) CS = .ok (.lst (sps (a ++ b))) CS := by
  have f : fits ((sps a).length + (sps b).length) := fits_of (by rw [sps_len, sps_len]; omega)
  unfold addD
  simp only [asI, asS, both, itemsT, itl_cell h, show itemsL CS (.lst (sps a)) = some (sps a) from rfl, if_pos f, sps_app]
/-- a cell of specs to commands -/
theorem done_cell {CS : List Cell} {p : Nat} {V : List Cm} (hp : CS[p]? = some (.lst (sps V))) (hV : V.length ≤ 100) (e0 e1 e2 e3 e4 e5 e6 e7 e8 e10 : Option D) :
    ce_law_bound_right_4 [e0, e1, e2, e3, e4, e5, e6, e7, e8, some (.cell p), e10] CS = .ok (.lst (obs V)) CS := by
  unfold ce_law_bound_right_4 obs
  refine lc_map (chk := fun cs => cs[p]? = some (.lst (sps V))) V Cm.sp Cm.ob ?_ (fun acc => app_get hp) (by omega) (fun x hx acc => ⟨_, rfl, ?_⟩) (ltL_map fun x hx => lt_ob x _)
  · simp [itL, dVar, Out.bind, hp]; rfl
  · show ce_law_bound_right_3 [e0, e1, e2, e3, e4, e5, e6, e7, some x.sp, some (.cell p), e10] _ = _
    unfold ce_law_bound_right_3
    simp [dFn, dCons, dNil, dVar, Out.bind, F_done]
theorem parts_ok {l : Nat} {CS : List Cell} {h b t : List Cm} (g0 : CS[l + 1]? = some (.lst (sps h))) (g1 : CS[l + 1 + 1]? = some (.lst (sps b))) (g2 : CS[l + 1 + 1 + 1]? = some (.lst (sps t))) (lh : h.length + b.length + t.length ≤ 100) (e0 e1 e2 e3 e5 e6 e7 e8 e9 e10 : Option D) :
    dLcC [9] (itL (dVar 4)) (gNm 9) pYes ce_law_bound_right_4 [e0, e1, e2, e3, some (three3 l), e5, e6, e7, e8, e9, e10] CS = .ok (.cell CS.length) (CS ++ [.lst [.lst (obs h), .lst (obs b), .lst (obs t)]]) := by
  have e := lcL_map (chk := noChk) (g := gNm 9) (h := ce_law_bound_right_4) (env := [e0, e1, e2, e3, some (three3 l), e5, e6, e7, e8, none, e10]) (cs := CS) (en := fun p : Nat × List Cm => .cell p.1) (ψ := fun p : Nat × List Cm => .lst (obs p.2)) [(l + 1, h), (l + 1 + 1, b), (l + 1 + 1 + 1, t)] [] (fun _ => trivial) (by simp) (fun x hx acc => by
    refine ⟨_, rfl, ?_⟩
    show ce_law_bound_right_4 [e0, e1, e2, e3, some (three3 l), e5, e6, e7, e8, some (.cell x.1), e10] _ = _
    simp only [List.mem_cons, List.not_mem_nil, or_false] at hx
    rcases hx with r | r | r <;> subst r
    · exact done_cell (app_get g0) (by omega) _ _ _ _ _ _ _ _ _ _
    · exact done_cell (app_get g1) (by omega) _ _ _ _ _ _ _ _ _ _
    · exact done_cell (app_get g2) (by omega) _ _ _ _ _ _ _ _ _ _)
  change lcL noChk (gNm 9) pYes ce_law_bound_right_4 CS.length [e0, e1, e2, e3, some (three3 l), e5, e6, e7, e8, none, e10] [.cell (l + 1), .cell (l + 1 + 1), .cell (l + 1 + 1 + 1)] (CS ++ [.lst []]) = .ok () (CS ++ [.lst [.lst (obs h), .lst (obs b), .lst (obs t)]]) at e
  unfold dLcC
  have ei : itL (dVar 4) [e0, e1, e2, e3, some (three3 l), e5, e6, e7, e8, e9, e10] CS = .ok ⟨[.cell (l + 1), .cell (l + 1 + 1), .cell (l + 1 + 1 + 1)], noChk⟩ CS := rfl
  simp only [ei, Out.bind, show wipeE [e0, e1, e2, e3, some (three3 l), e5, e6, e7, e8, e9, e10] [9] = [e0, e1, e2, e3, some (three3 l), e5, e6, e7, e8, none, e10] from rfl, e]
theorem ne_int (a : Int) (cs : List Cell) : neC false 20 (.int a) (.int a) cs = .ok (.bl false) cs := by
  unfold neC
  simp [resL, D.okE, eqD, asI, asB]
theorem due_loop {xs : List Int} {h b t : List Cm} (G : Giv xs h b t) {l M : Nat} {CS : List Cell} (g0 : CS[l + 1]? = some (.lst (sps h))) (g1 : CS[l + 1 + 1]? = some (.lst (sps b))) (g2 : CS[l + 1 + 1 + 1]? = some (.lst (sps t))) (g3 : CS[M]? = some (.lst [.lst (obs h), .lst (obs b), .lst (obs t)])) (e0 e3 e7 e8 e9 : Option D) :
    ∀ (ts : List Nat) (e6 e10 : Option D), (∀ x ∈ ts, x ≤ 40) → ∃ f6 f10, forL noChk (gNm 6) lb_law_bound_right_5 (ts.map fun (x : Nat) => D.int (x : Int)) [e0, some (.lst (ilist xs)), some (memD xs), e3, some (three3 l), some (.cell M), e6, e7, e8, e9, e10] CS
      = .nx [e0, some (.lst (ilist xs)), some (memD xs), e3, some (three3 l), some (.cell M), f6, e7, e8, e9, f10] CS
  | [], e6, e10, _ => ⟨e6, e10, forL_nil trivial⟩
  | x :: ts, e6, e10, hx => by
    have x40 := hx x List.mem_cons_self
    have mny := G.many
    obtain ⟨f6, f10, ih⟩ := due_loop G g0 g1 g2 g3 e0 e3 e7 e8 e9 ts (some (.int (x : Int))) (some (.int (fcn xs.length h b t x))) fun y hy => hx y (List.mem_cons_of_mem _ hy)
    have hlen := G.len x x40
    rw [List.length_append, List.length_append] at hlen
    have m1 := mulC g1 x (by omega) (by omega)
    have a1 := addCL g0 (b := rep x b) (by omega)
    have a2 := addLC g2 (a := h ++ rep x b) (by rw [List.length_append]; omega)
    have fn := F_number xs (h ++ rep x b ++ t) CS G.l1 G.l6 (G.len x x40) (G.at_ x)
    rw [show cnt xs.length (h ++ rep x b ++ t) = fcn xs.length h b t x from rfl] at fn
    have fr := F_repeated G x (by omega) CS
    have x0 : ixD (.cell M) (.int 0) CS = .ok (.lst (obs h)) CS := by simp [ixD, asI, itemsS, itemsL, g3, L2.atI, L2.ixN]
    have x1 : ixD (.cell M) (.int 1) CS = .ok (.lst (obs b)) CS := by simp [ixD, asI, itemsS, itemsL, g3, L2.atI, L2.ixN]
    have x2 : ixD (.cell M) (.int 2) CS = .ok (.lst (obs t)) CS := by simp [ixD, asI, itemsS, itemsL, g3, L2.atI, L2.ixN]
    refine ⟨f6, f10, (forL_step (r := ts.map fun (x : Nat) => D.int (x : Int)) trivial rfl ?_).trans ih⟩
    show lb_law_bound_right_5 [e0, some (.lst (ilist xs)), some (memD xs), e3, some (three3 l), some (.cell M), some (.int (x : Int)), e7, e8, e9, e10] CS = _
    unfold lb_law_bound_right_5
    simp only [sSeq, sSet, sIf, sNil, qB, dFn, d2, dCons, dNil, dVar, dC, Out.bind, Out.bindS, List.getElem?_cons_zero, List.getElem?_cons_succ, List.set_cons_zero, List.set_cons_succ, t3_0, t3_1, t3_2, m1, a1, a2, fn, x0, x1, x2, fr, ne_int, asB, qTru, Bool.false_eq_true, if_false]
theorem bound_ok {xs : List Int} (h1 : 1 ≤ xs.length) (h6 : xs.length ≤ 6) {h b t : List Cm} (lh : h.length ≤ 6) (lb : b.length ≤ 6) (lt : t.length ≤ 6) (oh : ∀ c ∈ h, c.ok xs) (ob : ∀ c ∈ b, c.ok xs) (ot : ∀ c ∈ t, c.ok xs) {n : Nat} {cs : List Cell} {c : Cell} (hc : cs[n]? = some c) (hs : isS c) :
    ∃ c', isS c' ∧ F_law_bound_right [.cell n, .lst (ilist xs), memD xs, .lst [.lst (sps h), .lst (sps b), .lst (sps t)]] cs = .ok (.bl true) (cs.set n c') := by
  have hn := live_len hc
  have hl : ∀ c, (cs.set n c).length = cs.length := fun c => List.length_set
  -- the copies
  have e1 : dLc [9] (itL (dVar 3)) (gNm 9) pYes ce_law_bound_right_0 [some (.cell n), some (.lst (ilist xs)), some (memD xs), some (.lst [.lst (sps h), .lst (sps b), .lst (sps t)]), none, none, none, none, none, none, none] cs = .ok (three3 cs.length) (cs ++ Q3 h b t) := by
    have e := lc3 (i := 9) (hh := ce_law_bound_right_0) (env := [some (.cell n), some (.lst (ilist xs)), some (memD xs), some (.lst [.lst (sps h), .lst (sps b), .lst (sps t)]), none, none, none, none, none, none, none]) (B := cs) (sps h) (sps b) (sps t) (fun w cs => rfl)
    have lt' : D.lt cs.length (D.lst [.cell (cs.length + 1), .cell (cs.length + 1 + 1), .cell (cs.length + 1 + 1 + 1)]) = false := by simp [D.lt, D.ltL]; intros; omega
    unfold dLc dTr dFrz dLcC
    simp only [itL, dVar, Out.bind, List.getElem?_cons_zero, List.getElem?_cons_succ, wipeE, List.set_cons_zero, List.set_cons_succ, e, g0, s0, List.getElem?_cons_zero, List.set_cons_zero, lt', trim_no]
    rfl
  rw [show cs ++ Q3 h b t = cs.set n c ++ Q3 h b t by rw [set_self hc]] at e1
  obtain ⟨m, hm⟩ : ∃ m, h.length + b.length + t.length + m = 20 := ⟨20 - (h.length + b.length + t.length), by omega⟩
  obtain ⟨h', b', t', c1, f8, f9, s1, hs', oh', ob', ot', ew⟩ := bound_loop h1 h6 hn (some (memD xs)) (some (.lst [.lst (sps h), .lst (sps b), .lst (sps t)])) none none none none m h b t c none none hm oh ob ot hs
  have ew2 := sWhile_of _ ew (fun z => nomatch z)
  have G : Giv xs h' b' t' := ⟨h1, h6, by omega, oh', ob', ot'⟩
  have g0' := q3_0 (B := fun c => cs.set n c) hl h' b' t'
  have g1' := q3_1 (B := fun c => cs.set n c) hl h' b' t'
  have g2' := q3_2 (B := fun c => cs.set n c) hl h' b' t'
  have ep := parts_ok (g0' c1) (g1' c1) (g2' c1) (by omega) (some (.cell n)) (some (.lst (ilist xs))) (some (memD xs)) (some (.lst [.lst (sps h), .lst (sps b), .lst (sps t)])) none none none f8 f9 none
  obtain ⟨M, hM⟩ : ∃ M, ∀ c, (cs.set n c ++ Q3 h' b' t').length = M := ⟨cs.length + 4, fun c => by simp [Q3]⟩
  rw [hM] at ep
  have g3 : ∀ c z, (cs.set n c ++ Q3 h' b' t' ++ [z])[M]? = some z := fun c z => gAn (k := 0) (hM c)
  have s3 : ∀ c z z', (cs.set n c ++ Q3 h' b' t' ++ [z]).set M z' = cs.set n c ++ Q3 h' b' t' ++ [z'] := fun c z z' => sAn (k := 0) (hM c)
  obtain ⟨f6, f10, ed⟩ := due_loop G (app_get (g0' c1)) (app_get (g1' c1)) (app_get (g2' c1)) (g3 c1 (.lst [.lst (obs h'), .lst (obs b'), .lst (obs t')])) (some (.cell n)) (some (.lst [.lst (sps h), .lst (sps b), .lst (sps t)])) none f8 f9 [0, 1, 2, 5] none none (by simp)
  change forL noChk (gNm 6) lb_law_bound_right_5 [.int 0, .int 1, .int 2, .int 5] _ _ = _ at ed
  obtain ⟨a, c2, s2, a0, a3', ea⟩ := drawJ (J := Q3 h' b' t' ++ [.lst [.lst (obs h'), .lst (obs b'), .lst (obs t')]]) hn s1 3 (by decide) (by decide)
  rw [← List.append_assoc, ← List.append_assoc] at ea
  have f1 : fits 1 := fits_of (by omega)
  have f2 : fits 2 := fits_of (by omega)
  have f4 : fits 4 := fits_of (by omega)
  -- the one more
  obtain ⟨V, P0, P1, P2, hx, hV, hset, hlen⟩ : ∃ (V P0 P1 P2 : List D), (∀ c, ixD (.cell M) (.int a) (cs.set n c ++ Q3 h' b' t' ++ [.lst [.lst (obs h'), .lst (obs b'), .lst (obs t')]]) = .ok (.lst V) (cs.set n c ++ Q3 h' b' t' ++ [.lst [.lst (obs h'), .lst (obs b'), .lst (obs t')]])) ∧ V.length ≤ 20 ∧
      (∃ j, L2.ixN 3 a = some j ∧ ([D.lst (obs h'), .lst (obs b'), .lst (obs t')].set j (.lst (V ++ [.obj 11 []])) = [.lst P0, .lst P1, .lst P2])) ∧ (P0.length : Int) + P1.length + P2.length = 21 := by
    have ix : ∀ c, itemsS (cs.set n c ++ Q3 h' b' t' ++ [Cell.lst [.lst (obs h'), .lst (obs b'), .lst (obs t')]]) (.cell M) = some [.lst (obs h'), .lst (obs b'), .lst (obs t')] := fun c => by simp only [itemsS, itemsL, g3]
    obtain e | e | e : a = 0 ∨ a = 1 ∨ a = 2 := by omega
    · subst e
      exact ⟨obs h', obs h' ++ [.obj 11 []], obs b', obs t', fun c => by unfold ixD; simp only [asI, ix]; rfl, by rw [obs_len]; omega, ⟨0, by decide, rfl⟩, by simp [obs_len]; omega⟩
    · subst e
      exact ⟨obs b', obs h', obs b' ++ [.obj 11 []], obs t', fun c => by unfold ixD; simp only [asI, ix]; rfl, by rw [obs_len]; omega, ⟨1, by decide, rfl⟩, by simp [obs_len]; omega⟩
    · subst e
      exact ⟨obs t', obs h', obs b', obs t' ++ [.obj 11 []], fun c => by unfold ixD; simp only [asI, ix]; rfl, by rw [obs_len]; omega, ⟨2, by decide, rfl⟩, by simp [obs_len]; omega⟩
  obtain ⟨j, hj, hset⟩ := hset
  have ha : ∀ cs, addD (.lst V) (.lst [.obj 11 []]) cs = .ok (.lst (V ++ [.obj 11 []])) cs := fun cs => by
    have f : fits (V.length + [D.obj 11 []].length) := fits_of (by simp; omega)
    unfold addD
    simp only [both, asI, asS, itemsT, itemsL, if_pos f]
  have ht : dLam 2 H_law_error g_law_error lm_law_bound_right_6 [some (.cell n), some (.lst (ilist xs)), some (memD xs), some (.lst [.lst (sps h), .lst (sps b), .lst (sps t)]), some (three3 cs.length), some (.cell M), f6, some (.int a), f8, f9, f10] (cs.set n c2 ++ Q3 h' b' t' ++ [.lst [.lst P0, .lst P1, .lst P2]]) = .ok (.tup [.str "commands", .int 21]) (cs.set n c2 ++ Q3 h' b' t' ++ [.lst [.lst P0, .lst P1, .lst P2]]) := by
    refine told_bc ?_
    have x0 : ixD (.cell M) (.int 0) (cs.set n c2 ++ Q3 h' b' t' ++ [.lst [.lst P0, .lst P1, .lst P2]]) = .ok (.lst P0) (cs.set n c2 ++ Q3 h' b' t' ++ [.lst [.lst P0, .lst P1, .lst P2]]) := by unfold ixD; simp only [asI, itemsS, itemsL, g3]; rfl
    have x1 : ixD (.cell M) (.int 1) (cs.set n c2 ++ Q3 h' b' t' ++ [.lst [.lst P0, .lst P1, .lst P2]]) = .ok (.lst P1) (cs.set n c2 ++ Q3 h' b' t' ++ [.lst [.lst P0, .lst P1, .lst P2]]) := by unfold ixD; simp only [asI, itemsS, itemsL, g3]; rfl
    have x2 : ixD (.cell M) (.int 2) (cs.set n c2 ++ Q3 h' b' t' ++ [.lst [.lst P0, .lst P1, .lst P2]]) = .ok (.lst P2) (cs.set n c2 ++ Q3 h' b' t' ++ [.lst [.lst P0, .lst P1, .lst P2]]) := by unfold ixD; simp only [asI, itemsS, itemsL, g3]; rfl
    unfold lm_law_bound_right_6
    simp only [dFn, dCons, dNil, dVar, dC, d2, Out.bind, List.getElem?_cons_zero, List.getElem?_cons_succ, x0, x1, x2]
    exact rep_many _ _ _ _ _ _ 21 hlen (by decide) (by decide)
  refine ⟨c2, s2, ?_⟩
  unfold F_law_bound_right b_law_bound_right
  simp only [mkF, finS, env0, sSeq, sSet, sRet, sFor, sAsg, gIx, itT, List.length_cons, List.length_nil, List.map_cons, List.map_nil, List.cons_append, List.nil_append, List.replicate_succ, List.replicate_zero, Nat.reduceAdd, Nat.reduceSub, if_true, Out.bind, Out.bindS, List.set_cons_zero, List.set_cons_succ, e1, ew2, ep, dTup, dCons, dNil, dC, if_pos f4, ed, dFn, dVar, List.getElem?_cons_zero, List.getElem?_cons_succ, ea, d2, hx, dLst, if_pos f1, ha, asI, g3, hj, hset, s3, ht, if_pos f2, eq_tup]
  rw [show D.lt cs.length (.bl true) = true from rfl, List.append_assoc, trim_gen (by simp) fun i x q => ?_]
  by_cases hi : n = i
  · subst hi
    rw [List.getElem?_set_self hn] at q; cases q
    exact .inr (isS_lt s2 _)
  · rw [List.getElem?_set_ne hi] at q
    exact .inl q
end K51
end

section
set_option Elab.async false
set_option linter.all false
set_option maxRecDepth 100000
namespace K51
open PySem L2 DL Pol
/-! ### a program -/
theorem boxes_tup (xs : List Int) (r : List Cm) (cs : List Cell) (h1 : 1 ≤ xs.length) (hb : xs.length ≤ 6) (hr : r.length ≤ 900) (h : ∀ c ∈ r, c.at_ xs.length) :
    F_boxes_of [memD xs, .tup (obs r)] cs = .ok (.lst (allbx xs.length r)) cs := by
  have e1 := fun cs => F_zeros xs cs h1 hb
  have e2 : mkO od 16 F_Box_init [.int 0, .tup (ilist (zer xs.length)), .tup (ilist (zer xs.length))] cs = .ok (bx 0 (zer xs.length, zer xs.length)) cs := by
    refine F_Box _ _ _ (ilist (zer xs.length)) (ilist (zer xs.length)) _ (fun c => ?_) (fun c => ?_) (ltL_il _) (ltL_il _)
    · simp [tupleD, itemsS, itemsL, itemsT]
    · simp [tupleD, itemsS, itemsL, itemsT]
  have e3 := F_Counter xs (cs ++ [.lst [bx 0 (zer xs.length, zer xs.length)]]) h1 hb
  obtain ⟨m', f', s', junk', e4', e5', e6', e⟩ := bx_loop xs.length (by omega) cs r 0 (zer xs.length) (zer xs.length) (zer xs.length) [bx 0 (zer xs.length, zer xs.length)] [] (some (memD xs)) (some (.tup (obs r))) none none none zer_len zer_len zer_len h (by simp; omega)
  have n2 : (cs ++ [Cell.lst [bx 0 (zer xs.length, zer xs.length)]]).length = cs.length + 1 := by simp
  rw [n2] at e3
  unfold ctr at e
  have hl : D.ltL cs.length (bx 0 (zer xs.length, zer xs.length) :: bxs r 0 (zer xs.length) (zer xs.length) (zer xs.length)) = true := by
    show (D.lt _ (bx _ _) && D.ltL _ _) = true
    rw [lt_bx, ltL_bxs]; rfl
  unfold F_boxes_of b_boxes_of allbx
  unfold memD at e1 e3 e ⊢
  simp at e e3
  simp [mkF, finS, env0, sSeq, sNil, sIf, sSet, sAsg, sExpr, sRet, sRetN, sPass, sNo, sPar, sPar3, sFor, Out.bind, Out.bindS, dVar, dC, d1, d2, dNil, dCons, dTup, dLst, dLstC, dCall, dFn, dIf, dML, dSl, oNone, oSome, dFrz, qB, qNot, qAnd, qOr, qTru, eNot, eAnd, eOr, gNm, gTupD, gsCons, gsNil, gIx, addD, subD, mulD, fdivD, modD, powD, negD, ltD, leD, gtD, geD, cmpD, chainD, both, asI, asS, asB, intX, lenD, tupleD, listD, listC, absD, max2D, min2D, itemsL, itemsT, itemsS, ixD, getD, atK, isC, isNonD, List.length_cons, List.length_nil, List.map_cons, List.map_nil, List.getElem?_cons_zero, List.getElem?_cons_succ, List.set_cons_zero, List.set_cons_succ, List.cons_append, List.nil_append, List.replicate_succ, List.replicate_zero, if_true, if_false, reduceIte, decide_eq_true_eq, L2.atI, L2.ixN, lenD1, itL, itT, itA, itS, itR1, itR2, itEn, itEnA, itZ, sFldD, DL.putK, end_get, end_set, List.mem_cons, List.not_mem_nil, or_false, false_or, or_true, true_or, D.lt, D.ltL, Bool.and_true, Bool.true_and, trim_app, gA, g0, sA, s0, List.append_assoc, List.length_append, trim_len, fits_of, fitsL_of, in63_of, in63F_of, in62_of, lo63_of, hi63_of, hi63F_of, few_of, le640_of, dMth, clsOf, lk_zeros_7, od, e1, e2, e3, e, lt_bx, ltL_bxs]
def progD (xs : List Int) (r : List Cm) : D := .obj 12 [memD xs, .tup (obs r)]
theorem F_boxes_prog (xs : List Int) (r : List Cm) (cs : List Cell) (h1 : 1 ≤ xs.length) (hb : xs.length ≤ 6) (hr : r.length ≤ 900) (h : ∀ c ∈ r, c.at_ xs.length) : F_boxes [progD xs r] cs = .ok (.lst (allbx xs.length r)) cs := by
  have e := boxes_tup xs r cs h1 hb hr h
  unfold F_boxes b_boxes progD
  simp [mkF, finS, env0, sSeq, sNil, sIf, sSet, sAsg, sExpr, sRet, sRetN, sPass, sNo, sPar, sPar3, sFor, Out.bind, Out.bindS, dVar, dC, d1, d2, dNil, dCons, dTup, dLst, dLstC, dCall, dFn, dIf, dML, dSl, oNone, oSome, dFrz, qB, qNot, qAnd, qOr, qTru, eNot, eAnd, eOr, gNm, gTupD, gsCons, gsNil, gIx, addD, subD, mulD, fdivD, modD, powD, negD, ltD, leD, gtD, geD, cmpD, chainD, both, asI, asS, asB, intX, lenD, tupleD, listD, listC, absD, max2D, min2D, itemsL, itemsT, itemsS, ixD, getD, atK, isC, isNonD, List.length_cons, List.length_nil, List.map_cons, List.map_nil, List.getElem?_cons_zero, List.getElem?_cons_succ, List.set_cons_zero, List.set_cons_succ, List.cons_append, List.nil_append, List.replicate_succ, List.replicate_zero, if_true, if_false, reduceIte, decide_eq_true_eq, L2.atI, L2.ixN, lenD1, itL, itT, itA, itS, itR1, itR2, itEn, itEnA, itZ, sFldD, DL.putK, end_get, end_set, List.mem_cons, List.not_mem_nil, or_false, false_or, or_true, true_or, D.lt, D.ltL, Bool.and_true, Bool.true_and, trim_app, gA, g0, sA, s0, List.append_assoc, List.length_append, trim_len, fits_of, fitsL_of, in63_of, in63F_of, in62_of, lo63_of, hi63_of, hi63F_of, few_of, le640_of, od, e, trim_len]
theorem count_prog (xs : List Int) (r : List Cm) (cs : List Cell) (h1 : 1 ≤ xs.length) (hb : xs.length ≤ 6) (hr : r.length ≤ 900) (h : ∀ c ∈ r, c.at_ xs.length) :
    F_count [progD xs r] cs = .ok (.int (cnt xs.length r)) cs := by
  have e0 := F_boxes_prog xs r cs h1 hb hr h
  let L := xs.length
  let qs : List (Int × Sp2) := (0, (zer L, zer L)) :: tsp r 0 (zer L) (zer L) (zer L)
  have eq : allbx xs.length r = qs.map bq := by
    show bx 0 _ :: bxs r 0 _ _ _ = bx 0 _ :: _
    rw [bxs_map]
  have hq : ∀ q ∈ qs, bd 900 q.2.1 ∧ bd 900 q.2.2 := fun q hq => by
    rcases List.mem_cons.mp hq with z | z
    · subst z
      exact ⟨bd_mono (bd_zer _) (by omega), bd_mono (bd_zer _) (by omega)⟩
    · obtain ⟨a, b⟩ := tsp_bd r 0 (zer L) (zer L) (zer L) 0 (Int.le_refl _) (bd_zer _) (bd_zer _) (bd_zer _) q z
      exact ⟨bd_mono a (by omega), bd_mono b (by omega)⟩
  have ec : dLc [1] (itL (dFn F_boxes (dCons (dVar 0) dNil))) (gNm 1) pYes ce_count_0 [some (progD xs r), none] cs = .ok (.lst (qs.map fun q => .int (prd 1 q.2.1 q.2.2))) cs := by
    refine lc_map (chk := noChk) qs bq _ ?_ (fun _ => trivial) ?_ (fun q z acc => ⟨_, rfl, ?_⟩) (ltL_map fun _ _ => rfl)
    · simp [itL, dFn, dCons, dNil, dVar, Out.bind, e0, eq]
    · have := tsp_len r 0 (zer L) (zer L) (zer L)
      show (tsp _ _ _ _ _).length + 1 ≤ _
      omega
    · have e2 := F_size 900 (by decide) q.1 q.2 (cs ++ [.lst acc]) (hq q z).1 (hq q z).2
      have e3 : bx q.1 q.2 = .obj 16 [.int q.1, .tup (ilist q.2.1), .tup (ilist q.2.2)] := rfl
      rw [e3] at e2
      show ce_count_0 [_, some (bx q.1 q.2)] _ = _
      rw [e3]
      simp [ce_count_0, mkF, finS, env0, sSeq, sNil, sIf, sSet, sAsg, sExpr, sRet, sRetN, sPass, sNo, sPar, sPar3, sFor, Out.bind, Out.bindS, dVar, dC, d1, d2, dNil, dCons, dTup, dLst, dLstC, dCall, dFn, dIf, dML, dSl, oNone, oSome, dFrz, qB, qNot, qAnd, qOr, qTru, eNot, eAnd, eOr, gNm, gTupD, gsCons, gsNil, gIx, addD, subD, mulD, fdivD, modD, powD, negD, ltD, leD, gtD, geD, cmpD, chainD, both, asI, asS, asB, intX, lenD, tupleD, listD, listC, absD, max2D, min2D, itemsL, itemsT, itemsS, ixD, getD, atK, isC, isNonD, List.length_cons, List.length_nil, List.map_cons, List.map_nil, List.getElem?_cons_zero, List.getElem?_cons_succ, List.set_cons_zero, List.set_cons_succ, List.cons_append, List.nil_append, List.replicate_succ, List.replicate_zero, if_true, if_false, reduceIte, decide_eq_true_eq, L2.atI, L2.ixN, lenD1, itL, itT, itA, itS, itR1, itR2, itEn, itEnA, itZ, sFldD, DL.putK, end_get, end_set, List.mem_cons, List.not_mem_nil, or_false, false_or, or_true, true_or, D.lt, D.ltL, Bool.and_true, Bool.true_and, trim_app, gA, g0, sA, s0, List.append_assoc, List.length_append, trim_len, fits_of, fitsL_of, in63_of, in63F_of, in62_of, lo63_of, hi63_of, hi63F_of, few_of, le640_of, dMth, clsOf, lk_size_16, od, e2]
  have es : (qs.map fun q => prd 1 q.2.1 q.2.2).sum = cnt xs.length r := by
    unfold cnt
    rw [← tsp_spans r 0]
    show ((_ :: _).map _).sum = ((_ :: _).map _).sum
    simp [Function.comp_def]
    rfl
  have ei : intsD (qs.map fun q => D.int (prd 1 q.2.1 q.2.2)) = some (qs.map fun q => prd 1 q.2.1 q.2.2) := intsD_map (fun q : Int × Sp2 => prd 1 q.2.1 q.2.2) qs
  unfold F_count b_count
  simp only [mkF, finS, env0, sRet, dCall, dCons, dNil, List.length_cons, List.length_nil, List.map_cons, List.map_nil, List.cons_append, List.nil_append, List.replicate_succ, List.replicate_zero, Nat.reduceAdd, Nat.reduceSub, if_true, ec, Out.bind, Out.bindS, sumD, itemsL, Option.bind, ei, es, trim_self]
end K51
end

section
set_option Elab.async false
set_option linter.all false
set_option maxRecDepth 100000
namespace K51
open PySem L2 DL Pol
theorem chk_tup (xs : List Int) (r : List Cm) (cs : List Cell) (hb : xs.length ≤ 6) (h : ∀ c ∈ r, c.ok xs) : F_check_commands [memD xs, .tup (obs r)] cs = .ok .non cs := by
  obtain ⟨o', e⟩ := chk_loop xs hb r none (some (.tup (obs r))) cs noChk trivial h
  unfold F_check_commands b_check_commands
  simp [mkF, finS, env0, sSeq, sNil, sIf, sSet, sAsg, sExpr, sRet, sRetN, sPass, sNo, sPar, sPar3, sFor, Out.bind, Out.bindS, dVar, dC, d1, d2, dNil, dCons, dTup, dLst, dLstC, dCall, dFn, dIf, dML, dSl, oNone, oSome, dFrz, qB, qNot, qAnd, qOr, qTru, eNot, eAnd, eOr, gNm, gTupD, gsCons, gsNil, gIx, addD, subD, mulD, fdivD, modD, powD, negD, ltD, leD, gtD, geD, cmpD, chainD, both, asI, asS, asB, intX, lenD, tupleD, listD, listC, absD, max2D, min2D, itemsL, itemsT, itemsS, ixD, getD, atK, isC, isNonD, List.length_cons, List.length_nil, List.map_cons, List.map_nil, List.getElem?_cons_zero, List.getElem?_cons_succ, List.set_cons_zero, List.set_cons_succ, List.cons_append, List.nil_append, List.replicate_succ, List.replicate_zero, if_true, if_false, reduceIte, decide_eq_true_eq, L2.atI, L2.ixN, lenD1, itL, itT, itA, itS, itR1, itR2, itEn, itEnA, itZ, sFldD, DL.putK, end_get, end_set, List.mem_cons, List.not_mem_nil, or_false, false_or, or_true, true_or, D.lt, D.ltL, Bool.and_true, Bool.true_and, trim_app, gA, g0, sA, s0, List.append_assoc, List.length_append, trim_len, fits_of, fitsL_of, in63_of, in63F_of, in62_of, lo63_of, hi63_of, hi63F_of, few_of, le640_of, e]
theorem F_program (xs : List Int) (r : List Cm) (cs : List Cell) (hb : xs.length ≤ 6) (hr : r.length ≤ 200) (h : ∀ c ∈ r, c.ok xs) : mkO od 12 F_Program_init [memD xs, .lst (obs r)] cs = .ok (progD xs r) cs := by
  have e := fun cs => chk_tup xs r cs hb h
  have f : fits r.length := fits_of (by omega)
  have hr2 : ¬ ((200 : Int) < r.length) := by omega
  unfold mkO F_Program_init b_Program_init progD
  unfold memD at e ⊢
  simp [mkF, finS, env0, sSeq, sNil, sIf, sSet, sAsg, sExpr, sRet, sRetN, sPass, sNo, sPar, sPar3, sFor, Out.bind, Out.bindS, dVar, dC, d1, d2, dNil, dCons, dTup, dLst, dLstC, dCall, dFn, dIf, dML, dSl, oNone, oSome, dFrz, qB, qNot, qAnd, qOr, qTru, eNot, eAnd, eOr, gNm, gTupD, gsCons, gsNil, gIx, addD, subD, mulD, fdivD, modD, powD, negD, ltD, leD, gtD, geD, cmpD, chainD, both, asI, asS, asB, intX, lenD, tupleD, listD, listC, absD, max2D, min2D, itemsL, itemsT, itemsS, ixD, getD, atK, isC, isNonD, List.length_cons, List.length_nil, List.map_cons, List.map_nil, List.getElem?_cons_zero, List.getElem?_cons_succ, List.set_cons_zero, List.set_cons_succ, List.cons_append, List.nil_append, List.replicate_succ, List.replicate_zero, if_true, if_false, reduceIte, decide_eq_true_eq, L2.atI, L2.ixN, lenD1, itL, itT, itA, itS, itR1, itR2, itEn, itEnA, itZ, sFldD, DL.putK, end_get, end_set, List.mem_cons, List.not_mem_nil, or_false, false_or, or_true, true_or, D.lt, D.ltL, Bool.and_true, Bool.true_and, trim_app, gA, g0, sA, s0, List.append_assoc, List.length_append, trim_len, fits_of, fitsL_of, in63_of, in63F_of, in62_of, lo63_of, hi63_of, hi63F_of, few_of, le640_of, od, obs_len, f, hr2, e, ltL_il, ltL_obs]
theorem add_sps (a b : List Cm) (cs : List Cell) (h : a.length + b.length ≤ 900) : addD (.lst (sps a)) (.lst (sps b)) cs = .ok (.lst (sps (a ++ b))) cs := by
  have f : fits ((sps a).length + (sps b).length) := fits_of (by rw [sps_len, sps_len]; omega)
  unfold addD
  simp only [both, asI, asS, itemsT, itemsL, if_pos f, sps_app]
theorem add_obs (a b : List Cm) (cs : List Cell) (h : a.length + b.length ≤ 900) : addD (.lst (obs a)) (.lst (obs b)) cs = .ok (.lst (obs (a ++ b))) cs := by
  have f : fits ((obs a).length + (obs b).length) := fits_of (by rw [obs_len, obs_len]; omega)
  unfold addD
  simp only [both, asI, asS, itemsT, itemsL, if_pos f, obs_app]
theorem mulD_spsL (b : List Cm) (t : Nat) (cs : List Cell) (h : b.length ≤ 100) (ht : t ≤ 1000) : mulD (.lst (sps b)) (.int (t : Int)) cs = .ok (.lst (sps (rep t b))) cs := by
  have h0 : b.length * t ≤ 100000 := Nat.mul_le_mul h ht
  unfold mulD both itemsL itemsT asI
  simp only []
  rw [if_pos (in63F_of (by omega) (by omega) (by rw [sps_len]; simpa using (by omega : b.length * t ≤ 1000000)))]
  simp [sps_rep]
def spsP (h b t : List Cm) : D := .lst [.lst (sps h), .lst (sps b), .lst (sps t)]
def obsP (h b t : List Cm) : D := .lst [.lst (obs h), .lst (obs b), .lst (obs t)]
theorem turns_law {xs : List Int} {h b t : List Cm} (G : Giv xs h b t) (e0 e1 e2 e10 e11 e12 : Option D) (cs : List Cell) : ∀ (ts : List Int) (e7 e8 e9 : Option D), (∀ y ∈ ts, 0 ≤ y ∧ y ≤ 12) →
    ∃ f7 f8 f9, forL noChk (gNm 7) lb_law_3 (ilist ts) [e0, e1, e2, some (.lst (ilist xs)), some (memD xs), some (spsP h b t), some (obsP h b t), e7, e8, e9, e10, e11, e12] cs
      = .nx [e0, e1, e2, some (.lst (ilist xs)), some (memD xs), some (spsP h b t), some (obsP h b t), f7, f8, f9, e10, e11, e12] cs
  | [], e7, e8, e9, _ => ⟨e7, e8, e9, forL_nil trivial⟩
  | y :: ts, e7, e8, e9, hy => by
    obtain ⟨y0, y1⟩ := hy y List.mem_cons_self
    obtain ⟨x, rfl⟩ : ∃ x : Nat, y = (x : Int) := ⟨y.toNat, by omega⟩
    obtain ⟨f7, f8, f9, ih⟩ := turns_law G e0 e1 e2 e10 e11 e12 cs ts (some (.int (x : Int))) (some (.int (fcn xs.length h b t x))) (some (.lst (obs (h ++ rep x b ++ t)))) fun z hz => hy z (List.mem_cons_of_mem _ hz)
    refine ⟨f7, f8, f9, (forL_step (r := ilist ts) (x := .int (x : Int)) trivial rfl ?_).trans ih⟩
    have mny := G.many
    have hlen := G.len x (by omega)
    have hlen2 := hlen
    rw [List.length_append, List.length_append] at hlen2
    have s0 : ∀ cs, ixD (spsP h b t) (.int 0) cs = .ok (.lst (sps h)) cs := fun _ => rfl
    have s1 : ∀ cs, ixD (spsP h b t) (.int 1) cs = .ok (.lst (sps b)) cs := fun _ => rfl
    have s2 : ∀ cs, ixD (spsP h b t) (.int 2) cs = .ok (.lst (sps t)) cs := fun _ => rfl
    have o0 : ∀ cs, ixD (obsP h b t) (.int 0) cs = .ok (.lst (obs h)) cs := fun _ => rfl
    have o1 : ∀ cs, ixD (obsP h b t) (.int 1) cs = .ok (.lst (obs b)) cs := fun _ => rfl
    have o2 : ∀ cs, ixD (obsP h b t) (.int 2) cs = .ok (.lst (obs t)) cs := fun _ => rfl
    have m1 := mulD_spsL b x cs (by omega) (by omega)
    have a1 := add_sps h (rep x b) cs (by omega)
    have a2 := add_sps (h ++ rep x b) t cs (by rw [List.length_append]; omega)
    have m3 := mulD_obs b x cs (by omega) (by omega)
    have a3 := add_obs h (rep x b) cs (by omega)
    have a4 := add_obs (h ++ rep x b) t cs (by rw [List.length_append]; omega)
    have fn := F_number xs (h ++ rep x b ++ t) cs G.l1 G.l6 hlen (G.at_ x)
    rw [show cnt xs.length (h ++ rep x b ++ t) = fcn xs.length h b t x from rfl] at fn
    have fr := F_repeated G x (by omega) cs
    have ft : F_count_repeated [memD xs, .tup (obs h), .tup (obs b), .tup (obs t), .int (x : Int)] cs = .ok (.int (fcn xs.length h b t x)) cs := by
      rw [rep_any _ _ _ _ _ (obs h) (obs b) (obs t) cs rfl rfl rfl]; exact fr
    have tp : ∀ l : List D, tupleD [.lst l] cs = .ok (.tup l) cs := fun l => by simp [tupleD, itemsS, itemsL, itemsT]
    show lb_law_3 [e0, e1, e2, some (.lst (ilist xs)), some (memD xs), some (spsP h b t), some (obsP h b t), some (.int (x : Int)), e8, e9, e10, e11, e12] cs = _
    unfold lb_law_3
    by_cases hx : x < 5
    · have hd : decide ((x : Int) < 5) = true := by simp; omega
      have ok : ∀ c ∈ h ++ rep x b ++ t, c.ok xs := fun c hc => by
        rcases List.mem_append.mp hc with z | z
        · rcases List.mem_append.mp z with z | z
          · exact G.okh c z
          · exact G.okb c (rep_mem z)
        · exact G.okt c z
      have hl2 : (h ++ rep x b ++ t).length ≤ 200 := by
        rw [List.length_append, List.length_append, rep_len]
        have : x * b.length ≤ 4 * 20 := Nat.mul_le_mul (by omega) (by omega)
        omega
      have fp := F_program xs (h ++ rep x b ++ t) cs G.l6 hl2 ok
      have fc := count_prog xs (h ++ rep x b ++ t) cs G.l1 G.l6 hlen (G.at_ x)
      rw [show cnt xs.length (h ++ rep x b ++ t) = fcn xs.length h b t x from rfl] at fc
      simp only [sSeq, sSet, sIf, sNil, qB, qAnd, dFn, dCall, d2, dCons, dNil, dVar, dC, Out.bind, Out.bindS, List.getElem?_cons_zero, List.getElem?_cons_succ, List.set_cons_zero, List.set_cons_succ, s0, s1, s2, o0, o1, o2, m1, a1, a2, m3, a3, a4, fn, fr, tp, ft, lts, hd, fp, fc, ne_int, asB, qTru, Bool.false_eq_true, if_false, if_true]
    · have hd : decide ((x : Int) < 5) = false := by simp; omega
      simp only [sSeq, sSet, sIf, sNil, qB, qAnd, dFn, dCall, d2, dCons, dNil, dVar, dC, Out.bind, Out.bindS, List.getElem?_cons_zero, List.getElem?_cons_succ, List.set_cons_zero, List.set_cons_succ, s0, s1, s2, o0, o1, o2, m1, a1, a2, m3, a3, a4, fn, fr, tp, ft, lts, hd, ne_int, asB, qTru, Bool.false_eq_true, if_false, if_true]
end K51
end

section
set_option Elab.async false
set_option linter.all false
set_option maxRecDepth 100000
namespace K51
open PySem L2 DL Pol
theorem mul_ones (r : Int) (h0 : 0 ≤ r) (h1 : r < 3) (cs : List Cell) : mulD (.lst [.int 1]) (.int r) cs = .ok (.lst (ilist (List.replicate r.toNat 1))) cs := by
  obtain h | h | h : r = 0 ∨ r = 1 ∨ r = 2 := by omega
  all_goals
    subst h
    unfold mulD both itemsL itemsT asI
    simp only []
    rw [if_pos (in63F_of (by decide) (by decide) (by decide))]
    rfl
theorem three {Q : List Cm → Prop} (ds : List D) (h : ∀ d ∈ ds, ∃ r : List Cm, d = .lst (sps r) ∧ Q r) (hl : ds.length = 3) : ∃ a b c : List Cm, ds = [.lst (sps a), .lst (sps b), .lst (sps c)] ∧ Q a ∧ Q b ∧ Q c := by
  match ds, hl with
  | [x, y, z], _ =>
    obtain ⟨a, rfl, qa⟩ := h x (by simp)
    obtain ⟨b, rfl, qb⟩ := h y (by simp)
    obtain ⟨c, rfl, qc⟩ := h z (by simp)
    exact ⟨a, b, c, rfl, qa, qb, qc⟩
theorem done_one (r : List Cm) (e0 e1 e2 e3 e4 e5 e6 e7 e8 e9 e10 e12 : Option D) (cs : List Cell) (hr : r.length ≤ 100) :
    ce_law_2 [e0, e1, e2, e3, e4, e5, e6, e7, e8, e9, e10, some (.lst (sps r)), e12] cs = .ok (.lst (obs r)) cs := by
  unfold ce_law_2 obs
  refine lc_map (chk := noChk) r Cm.sp Cm.ob ?_ (fun _ => trivial) (by omega) (fun x hx acc => ⟨_, rfl, ?_⟩) (ltL_map fun x hx => lt_ob x _)
  · simp [itL, dVar, Out.bind, itemsL]; rfl
  · show ce_law_1 [e0, e1, e2, e3, e4, e5, e6, e7, e8, e9, e10, some (.lst (sps r)), some x.sp] _ = _
    unfold ce_law_1
    simp [dFn, dCons, dNil, dVar, Out.bind, F_done]
theorem cut5 (p : List Cm) : DL.cutL (obs p) none (some (5 : Int)) = obs (p.take 5) := by
  unfold DL.cutL
  rw [show ((5 : Int)) = ((5 : Nat) : Int) from rfl, HT.sIx_nat, HT.sIx_none]
  unfold obs
  simp only [List.drop_zero, Nat.sub_zero, List.length_map]
  rw [← List.map_take]
  congr 1
  rcases Nat.le_total 5 p.length with z | z
  · rw [Nat.min_eq_left z]
  · rw [Nat.min_eq_right z, List.take_of_length_le (Nat.le_refl _), List.take_of_length_le z]
def r13 : List Int := (List.range 13).map fun (i : Nat) => (0 + (i : Int))
theorem r13_eq : rngL 0 13 = ilist r13 := by unfold rngL ilist r13; rw [List.map_map]; rfl
theorem r13_bd : ∀ y ∈ r13, 0 ≤ y ∧ y ≤ 12 := by decide
theorem round_ok (ns : List Int) (hl : ns.length ≤ 63) (hb : ∀ z ∈ ns, Builtin.Int.intBits z ≤ 1048576) (i : Nat) (e2 e3 e4 e5 e6 e7 e8 e9 : Option D) (cs : List Cell) :
    ∃ f2 f3 f4 f5 f6 f7 f8 f9 cs', lb_law_7 [some (.lst (ilist ns)), some (.int (i : Int)), e2, e3, e4, e5, e6, e7, e8, e9, none, none, none] cs = .nx [some (.lst (ilist ns)), some (.int (i : Int)), f2, f3, f4, f5, f6, f7, f8, f9, none, none, none] cs' := by
  obtain ⟨z, hz, ea⟩ := F_cell_at ns i cs hl hb
  obtain ⟨c, hs, eb⟩ := F_source z hz cs
  have g0 : (cs ++ [c])[cs.length]? = some c := end_get
  generalize cs ++ [c] = cs1 at eb g0
  generalize cs.length = n at eb g0
  have hn := live_len g0
  obtain ⟨ys, c1, s1, k1, k4, ky, e1⟩ := sizes_ok g0 hs
  obtain ⟨r, c2, s2, r0, r1, ed⟩ := draw_ok (set_get (c := c1) hn) s1 3 (by decide) (by decide)
  rw [List.set_set] at ed
  have g2 := set_get (c := c2) hn
  generalize hxs : ys ++ List.replicate r.toNat 1 = xs
  have x1 : 1 ≤ xs.length := by rw [← hxs]; simp; omega
  have x6 : xs.length ≤ 6 := by rw [← hxs]; simp; omega
  have hy : ∀ y ∈ xs, 1 ≤ y ∧ y ≤ 4 := fun y hy => by
    rw [← hxs] at hy
    rcases List.mem_append.mp hy with q | q
    · have := ky y q; omega
    · have := List.eq_of_mem_replicate q; omega
  have f1 : fits 1 := fits_of (by omega)
  have as : ∀ cs, addD (.lst (ilist ys)) (.lst (ilist (List.replicate r.toNat 1))) cs = .ok (.lst (ilist xs)) cs := fun cs => by
    have f : fits ((ilist ys).length + (ilist (List.replicate r.toNat 1)).length) := fits_of (by simp [il_len]; omega)
    unfold addD
    simp only [both, asI, asS, itemsT, itemsL, if_pos f]
    rw [← hxs]; unfold ilist; simp
  have em := F_memory xs (cs1.set n c2) x1 x6 hy
  change mkO od 7 F_Memory_init [.lst (ilist xs)] (cs1.set n c2) = .ok (memD xs) (cs1.set n c2) at em
  have mo := mul_ones r r0 r1
  have i3 : in62 3 := in62_of (by decide) (by decide)
  -- the specs
  have hn2 : n < (cs1.set n c2).length := by simpa using hn
  obtain ⟨ds, c3, s3, p1, l1, ec⟩ := lc_st (vs := [10]) (f := itR1 (dCons (dC (.int 3)) dNil)) (g := gNm 10) (h := ce_law_0) (env := [some (.lst (ilist ns)), some (.int (i : Int)), some (.cell n), some (.lst (ilist xs)), some (memD xs), e5, e6, e7, e8, e9, none, none, none])
    (P := fun d => ∃ r : List Cm, d = .lst (sps r) ∧ (r.length ≤ 6 ∧ ∀ k ∈ r, k.ok xs)) (rngL 0 3) hn2 s2
    (by rw [set_self g2]; simp [itR1, dCons, dNil, dC, Out.bind, i3]) (by rw [rngL_length]; omega) (fun x hx c acc hc => by
      obtain ⟨r, c2', k1, k2, s2, e2⟩ := specs_ok (cs := (cs1.set n c2).set n c ++ [.lst acc]) (app_get (set_get hn2)) hc xs x1 x6 hy
      rw [app_set (by simpa using hn)] at e2
      simp only [List.set_set] at e2
      refine ⟨_, .lst (sps r), c2', s2, ⟨r, rfl, k1, k2⟩, rfl, ?_⟩
      show ce_law_0 [_, _, some (.cell n), some (.lst (ilist xs)), _, _, _, _, _, _, some x, _, _] _ = _
      simp only [ce_law_0, dC, dFn, dCons, dNil, dVar, Out.bind, List.getElem?_cons_zero, List.getElem?_cons_succ, List.set_set, e2])
    (fun d ⟨r, hr, _⟩ n => by subst hr; exact ltL_map fun x _ => lt_sp x _)
  rw [List.set_set] at ec
  obtain ⟨h, b, t, rfl, ⟨qh, kh⟩, ⟨qb, kb⟩, ⟨qt, kt⟩⟩ := three ds p1 (by rw [l1, rngL_length])
  have G : Giv xs h b t := ⟨x1, x6, by omega, kh, kb, kt⟩
  -- the parts
  have ep : dLc [11] (itL (dVar 5)) (gNm 11) pYes ce_law_2 [some (.lst (ilist ns)), some (.int (i : Int)), some (.cell n), some (.lst (ilist xs)), some (memD xs), some (spsP h b t), e6, e7, e8, e9, none, none, none] (cs1.set n c3) = .ok (obsP h b t) (cs1.set n c3) := by
    refine lc_map (chk := noChk) [h, b, t] (fun r => .lst (sps r)) (fun r => .lst (obs r)) ?_ (fun _ => trivial) (by simp) (fun x hx acc => ⟨_, rfl, ?_⟩) (ltL_map fun x hx => ltL_obs x _)
    · simp [itL, dVar, Out.bind, itemsL, spsP]
    · refine done_one x _ _ _ _ _ _ _ _ _ _ _ _ _ ?_
      simp only [List.mem_cons, List.not_mem_nil, or_false] at hx
      rcases hx with r | r | r <;> subst r <;> omega
  -- the turns
  have sh : dFrz (d1 (dC (.int 13)) lRngD) = fun env cs => .ok (.lst (ilist r13)) (cs ++ [.gone]) := by
    have i13 : in62 13 := in62_of (by decide) (by decide)
    have sm : small24 13 := by unfold small24; decide
    funext env cs
    simp only [dFrz, d1, dC, Out.bind, lRngD, i13, sm, and_self, if_true, show ((13 : Int).toNat) = 13 from rfl, r13_eq, end_get, end_set]
  obtain ⟨ts, c4, s4, tl, tm, es⟩ := shuf_ok (cs := cs1.set n c3 ++ [.gone]) (app_get (set_get hn)) s3 r13 (by decide)
  rw [app_set (by simpa using hn), List.set_set] at es
  obtain ⟨f7, f8, f9, et⟩ := turns_law G (some (.lst (ilist ns))) (some (.int (i : Int))) (some (.cell n)) none none none (cs1.set n c4 ++ [.gone]) ts e7 e8 e9 fun y hy => r13_bd y (tm y hy)
  -- the lengths
  have el1 : ∀ (f7 f8 f9 : Option D) cs, dLc [10] (itL (dVar 6)) (gNm 10) pYes ce_law_4 [some (.lst (ilist ns)), some (.int (i : Int)), some (.cell n), some (.lst (ilist xs)), some (memD xs), some (spsP h b t), some (obsP h b t), f7, f8, f9, none, none, none] cs = .ok (.lst (ilist [(h.length : Int), b.length, t.length])) cs := fun f7 f8 f9 cs => by
    refine lc_map (chk := noChk) [h, b, t] (fun r => .lst (obs r)) (fun r => .int (r.length : Int)) ?_ (fun _ => trivial) (by simp) (fun x hx acc => ⟨_, rfl, ?_⟩) (ltL_map fun x hx => rfl)
    · simp [itL, dVar, Out.bind, itemsL, obsP]
    · show ce_law_4 [_, _, _, _, _, _, _, _, _, _, some (.lst (obs x)), _, _] _ = _
      simp [ce_law_4, dCall, dCons, dNil, dVar, Out.bind, lenD, lenD1, itemsS, itemsL, obs_len]
  have el2 : ∀ (f7 f8 f9 : Option D) cs, dLc [11] (itL (dVar 5)) (gNm 11) pYes ce_law_5 [some (.lst (ilist ns)), some (.int (i : Int)), some (.cell n), some (.lst (ilist xs)), some (memD xs), some (spsP h b t), some (obsP h b t), f7, f8, f9, none, none, none] cs = .ok (.lst (ilist [(h.length : Int), b.length, t.length])) cs := fun f7 f8 f9 cs => by
    refine lc_map (chk := noChk) [h, b, t] (fun r => .lst (sps r)) (fun r => .int (r.length : Int)) ?_ (fun _ => trivial) (by simp) (fun x hx acc => ⟨_, rfl, ?_⟩) (ltL_map fun x hx => rfl)
    · simp [itL, dVar, Out.bind, itemsL, spsP]
    · show ce_law_5 [_, _, _, _, _, _, _, _, _, _, _, some (.lst (sps x)), _] _ = _
      simp [ce_law_5, dCall, dCons, dNil, dVar, Out.bind, lenD, lenD1, itemsS, itemsL, sps_len]
  have ne3 : ∀ (a b c : Int) cs, neC false 20 (.lst (ilist [a, b, c])) (.lst (ilist [a, b, c])) cs = .ok (.bl false) cs := fun a b c cs => by
    have ok := okL_il (ob := false) (n := 19) [a, b, c]
    unfold neC
    simp only [resL, D.okE, ok, Bool.and_self, if_true]
    simp [ilist, eqD, eqL, asI]
  -- the first five
  have e5f : ∀ (f7 f8 f9 : Option D) cs, dLc [10] (itL (dVar 6)) (gNm 10) pYes ce_law_6 [some (.lst (ilist ns)), some (.int (i : Int)), some (.cell n), some (.lst (ilist xs)), some (memD xs), some (spsP h b t), some (obsP h b t), f7, f8, f9, none, none, none] cs = .ok (.lst [.lst (obs (h.take 5)), .lst (obs (b.take 5)), .lst (obs (t.take 5))]) cs := fun f7 f8 f9 cs => by
    refine lc_map (chk := noChk) [h, b, t] (fun r => .lst (obs r)) (fun r => .lst (obs (r.take 5))) ?_ (fun _ => trivial) (by simp) (fun x hx acc => ⟨_, rfl, ?_⟩) (ltL_map fun x hx => ltL_obs _ _)
    · simp [itL, dVar, Out.bind, itemsL, obsP]
    · show ce_law_6 [_, _, _, _, _, _, _, _, _, _, some (.lst (obs x)), _, _] _ = _
      simp [ce_law_6, dSl, oNone, oSome, dVar, dC, asI, Out.bind, sliceD, itemsL, cut5]
  have tk5 : ∀ p : List Cm, (p.take 5).length ≤ 5 := fun p => by rw [List.length_take]; omega
  obtain ⟨c5, s5, er⟩ := errors_ok (cs := cs1.set n c4 ++ [.gone]) (hc := app_get (set_get hn)) x1 x6 (tk5 h) (tk5 b) (tk5 t) (fun c hc => kh c (List.mem_of_mem_take hc)) (fun c hc => kb c (List.mem_of_mem_take hc)) (fun c hc => kt c (List.mem_of_mem_take hc)) s4
  rw [app_set (by simpa using hn), List.set_set] at er
  obtain ⟨c6, s6, eq⟩ := bound_ok (cs := cs1.set n c5 ++ [.gone]) (hc := app_get (set_get hn)) x1 x6 qh qb qt kh kb kt s5
  rw [app_set (by simpa using hn), List.set_set] at eq
  refine ⟨some (.cell n), some (.lst (ilist xs)), some (memD xs), some (spsP h b t), some (obsP h b t), f7, f8, f9, cs1.set n c6 ++ [.gone], ?_⟩
  change dLc _ _ _ _ _ _ _ = Out.ok (spsP h b t) _ at ec
  change F_law_bound_right [.cell n, .lst (ilist xs), memD xs, spsP h b t] _ = _ at eq
  have iL : ∀ cs, itemsL cs (.lst (ilist ts)) = some (ilist ts) := fun _ => rfl
  unfold lb_law_7
  rw [sh]
  simp only [sSeq, sSet, sIf, sNil, sFor, qNot, qB, qTru, asB, Out.bind, Out.bindS, dCons, dNil, dVar, dC, d2, dFn, dLst, List.length_cons, List.length_nil, Nat.reduceAdd, f1, List.getElem?_cons_zero, List.getElem?_cons_succ, List.set_cons_zero, List.set_cons_succ, ea, eb, e1, ed, mo, as, em, if_true, ec, ep]
  simp only [itL, dFn, dCons, dNil, dVar, Out.bind, Out.bindS, List.getElem?_cons_zero, List.getElem?_cons_succ, es, iL, et, el1, el2, ne3, Bool.false_eq_true, if_false, e5f, er, Bool.not_true, eq]
theorem law_loop (ns : List Int) (hl : ns.length ≤ 63) (hb : ∀ z ∈ ns, Builtin.Int.intBits z ≤ 1048576) : ∀ (k j : Nat) (e1 e2 e3 e4 e5 e6 e7 e8 e9 : Option D) (cs : List Cell),
    ∃ f1 f2 f3 f4 f5 f6 f7 f8 f9 cs', forL noChk (gNm 1) lb_law_7 (rngL (j : Int) k) [some (.lst (ilist ns)), e1, e2, e3, e4, e5, e6, e7, e8, e9, none, none, none] cs = .nx [some (.lst (ilist ns)), f1, f2, f3, f4, f5, f6, f7, f8, f9, none, none, none] cs'
  | 0, j, e1, e2, e3, e4, e5, e6, e7, e8, e9, cs => ⟨_, _, _, _, _, _, _, _, _, _, forL_nil trivial⟩
  | k + 1, j, e1, e2, e3, e4, e5, e6, e7, e8, e9, cs => by
    obtain ⟨f2, f3, f4, f5, f6, f7, f8, f9, cs1, er⟩ := round_ok ns hl hb j e2 e3 e4 e5 e6 e7 e8 e9 cs
    obtain ⟨g1, g2, g3, g4, g5, g6, g7, g8, g9, cs', ih⟩ := law_loop ns hl hb k (j + 1) (some (.int (j : Int))) f2 f3 f4 f5 f6 f7 f8 f9 cs1
    refine ⟨g1, g2, g3, g4, g5, g6, g7, g8, g9, cs', ?_⟩
    rw [rngL_succ, forL_step (env1 := [some (.lst (ilist ns)), some (.int (j : Int)), e2, e3, e4, e5, e6, e7, e8, e9, none, none, none]) trivial rfl er, ← ih]
    rw [show ((j + 1 : Nat) : Int) = (j : Int) + 1 by omega]
theorem law_true (ns : List Int) (hl : ns.length ≤ 63) (hb : ∀ z ∈ ns, Builtin.Int.intBits z ≤ 1048576) : ∃ cs, F_law [.lst (ns.map D.int)] [] = .ok (.bl true) cs := by
  have hk : ∃ k : Nat, itR1 (dCons (dCall (dCons (dC (.int 1)) (dCons (dCall (dCons (dC (.int 3)) (dCons (dCall (dCons (dVar 0) dNil) lenD) dNil)) min2D) dNil)) max2D) dNil) [some (.lst (ilist ns)), none, none, none, none, none, none, none, none, none, none, none, none] [] = .ok ⟨rngL 0 k, noChk⟩ [] := by
    have fl : fits ns.length := fits_of (by omega)
    by_cases a : (ns.length : Int) < 3
    · by_cases b : (ns.length : Int) > 1
      · have i : in62 (ns.length : Int) := in62_of (by omega) (by omega)
        exact ⟨ns.length, by simp [mkF, finS, env0, sSeq, sNil, sIf, sSet, sAsg, sExpr, sRet, sRetN, sPass, sNo, sPar, sPar3, sFor, Out.bind, Out.bindS, dVar, dC, d1, d2, dNil, dCons, dTup, dLst, dLstC, dCall, dFn, dIf, dML, dSl, oNone, oSome, dFrz, qB, qNot, qAnd, qOr, qTru, eNot, eAnd, eOr, gNm, gTupD, gsCons, gsNil, gIx, addD, subD, mulD, fdivD, modD, powD, negD, ltD, leD, gtD, geD, cmpD, chainD, both, asI, asS, asB, intX, lenD, tupleD, listD, listC, absD, max2D, min2D, itemsL, itemsT, itemsS, ixD, getD, atK, isC, isNonD, List.length_cons, List.length_nil, List.map_cons, List.map_nil, List.getElem?_cons_zero, List.getElem?_cons_succ, List.set_cons_zero, List.set_cons_succ, List.cons_append, List.nil_append, List.replicate_succ, List.replicate_zero, if_true, if_false, reduceIte, decide_eq_true_eq, L2.atI, L2.ixN, lenD1, itL, itT, itA, itS, itR1, itR2, itEn, itEnA, itZ, sFldD, DL.putK, end_get, end_set, List.mem_cons, List.not_mem_nil, or_false, false_or, or_true, true_or, D.lt, D.ltL, Bool.and_true, Bool.true_and, trim_app, gA, g0, sA, s0, List.append_assoc, List.length_append, trim_len, fits_of, fitsL_of, in63_of, in63F_of, in62_of, lo63_of, hi63_of, hi63F_of, few_of, le640_of, il_len, fl, a, b, i]⟩
      · exact ⟨1, by simp [mkF, finS, env0, sSeq, sNil, sIf, sSet, sAsg, sExpr, sRet, sRetN, sPass, sNo, sPar, sPar3, sFor, Out.bind, Out.bindS, dVar, dC, d1, d2, dNil, dCons, dTup, dLst, dLstC, dCall, dFn, dIf, dML, dSl, oNone, oSome, dFrz, qB, qNot, qAnd, qOr, qTru, eNot, eAnd, eOr, gNm, gTupD, gsCons, gsNil, gIx, addD, subD, mulD, fdivD, modD, powD, negD, ltD, leD, gtD, geD, cmpD, chainD, both, asI, asS, asB, intX, lenD, tupleD, listD, listC, absD, max2D, min2D, itemsL, itemsT, itemsS, ixD, getD, atK, isC, isNonD, List.length_cons, List.length_nil, List.map_cons, List.map_nil, List.getElem?_cons_zero, List.getElem?_cons_succ, List.set_cons_zero, List.set_cons_succ, List.cons_append, List.nil_append, List.replicate_succ, List.replicate_zero, if_true, if_false, reduceIte, decide_eq_true_eq, L2.atI, L2.ixN, lenD1, itL, itT, itA, itS, itR1, itR2, itEn, itEnA, itZ, sFldD, DL.putK, end_get, end_set, List.mem_cons, List.not_mem_nil, or_false, false_or, or_true, true_or, D.lt, D.ltL, Bool.and_true, Bool.true_and, trim_app, gA, g0, sA, s0, List.append_assoc, List.length_append, trim_len, fits_of, fitsL_of, in63_of, in63F_of, in62_of, lo63_of, hi63_of, hi63F_of, few_of, le640_of, il_len, fl, a, b]⟩
    · exact ⟨3, by simp [mkF, finS, env0, sSeq, sNil, sIf, sSet, sAsg, sExpr, sRet, sRetN, sPass, sNo, sPar, sPar3, sFor, Out.bind, Out.bindS, dVar, dC, d1, d2, dNil, dCons, dTup, dLst, dLstC, dCall, dFn, dIf, dML, dSl, oNone, oSome, dFrz, qB, qNot, qAnd, qOr, qTru, eNot, eAnd, eOr, gNm, gTupD, gsCons, gsNil, gIx, addD, subD, mulD, fdivD, modD, powD, negD, ltD, leD, gtD, geD, cmpD, chainD, both, asI, asS, asB, intX, lenD, tupleD, listD, listC, absD, max2D, min2D, itemsL, itemsT, itemsS, ixD, getD, atK, isC, isNonD, List.length_cons, List.length_nil, List.map_cons, List.map_nil, List.getElem?_cons_zero, List.getElem?_cons_succ, List.set_cons_zero, List.set_cons_succ, List.cons_append, List.nil_append, List.replicate_succ, List.replicate_zero, if_true, if_false, reduceIte, decide_eq_true_eq, L2.atI, L2.ixN, lenD1, itL, itT, itA, itS, itR1, itR2, itEn, itEnA, itZ, sFldD, DL.putK, end_get, end_set, List.mem_cons, List.not_mem_nil, or_false, false_or, or_true, true_or, D.lt, D.ltL, Bool.and_true, Bool.true_and, trim_app, gA, g0, sA, s0, List.append_assoc, List.length_append, trim_len, fits_of, fitsL_of, in63_of, in63F_of, in62_of, lo63_of, hi63_of, hi63F_of, few_of, le640_of, il_len, fl, a]⟩
  obtain ⟨k, hk⟩ := hk
  obtain ⟨g1, g2, g3, g4, g5, g6, g7, g8, g9, cs', e⟩ := law_loop ns hl hb k 0 none none none none none none none none none []
  change forL noChk (gNm 1) lb_law_7 (rngL 0 k) _ _ = _ at e
  show ∃ cs, F_law [.lst (ilist ns)] [] = .ok (.bl true) cs
  unfold F_law b_law
  simp only [mkF, finS, env0, sSeq, sFor, Out.bind, Out.bindS, List.length_cons, List.length_nil, List.map_cons, List.map_nil, List.cons_append, List.nil_append, List.replicate_succ, List.replicate_zero, Nat.reduceAdd, Nat.reduceSub, if_true, hk, e, sRet, dC]
  exact ⟨_, rfl⟩
end K51
end

section
set_option Elab.async false
set_option linter.all false
set_option maxRecDepth 100000
set_option maxHeartbeats 0
namespace K51
open PySem PySem.Spec L2 DL
def top (i : Nat) : Stmt := PySem.Challenge.pw_lateststore_k51_few_rounds_counted.main.body.getD i (.Pass ⟨0, 0, 0, 0⟩)
abbrev st_law_source : Stmt := (top 34)
def dd_law_source : He.DefD := ⟨("_law_source", none), "_law_source", "_law_source", defArgs st_law_source, defBody st_law_source, defScope st_law_source, [], []⟩
abbrev st_law_cell_at : Stmt := (top 33)
def dd_law_cell_at : He.DefD := ⟨("_law_cell_at", none), "_law_cell_at", "_law_cell_at", defArgs st_law_cell_at, defBody st_law_cell_at, defScope st_law_cell_at, [], []⟩
abbrev st_law_draw : Stmt := (top 35)
def dd_law_draw : He.DefD := ⟨("_law_draw", none), "_law_draw", "_law_draw", defArgs st_law_draw, defBody st_law_draw, defScope st_law_draw, [], []⟩
abbrev st_law_sizes : Stmt := (top 38)
def dd_law_sizes : He.DefD := ⟨("_law_sizes", none), "_law_sizes", "_law_sizes", defArgs st_law_sizes, defBody st_law_sizes, defScope st_law_sizes, [], []⟩
abbrev st_Memory_init : Stmt := ((C8.clsBody (top 12)).getD 0 (.Pass ⟨0, 0, 0, 0⟩))
def dd_Memory_init : He.DefD := ⟨("Memory", some "__init__"), "__init__", "Memory.__init__", defArgs st_Memory_init, defBody st_Memory_init, defScope st_Memory_init, [], []⟩
abbrev st_law_choice : Stmt := (top 36)
def dd_law_choice : He.DefD := ⟨("_law_choice", none), "_law_choice", "_law_choice", defArgs st_law_choice, defBody st_law_choice, defScope st_law_choice, [], []⟩
abbrev st_law_command : Stmt := (top 39)
def dd_law_command : He.DefD := ⟨("_law_command", none), "_law_command", "_law_command", defArgs st_law_command, defBody st_law_command, defScope st_law_command, [], []⟩
abbrev st_law_specs : Stmt := (top 40)
def dd_law_specs : He.DefD := ⟨("_law_specs", none), "_law_specs", "_law_specs", defArgs st_law_specs, defBody st_law_specs, defScope st_law_specs, [], []⟩
abbrev st_Store_init : Stmt := ((C8.clsBody (top 14)).getD 0 (.Pass ⟨0, 0, 0, 0⟩))
def dd_Store_init : He.DefD := ⟨("Store", some "__init__"), "__init__", "Store.__init__", defArgs st_Store_init, defBody st_Store_init, defScope st_Store_init, [], []⟩
abbrev st_Flush_init : Stmt := ((C8.clsBody (top 15)).getD 0 (.Pass ⟨0, 0, 0, 0⟩))
def dd_Flush_init : He.DefD := ⟨("Flush", some "__init__"), "__init__", "Flush.__init__", defArgs st_Flush_init, defBody st_Flush_init, defScope st_Flush_init, [], []⟩
abbrev st_law_done : Stmt := (top 41)
def dd_law_done : He.DefD := ⟨("_law_done", none), "_law_done", "_law_done", defArgs st_law_done, defBody st_law_done, defScope st_law_done, [], []⟩
abbrev st_law_shuffled : Stmt := (top 37)
def dd_law_shuffled : He.DefD := ⟨("_law_shuffled", none), "_law_shuffled", "_law_shuffled", defArgs st_law_shuffled, defBody st_law_shuffled, defScope st_law_shuffled, [], []⟩
abbrev st_law_spans : Stmt := (top 42)
def dd_law_spans : He.DefD := ⟨("_law_spans", none), "_law_spans", "_law_spans", defArgs st_law_spans, defBody st_law_spans, defScope st_law_spans, [], []⟩
abbrev st_law_number : Stmt := (top 43)
def dd_law_number : He.DefD := ⟨("_law_number", none), "_law_number", "_law_number", defArgs st_law_number, defBody st_law_number, defScope st_law_number, [], []⟩
abbrev st_Memory_check_line : Stmt := ((C8.clsBody (top 12)).getD 3 (.Pass ⟨0, 0, 0, 0⟩))
def dd_Memory_check_line : He.DefD := ⟨("Memory", some "check_line"), "check_line", "Memory.check_line", defArgs st_Memory_check_line, defBody st_Memory_check_line, defScope st_Memory_check_line, [], []⟩
abbrev st_Memory_check_word : Stmt := ((C8.clsBody (top 12)).getD 4 (.Pass ⟨0, 0, 0, 0⟩))
def dd_Memory_check_word : He.DefD := ⟨("Memory", some "check_word"), "check_word", "Memory.check_word", defArgs st_Memory_check_word, defBody st_Memory_check_word, defScope st_Memory_check_word, [], []⟩
abbrev st_Store_check : Stmt := ((C8.clsBody (top 14)).getD 3 (.Pass ⟨0, 0, 0, 0⟩))
def dd_Store_check : He.DefD := ⟨("Store", some "check"), "check", "Store.check", defArgs st_Store_check, defBody st_Store_check, defScope st_Store_check, [], []⟩
abbrev st_Flush_check : Stmt := ((C8.clsBody (top 15)).getD 3 (.Pass ⟨0, 0, 0, 0⟩))
def dd_Flush_check : He.DefD := ⟨("Flush", some "check"), "check", "Flush.check", defArgs st_Flush_check, defBody st_Flush_check, defScope st_Flush_check, [], []⟩
abbrev st_Command_check : Stmt := ((C8.clsBody (top 13)).getD 0 (.Pass ⟨0, 0, 0, 0⟩))
def dd_Command_check : He.DefD := ⟨("Command", some "check"), "check", "Command.check", defArgs st_Command_check, defBody st_Command_check, defScope st_Command_check, [], []⟩
abbrev st_check_commands : Stmt := (top 17)
def dd_check_commands : He.DefD := ⟨("check_commands", none), "check_commands", "check_commands", defArgs st_check_commands, defBody st_check_commands, defScope st_check_commands, [], []⟩
abbrev st_Box_init : Stmt := ((C8.clsBody (top 21)).getD 0 (.Pass ⟨0, 0, 0, 0⟩))
def dd_Box_init : He.DefD := ⟨("Box", some "__init__"), "__init__", "Box.__init__", defArgs st_Box_init, defBody st_Box_init, defScope st_Box_init, [], []⟩
abbrev st_Memory_zeros : Stmt := ((C8.clsBody (top 12)).getD 5 (.Pass ⟨0, 0, 0, 0⟩))
def dd_Memory_zeros : He.DefD := ⟨("Memory", some "zeros"), "zeros", "Memory.zeros", defArgs st_Memory_zeros, defBody st_Memory_zeros, defScope st_Memory_zeros, [], []⟩
abbrev st_Counter_init : Stmt := ((C8.clsBody (top 19)).getD 0 (.Pass ⟨0, 0, 0, 0⟩))
def dd_Counter_init : He.DefD := ⟨("Counter", some "__init__"), "__init__", "Counter.__init__", defArgs st_Counter_init, defBody st_Counter_init, defScope st_Counter_init, [], []⟩
abbrev st_Counter_do_command : Stmt := ((C8.clsBody (top 19)).getD 1 (.Pass ⟨0, 0, 0, 0⟩))
def dd_Counter_do_command : He.DefD := ⟨("Counter", some "do_command"), "do_command", "Counter.do_command", defArgs st_Counter_do_command, defBody st_Counter_do_command, defScope st_Counter_do_command, [], []⟩
abbrev st_boxes_of : Stmt := (top 22)
def dd_boxes_of : He.DefD := ⟨("boxes_of", none), "boxes_of", "boxes_of", defArgs st_boxes_of, defBody st_boxes_of, defScope st_boxes_of, [], []⟩
abbrev st_Box_size : Stmt := ((C8.clsBody (top 21)).getD 3 (.Pass ⟨0, 0, 0, 0⟩))
def dd_Box_size : He.DefD := ⟨("Box", some "size"), "size", "Box.size", defArgs st_Box_size, defBody st_Box_size, defScope st_Box_size, [], []⟩
abbrev st_count_of : Stmt := (top 29)
def dd_count_of : He.DefD := ⟨("count_of", none), "count_of", "count_of", defArgs st_count_of, defBody st_count_of, defScope st_count_of, [], []⟩
abbrev st_extended : Stmt := (top 30)
def dd_extended : He.DefD := ⟨("extended", none), "extended", "extended", defArgs st_extended, defBody st_extended, defScope st_extended, [], []⟩
abbrev st_count_repeated : Stmt := (top 31)
def dd_count_repeated : He.DefD := ⟨("count_repeated", none), "count_repeated", "count_repeated", defArgs st_count_repeated, defBody st_count_repeated, defScope st_count_repeated, [], []⟩
abbrev st_boxes : Stmt := (top 23)
def dd_boxes : He.DefD := ⟨("boxes", none), "boxes", "boxes", defArgs st_boxes, defBody st_boxes, defScope st_boxes, [], []⟩
abbrev st_count : Stmt := (top 24)
def dd_count : He.DefD := ⟨("count", none), "count", "count", defArgs st_count, defBody st_count, defScope st_count, [], []⟩
abbrev st_Program_init : Stmt := ((C8.clsBody (top 18)).getD 0 (.Pass ⟨0, 0, 0, 0⟩))
def dd_Program_init : He.DefD := ⟨("Program", some "__init__"), "__init__", "Program.__init__", defArgs st_Program_init, defBody st_Program_init, defScope st_Program_init, [], []⟩
abbrev st_law_error : Stmt := (top 44)
def dd_law_error : He.DefD := ⟨("_law_error", none), "_law_error", "_law_error", defArgs st_law_error, defBody st_law_error, defScope st_law_error, [], []⟩
abbrev st_law_errors_right : Stmt := (top 45)
def dd_law_errors_right : He.DefD := ⟨("_law_errors_right", none), "_law_errors_right", "_law_errors_right", defArgs st_law_errors_right, defBody st_law_errors_right, defScope st_law_errors_right, [], []⟩
abbrev st_law_bound_right : Stmt := (top 46)
def dd_law_bound_right : He.DefD := ⟨("_law_bound_right", none), "_law_bound_right", "_law_bound_right", defArgs st_law_bound_right, defBody st_law_bound_right, defScope st_law_bound_right, [], []⟩
abbrev st_law : Stmt := (top 47)
def dd_law : He.DefD := ⟨("law", none), "law", "law", defArgs st_law, defBody st_law, defScope st_law, [], []⟩
abbrev st_BadCount_init : Stmt := ((C8.clsBody (top 3)).getD 0 (.Pass ⟨0, 0, 0, 0⟩))
def dd_BadCount_init : He.DefD := ⟨("BadCount", some "__init__"), "__init__", "BadCount.__init__", defArgs st_BadCount_init, defBody st_BadCount_init, defScope st_BadCount_init, [], []⟩
abbrev st_NoLine_init : Stmt := ((C8.clsBody (top 4)).getD 0 (.Pass ⟨0, 0, 0, 0⟩))
def dd_NoLine_init : He.DefD := ⟨("NoLine", some "__init__"), "__init__", "NoLine.__init__", defArgs st_NoLine_init, defBody st_NoLine_init, defScope st_NoLine_init, [], []⟩
abbrev st_NoWord_init : Stmt := ((C8.clsBody (top 5)).getD 0 (.Pass ⟨0, 0, 0, 0⟩))
def dd_NoWord_init : He.DefD := ⟨("NoWord", some "__init__"), "__init__", "NoWord.__init__", defArgs st_NoWord_init, defBody st_NoWord_init, defScope st_NoWord_init, [], []⟩
def TF : List He.Defn := [("_law_errors_right", none), ("_law_bound_right", none)]
def fn0 : List He.DefD := [dd_law_source, dd_law_cell_at, dd_law_draw, dd_law_sizes, dd_Memory_init, dd_law_choice, dd_law_command, dd_law_specs, dd_Store_init, dd_Flush_init, dd_law_done, dd_law_shuffled, dd_law_spans, dd_law_number, dd_Memory_check_line, dd_Memory_check_word, dd_Store_check, dd_Flush_check, dd_Command_check, dd_check_commands]
def fn1 : List He.DefD := [dd_Box_init, dd_Memory_zeros, dd_Counter_init, dd_Counter_do_command, dd_boxes_of, dd_Box_size, dd_count_of, dd_extended, dd_count_repeated, dd_boxes, dd_count, dd_Program_init, dd_law_error, dd_law_errors_right, dd_law_bound_right, dd_law, dd_BadCount_init, dd_NoLine_init, dd_NoWord_init]
def fn : List He.DefD := fn0 ++ fn1
def fa0 : List He.Fa := [.free "range", .free "max", .free "min", .free "len", .free "int", .glo "_law_cell_at", .glo "_law_source", .glo "_law_draw", .glo "_law_sizes", .glo "Memory", .free "tuple", .int "MOST_LINES" 6, .glo "BadCount", .int "MOST_WORDS" 4, .glo "_law_choice", .glo "_law_command", .glo "_law_specs", .glo "Store", .glo "Flush", .glo "Fence"]
def fa1 : List He.Fa := [.glo "_law_done", .free "list", .glo "_law_shuffled", .glo "_law_spans", .free "zip", .glo "_law_number", .int "MOST_TOGETHER" 20, .glo "NoLine", .glo "NoWord", .glo "check_commands", .int "MOST_ROUNDS" 1000000000000000000000000000000, .int "FIRST_ROUND" 4, .free "sum", .glo "Box", .glo "Counter", .free "enumerate", .free "isinstance", .glo "boxes_of", .glo "count_of", .glo "extended"]
def fa2 : List He.Fa := [.glo "count_repeated", .glo "boxes", .glo "Program", .int "MOST_COMMANDS" 200, .glo "count", .exm "NoWord" "StoreError" true, .exm "NoLine" "StoreError" true, .exm "BadCount" "StoreError" true, .glo "StoreError", .exm "NoWord" "NoWord" true, .exm "NoLine" "NoWord" false, .exm "BadCount" "NoWord" false, .noat "NoWord" "word", .exm "NoWord" "NoLine" false, .exm "NoLine" "NoLine" true, .exm "BadCount" "NoLine" false, .noat "NoLine" "line", .exm "NoWord" "BadCount" false, .exm "NoLine" "BadCount" false, .exm "BadCount" "BadCount" true]
def fa3 : List He.Fa := [.noat "BadCount" "count", .noat "BadCount" "what", .glo "_law_error", .glo "_law_errors_right", .glo "_law_bound_right", .mkr "Memory", .mkr "Store", .mkr "Flush", .cls "Memory", .meth "Memory" "check_line", .meth "Memory" "check_word", .cls "Store", .meth "Store" "check", .cls "Flush", .meth "Flush" "check", .cls "Fence", .meth "Fence" "check", .mkr "Box", .meth "Memory" "zeros", .mkr "Counter"]
def fa4 : List He.Fa := [.cls "Counter", .meth "Counter" "do_command", .cls "Box", .meth "Box" "size", .mkr "Program", .noat "Memory" "sizes", .noat "Store" "number", .noat "Store" "word", .noat "Store" "line", .noat "Flush" "line", .noat "Program" "commands", .noat "Program" "memory", .cls "Program", .noat "Counter" "sure", .noat "Counter" "flushed", .noat "Counter" "made", .noat "Box" "high", .noat "Box" "low", .noat "Box" "time", .glo "law"]
def fa : List He.Fa := fa0 ++ fa1 ++ fa2 ++ fa3 ++ fa4
def fb0 : List Fb := [.mk0 "Fence", .xcls "NoWord", .xcls "NoLine", .xcls "BadCount", .meq "Fence" "check" "Command", .kitN "Flush", .isx "Memory", .kit "Memory" "Flush" false, .isx "Store", .kit "Store" "Flush" false, .isx "Flush", .kit "Flush" "Flush" true, .isx "Fence", .kit "Fence" "Flush" false, .isx "Program", .kit "Program" "Flush" false, .isx "Counter", .kit "Counter" "Flush" false, .isx "Box", .kit "Box" "Flush" false]
def fb1 : List Fb := [.kitN "Store", .kit "Memory" "Store" false, .kit "Store" "Store" true, .kit "Flush" "Store" false, .kit "Fence" "Store" false, .kit "Program" "Store" false, .kit "Counter" "Store" false, .kit "Box" "Store" false, .ndt TF]
def fb : List Fb := fb0 ++ fb1
def names0 : List PySem.Str := ["_wall", "StoreError", "BadCount", "NoLine", "NoWord", "OtherMemory", "MOST_LINES", "MOST_WORDS", "MOST_COMMANDS", "Thing", "Memory", "Command", "Store", "Flush", "Fence", "check_commands", "Program", "Counter", "Box", "boxes_of"]
def names1 : List PySem.Str := ["boxes", "count", "MOST_TOGETHER", "MOST_ROUNDS", "FIRST_ROUND", "count_of", "extended", "count_repeated", "_law_cell_at", "_law_source", "_law_draw", "_law_choice", "_law_shuffled", "_law_sizes", "_law_command", "_law_specs", "_law_done", "_law_spans", "_law_number", "_law_error"]
def names2 : List PySem.Str := ["_law_errors_right", "_law_bound_right"]
def names : List PySem.Str := names0 ++ names1 ++ names2
def TB (K : PySem.W.Frag) : List (Addr × PySem.Str) := [((He.cT K ("_law_errors_right", none)).2, ("_law_errors_right" ++ ".<locals>.") ++ "<lambda>"), ((He.cT K ("_law_bound_right", none)).2, ("_law_bound_right" ++ ".<locals>.") ++ "<lambda>")]
abbrev TBZ (K : PySem.W.Frag) (mg : PySem.Str → Option Value) (base : Heap) : Prop := ∀ p ∈ TF, LamX.TabB base mg (He.cT K p).1 (He.cT K p).2
abbrev TT (K : PySem.W.Frag) (xi : Option (Addr × Value × Option Addr)) : DL.Tab := ⟨nm, fun c => He.ga K (cn c), od, xi, TB K⟩
theorem nm_inj : ∀ i j, nm i = nm j → i = j := nmOf_inj (by decide +kernel)
section
variable {P : Program} {w : World} {K : PySem.W.Frag} {mg : PySem.Str → Option Value} {base : Heap}
theorem tabOk (z : Kn fa fn fb K mg) (xi) : TabOk K (TT K xi) := by
  intro c k hk
  have hk : k ∈ od c := hk
  unfold od at hk
  split at hk
  · exact ⟨z.cls 68, (show ∀ k ∈ od 7, NoAttr K (He.ga K "Memory") (nm k) from List.forall_mem_cons.mpr ⟨z.noat 85, fun _ h => nomatch h⟩) k hk⟩
  · exact ⟨z.cls 71, (show ∀ k ∈ od 9, NoAttr K (He.ga K "Store") (nm k) from List.forall_mem_cons.mpr ⟨z.noat 88, List.forall_mem_cons.mpr ⟨z.noat 87, List.forall_mem_cons.mpr ⟨z.noat 86, fun _ h => nomatch h⟩⟩⟩) k hk⟩
  · exact ⟨z.cls 73, (show ∀ k ∈ od 10, NoAttr K (He.ga K "Flush") (nm k) from List.forall_mem_cons.mpr ⟨z.noat 89, fun _ h => nomatch h⟩) k hk⟩
  · exact ⟨z.cls 92, (show ∀ k ∈ od 12, NoAttr K (He.ga K "Program") (nm k) from List.forall_mem_cons.mpr ⟨z.noat 91, List.forall_mem_cons.mpr ⟨z.noat 90, fun _ h => nomatch h⟩⟩) k hk⟩
  · exact ⟨z.cls 80, (show ∀ k ∈ od 15, NoAttr K (He.ga K "Counter") (nm k) from List.forall_mem_cons.mpr ⟨z.noat 95, List.forall_mem_cons.mpr ⟨z.noat 94, List.forall_mem_cons.mpr ⟨z.noat 93, fun _ h => nomatch h⟩⟩⟩) k hk⟩
  · exact ⟨z.cls 82, (show ∀ k ∈ od 16, NoAttr K (He.ga K "Box") (nm k) from List.forall_mem_cons.mpr ⟨z.noat 98, List.forall_mem_cons.mpr ⟨z.noat 97, List.forall_mem_cons.mpr ⟨z.noat 96, fun _ h => nomatch h⟩⟩⟩) k hk⟩
  · exact absurd hk (by simp)

theorem ist_Flush (z : Kn fa fn fb K mg) (xi) : IsT K (TT K xi) (He.ga K "Flush") isi_Flush := by
  refine ⟨?_, z.kitN 5⟩
  intro p hp
  simp only [isi_Flush, List.mem_cons, List.not_mem_nil, or_false] at hp
  rcases hp with rfl | rfl | rfl | rfl | rfl | rfl | rfl
  · exact ⟨z.isx 6, z.kit 7⟩
  · exact ⟨z.isx 8, z.kit 9⟩
  · exact ⟨z.isx 10, z.kit 11⟩
  · exact ⟨z.isx 12, z.kit 13⟩
  · exact ⟨z.isx 14, z.kit 15⟩
  · exact ⟨z.isx 16, z.kit 17⟩
  · exact ⟨z.isx 18, z.kit 19⟩

theorem ist_Store (z : Kn fa fn fb K mg) (xi) : IsT K (TT K xi) (He.ga K "Store") isi_Store := by
  refine ⟨?_, z.kitN 20⟩
  intro p hp
  simp only [isi_Store, List.mem_cons, List.not_mem_nil, or_false] at hp
  rcases hp with rfl | rfl | rfl | rfl | rfl | rfl | rfl
  · exact ⟨z.isx 6, z.kit 21⟩
  · exact ⟨z.isx 8, z.kit 22⟩
  · exact ⟨z.isx 10, z.kit 23⟩
  · exact ⟨z.isx 12, z.kit 24⟩
  · exact ⟨z.isx 14, z.kit 25⟩
  · exact ⟨z.isx 16, z.kit 26⟩
  · exact ⟨z.isx 18, z.kit 27⟩

theorem tbnd (z : Kn fa fn fb K mg) (xi) : ((TT K xi).tb.map (·.1)).Nodup := z.ndt (l := TF) 28
theorem sc_BadCount_init : FnScope ["self", "what", "count"] ["self", "what", "count"] (defScope st_BadCount_init) := C8.fnScope_by (by decide +kernel)
theorem ex_BadCount (z : Kn fa fn fb K mg) (xi) : EX P w K mg base (TT K xi) 1 [0, 1] := by
  obtain ⟨h1, h2, h3, h4⟩ := z.xcls 3
  obtain ⟨fd, F⟩ := z.fd 36 (d := dd_BadCount_init) rfl rfl rfl
  exact ⟨h1, (show ∀ f ∈ (["what", "count"] : List PySem.Str), PySem.W.findIn K (.ref (He.ga K "BadCount")) f = some none from List.forall_mem_cons.mpr ⟨z.noa 61, List.forall_mem_cons.mpr ⟨z.noa 60, fun _ h => nomatch h⟩⟩), _, fd, _, h3, h4, init2 F sc_BadCount_init (.inl rfl) (.inl rfl) (by decide) (by decide) (.inl rfl) (by decide) (by decide), F.bindsN (fun _ _ _ _ _ _ us hl => match us, hl with | [_, _, _], _ => rfl)⟩
theorem sc_NoLine_init : FnScope ["self", "line"] ["self", "line"] (defScope st_NoLine_init) := C8.fnScope_by (by decide +kernel)
theorem ex_NoLine (z : Kn fa fn fb K mg) (xi) : EX P w K mg base (TT K xi) 2 [2] := by
  obtain ⟨h1, h2, h3, h4⟩ := z.xcls 2
  obtain ⟨fd, F⟩ := z.fd 37 (d := dd_NoLine_init) rfl rfl rfl
  exact ⟨h1, (show ∀ f ∈ (["line"] : List PySem.Str), PySem.W.findIn K (.ref (He.ga K "NoLine")) f = some none from List.forall_mem_cons.mpr ⟨z.noa 56, fun _ h => nomatch h⟩), _, fd, _, h3, h4, init1 F sc_NoLine_init (.inl rfl) (.inl rfl) (by decide) (by decide), F.bindsN (fun _ _ _ _ _ _ us hl => match us, hl with | [_, _], _ => rfl)⟩
theorem sc_NoWord_init : FnScope ["self", "word"] ["self", "word"] (defScope st_NoWord_init) := C8.fnScope_by (by decide +kernel)
theorem ex_NoWord (z : Kn fa fn fb K mg) (xi) : EX P w K mg base (TT K xi) 3 [3] := by
  obtain ⟨h1, h2, h3, h4⟩ := z.xcls 1
  obtain ⟨fd, F⟩ := z.fd 38 (d := dd_NoWord_init) rfl rfl rfl
  exact ⟨h1, (show ∀ f ∈ (["word"] : List PySem.Str), PySem.W.findIn K (.ref (He.ga K "NoWord")) f = some none from List.forall_mem_cons.mpr ⟨z.noa 52, fun _ h => nomatch h⟩), _, fd, _, h3, h4, init1 F sc_NoWord_init (.inl rfl) (.inl rfl) (by decide) (by decide), F.bindsN (fun _ _ _ _ _ _ us hl => match us, hl with | [_, _], _ => rfl)⟩
theorem sc_law_source : FnScope ["_law_cell"] ["_law_cell"] (defScope st_law_source) := C8.fnScope_by (by decide +kernel)
theorem df_law_source (z : Kn fa fn fb K mg) (xi) (tbz : TBZ K mg base) : DF P w K mg base (TT K xi) 1 (He.fAd K ("_law_source", none)) 1 F_law_source := by
  refine df_mk (z.fd 0 (d := dd_law_source) rfl rfl rfl) sc_law_source rfl rfl (fun _ _ _ _ _ _ us hl => match us, hl with | [_], _ => rfl) fun cdv A outer s H E hr => ?_
  exact (dss_one (ds_ret (de_lstC (da_cons (de_mul (de_var (pv 0)) (de_int1 (z.free 4) (da_cons (DC.ex (dc_ge (de_var (pv 0)) (de_pow de_int de_int))) da_nil))) (da_cons (de_mod (de_int1 (z.free 4) (da_cons (de_var (pv 0)) da_nil)) de_int) (da_cons de_int da_nil))))))
theorem sc_law_cell_at : FnScope ["_law_script", "_law_index"] ["_law_script", "_law_index"] (defScope st_law_cell_at) := C8.fnScope_by (by decide +kernel)
theorem df_law_cell_at (z : Kn fa fn fb K mg) (xi) (tbz : TBZ K mg base) : DF P w K mg base (TT K xi) 1 (He.fAd K ("_law_cell_at", none)) 2 F_law_cell_at := by
  refine df_mk (z.fd 1 (d := dd_law_cell_at) rfl rfl rfl) sc_law_cell_at rfl rfl (fun _ _ _ _ _ _ us hl => match us, hl with | [_, _], _ => rfl) fun cdv A outer s H E hr => ?_
  exact (dss_cons (ds_if (DC.tt (dc_lt (de_var (pv 1)) (de_len (z.free 3) (da_cons (de_var (pv 0)) da_nil))))
  (dss_one (ds_ret (de_ix (de_var (pv 0)) (de_var (pv 1)))))
  dss_nil)
  (dss_one (ds_ret de_int)))
theorem sc_law_draw : FnScope ["_law_source_here", "_law_limit", "_law_value"] ["_law_source_here", "_law_limit"] (defScope st_law_draw) := C8.fnScope_by (by decide +kernel)
theorem df_law_draw (z : Kn fa fn fb K mg) (xi) (tbz : TBZ K mg base) : DF P w K mg base (TT K xi) 1 (He.fAd K ("_law_draw", none)) 2 F_law_draw := by
  refine df_mk (z.fd 2 (d := dd_law_draw) rfl rfl rfl) sc_law_draw rfl rfl (fun _ _ _ _ _ _ us hl => match us, hl with | [_, _], _ => rfl) fun cdv A outer s H E hr => ?_
  exact (dss_cons (ds_if (DC.tt (dc_gt (de_ix (de_var (pv 0)) de_int) de_int))
  (dss_cons (ds_set sc_law_draw.nd (de_mod (de_int1 (z.free 4) (da_cons (de_ix (de_var (pv 0)) de_int) da_nil)) (de_var (pv 1))))
  (dss_cons (ds_asg (de_fdiv (de_ix (de_var (pv 0)) de_int) (de_var (pv 1))) (dg_ix rfl (de_var (pv 0)) de_int))
  (dss_one (ds_ret (de_var (pv 2))))))
  dss_nil)
  (dss_cons (ds_asg (de_add (de_ix (de_var (pv 0)) de_int) de_int) (dg_ix rfl (de_var (pv 0)) de_int))
  (dss_cons (ds_set sc_law_draw.nd (de_mod (de_int1 (z.free 4) (da_cons (de_mul (de_add (de_add (de_ix (de_var (pv 0)) de_int) (de_mul de_int (de_ix (de_var (pv 0)) de_int))) de_int) de_int) da_nil)) de_int))
  (dss_cons (ds_set sc_law_draw.nd (de_mod (de_int1 (z.free 4) (da_cons (de_mul (de_var (pv 2)) (de_add (de_add (de_fdiv (de_var (pv 2)) de_int) de_int) (de_ix (de_var (pv 0)) de_int))) da_nil)) de_int))
  (dss_one (ds_ret (de_mod (de_int1 (z.free 4) (da_cons (de_fdiv (de_mod (de_int1 (z.free 4) (da_cons (de_mul (de_var (pv 2)) (de_add (de_fdiv (de_var (pv 2)) de_int) de_int)) da_nil)) de_int) de_int) da_nil)) (de_var (pv 1)))))))))
theorem sc_law_sizes : FnScope ["_law_source_here", "_law_line"] ["_law_source_here"] (defScope st_law_sizes) := C8.fnScope_by (by decide +kernel)
theorem df_law_sizes (z : Kn fa fn fb K mg) (xi) (tbz : TBZ K mg base) : DF P w K mg base (TT K xi) 2 (He.fAd K ("_law_sizes", none)) 1 F_law_sizes := by
  refine df_mk (z.fd 3 (d := dd_law_sizes) rfl rfl rfl) sc_law_sizes rfl rfl (fun _ _ _ _ _ _ us hl => match us, hl with | [_], _ => rfl) fun cdv A outer s H E hr => ?_
  exact (dss_one (ds_ret (de_lc (de_lcC (own := [("_law_line", 1)]) rfl sc_law_sizes.nd (di_range1 rfl (z.free 0) (da_cons (de_add de_int (de_call (df_law_draw z xi tbz) (z.glo 7) hr (takes_of rfl rfl rfl rfl) (da_cons (de_var (pv 0)) (da_cons de_int da_nil)))) da_nil)) (blk_by (by kernel_rfl)) (fun _ _ _ _ _ => (dgk_name (pg_name sc_law_sizes.nd (i := 1) rfl (by first | exact Or.inl rfl | exact Or.inr rfl)))) (fun _ _ _ _ _ => dts_nil) (fun _ _ _ _ _ => (de_add de_int (de_call (df_law_draw z xi tbz) (z.glo 7) hr takes_no (da_cons (de_var (pv 0)) (da_cons de_int da_nil)))))))))
theorem sc_Memory_init : FnScope ["self", "sizes", "size"] ["self", "sizes"] (defScope st_Memory_init) := C8.fnScope_by (by decide +kernel)
theorem df_Memory_init (z : Kn fa fn fb K mg) (xi) (tbz : TBZ K mg base) : DF P w K mg base (TT K xi) 3 (He.fAd K ("Memory", some "__init__")) 2 F_Memory_init := by
  refine df_mk (z.fd 4 (d := dd_Memory_init) rfl rfl rfl) sc_Memory_init rfl rfl (fun _ _ _ _ _ _ us hl => match us, hl with | [_, _], _ => rfl) fun cdv A outer s H E hr => ?_
  exact (dss_cons (ds_fld (tabOk z xi) nm_inj rfl (k := 5) rfl (de_var (pv 0)) (de_tuple (z.free 10) (da_cons (de_var (pv 1)) da_nil)))
  (dss_cons (ds_if (dt_not (dt_chain op_le op_le de_int (de_len (z.free 3) (da_cons (de_get (tabOk z xi) nm_inj rfl (k := 5) rfl (de_var (pv 0))) da_nil)) (de_gint rfl (z.int 11))))
  (dss_one (ds_raise rfl (takes_of rfl rfl rfl rfl) (ex_BadCount z xi) hr (z.glo 12) (da_cons de_str (da_cons (de_len (z.free 3) (da_cons (de_get (tabOk z xi) nm_inj rfl (k := 5) rfl (de_var (pv 0))) da_nil)) da_nil))))
  dss_nil)
  (dss_one (ds_for (passes_of rfl) rfl (di_tup (de_get (tabOk z xi) nm_inj rfl (k := 5) rfl (de_var (pv 0)))) (dg_name (pg_name sc_Memory_init.nd (i := 2) rfl (by first | exact Or.inl rfl | exact Or.inr rfl)))
  (dss_one (ds_if (dt_not (dt_chain op_le op_le de_int (de_var (pv 2)) (de_gint rfl (z.int 13))))
  (dss_one (ds_raise rfl (takes_of rfl rfl rfl rfl) (ex_BadCount z xi) hr (z.glo 12) (da_cons de_str (da_cons (de_var (pv 2)) da_nil))))
  dss_nil))))))
theorem dk_Memory {X : Cx} (z : Kn fa fn fb K mg) (xi) (tbz : TBZ K mg base) (h1 : X.prog = P) (h2 : X.w = w) (h3 : X.K = K) (h4 : X.mg = mg) (h5 : X.base = base) : DK X (TT K xi) 3 7 1 F_Memory_init := by
  subst h1 h2 h3 h4 h5
  exact ⟨⟨_, z.mkr 65, df_Memory_init z xi tbz⟩⟩
theorem sc_law_choice : FnScope ["_law_source_here", "_law_items"] ["_law_source_here", "_law_items"] (defScope st_law_choice) := C8.fnScope_by (by decide +kernel)
theorem df_law_choice (z : Kn fa fn fb K mg) (xi) (tbz : TBZ K mg base) : DF P w K mg base (TT K xi) 2 (He.fAd K ("_law_choice", none)) 2 F_law_choice := by
  refine df_mk (z.fd 5 (d := dd_law_choice) rfl rfl rfl) sc_law_choice rfl rfl (fun _ _ _ _ _ _ us hl => match us, hl with | [_, _], _ => rfl) fun cdv A outer s H E hr => ?_
  exact (dss_one (ds_ret (de_ix (de_var (pv 1)) (de_call (df_law_draw z xi tbz) (z.glo 7) hr (takes_of rfl rfl rfl rfl) (da_cons (de_var (pv 0)) (da_cons (de_len (z.free 3) (da_cons (de_var (pv 1)) da_nil)) da_nil))))))
theorem sc_law_command : FnScope ["_law_source_here", "_law_sizes_here", "_law_kind", "_law_line", "_law_word"] ["_law_source_here", "_law_sizes_here"] (defScope st_law_command) := C8.fnScope_by (by decide +kernel)
theorem df_law_command (z : Kn fa fn fb K mg) (xi) (tbz : TBZ K mg base) : DF P w K mg base (TT K xi) 3 (He.fAd K ("_law_command", none)) 2 F_law_command := by
  refine df_mk (z.fd 6 (d := dd_law_command) rfl rfl rfl) sc_law_command rfl rfl (fun _ _ _ _ _ _ us hl => match us, hl with | [_, _], _ => rfl) fun cdv A outer s H E hr => ?_
  exact (dss_cons (ds_set sc_law_command.nd (de_call (df_law_choice z xi tbz) (z.glo 14) hr (takes_of rfl rfl rfl rfl) (da_cons (de_var (pv 0)) (da_cons (de_lst (da_cons de_str (da_cons de_str (da_cons de_str (da_cons de_str (da_cons de_str da_nil)))))) da_nil))))
  (dss_cons (ds_set sc_law_command.nd (de_call (df_law_draw z xi tbz) (z.glo 7) hr (takes_of rfl rfl rfl rfl) (da_cons (de_var (pv 0)) (da_cons (de_len (z.free 3) (da_cons (de_var (pv 1)) da_nil)) da_nil))))
  (dss_cons (ds_if (DC.tt (dc_eq (eqB0 (n := 0) (h := 20) (by decide)) (hr.mono (Nat.zero_le _)) (de_var (pv 2)) de_str))
  (dss_cons (ds_set sc_law_command.nd (de_call (df_law_draw z xi tbz) (z.glo 7) hr (takes_of rfl rfl rfl rfl) (da_cons (de_var (pv 0)) (da_cons (de_ix (de_var (pv 1)) (de_var (pv 3))) da_nil))))
  (dss_one (ds_ret (de_tup (da_cons (de_var (pv 2)) (da_cons (de_var (pv 3)) (da_cons (de_var (pv 4)) (da_cons (de_call (df_law_choice z xi tbz) (z.glo 14) hr (takes_of rfl rfl rfl rfl) (da_cons (de_var (pv 0)) (da_cons (de_lst (da_cons de_int (da_cons de_int (da_cons de_int (da_cons (de_neg de_int) (da_cons (de_pow de_int de_int) da_nil)))))) da_nil))) da_nil))))))))
  dss_nil)
  (dss_one (ds_ret (de_tup (da_cons (de_var (pv 2)) (da_cons (de_if (DC.tt (dc_eq (eqB0 (n := 0) (h := 20) (by decide)) (hr.mono (Nat.zero_le _)) (de_var (pv 2)) de_str)) (de_var (pv 3)) de_int) (da_cons de_int (da_cons de_int da_nil))))))))))
theorem sc_law_specs : FnScope ["_law_source_here", "_law_sizes_here", "_law_most", "_law_index"] ["_law_source_here", "_law_sizes_here", "_law_most"] (defScope st_law_specs) := C8.fnScope_by (by decide +kernel)
theorem df_law_specs (z : Kn fa fn fb K mg) (xi) (tbz : TBZ K mg base) : DF P w K mg base (TT K xi) 4 (He.fAd K ("_law_specs", none)) 3 F_law_specs := by
  refine df_mk (z.fd 7 (d := dd_law_specs) rfl rfl rfl) sc_law_specs rfl rfl (fun _ _ _ _ _ _ us hl => match us, hl with | [_, _, _], _ => rfl) fun cdv A outer s H E hr => ?_
  exact (dss_one (ds_ret (de_lc (de_lcC (own := [("_law_index", 3)]) rfl sc_law_specs.nd (di_range1 rfl (z.free 0) (da_cons (de_call (df_law_draw z xi tbz) (z.glo 7) hr (takes_of rfl rfl rfl rfl) (da_cons (de_var (pv 0)) (da_cons (de_add (de_var (pv 2)) de_int) da_nil))) da_nil)) (blk_by (by kernel_rfl)) (fun _ _ _ _ _ => (dgk_name (pg_name sc_law_specs.nd (i := 3) rfl (by first | exact Or.inl rfl | exact Or.inr rfl)))) (fun _ _ _ _ _ => dts_nil) (fun _ _ _ _ _ => (de_call (df_law_command z xi tbz) (z.glo 15) hr takes_no (da_cons (de_var (pv 0)) (da_cons (de_var (pv 1)) da_nil))))))))
theorem sc_Store_init : FnScope ["self", "line", "word", "number"] ["self", "line", "word", "number"] (defScope st_Store_init) := C8.fnScope_by (by decide +kernel)
theorem df_Store_init (z : Kn fa fn fb K mg) (xi) (tbz : TBZ K mg base) : DF P w K mg base (TT K xi) 1 (He.fAd K ("Store", some "__init__")) 4 F_Store_init := by
  refine df_mk (z.fd 8 (d := dd_Store_init) rfl rfl rfl) sc_Store_init rfl rfl (fun _ _ _ _ _ _ us hl => match us, hl with | [_, _, _, _], _ => rfl) fun cdv A outer s H E hr => ?_
  exact (dss_cons (ds_fld (tabOk z xi) nm_inj rfl (k := 2) rfl (de_var (pv 0)) (de_var (pv 1)))
  (dss_cons (ds_fld (tabOk z xi) nm_inj rfl (k := 3) rfl (de_var (pv 0)) (de_var (pv 2)))
  (dss_one (ds_fld (tabOk z xi) nm_inj rfl (k := 6) rfl (de_var (pv 0)) (de_var (pv 3))))))
theorem dk_Store {X : Cx} (z : Kn fa fn fb K mg) (xi) (tbz : TBZ K mg base) (h1 : X.prog = P) (h2 : X.w = w) (h3 : X.K = K) (h4 : X.mg = mg) (h5 : X.base = base) : DK X (TT K xi) 1 9 3 F_Store_init := by
  subst h1 h2 h3 h4 h5
  exact ⟨⟨_, z.mkr 66, df_Store_init z xi tbz⟩⟩
theorem sc_Flush_init : FnScope ["self", "line"] ["self", "line"] (defScope st_Flush_init) := C8.fnScope_by (by decide +kernel)
theorem df_Flush_init (z : Kn fa fn fb K mg) (xi) (tbz : TBZ K mg base) : DF P w K mg base (TT K xi) 1 (He.fAd K ("Flush", some "__init__")) 2 F_Flush_init := by
  refine df_mk (z.fd 9 (d := dd_Flush_init) rfl rfl rfl) sc_Flush_init rfl rfl (fun _ _ _ _ _ _ us hl => match us, hl with | [_, _], _ => rfl) fun cdv A outer s H E hr => ?_
  exact (dss_one (ds_fld (tabOk z xi) nm_inj rfl (k := 2) rfl (de_var (pv 0)) (de_var (pv 1))))
theorem dk_Flush {X : Cx} (z : Kn fa fn fb K mg) (xi) (tbz : TBZ K mg base) (h1 : X.prog = P) (h2 : X.w = w) (h3 : X.K = K) (h4 : X.mg = mg) (h5 : X.base = base) : DK X (TT K xi) 1 10 1 F_Flush_init := by
  subst h1 h2 h3 h4 h5
  exact ⟨⟨_, z.mkr 67, df_Flush_init z xi tbz⟩⟩
theorem sc_law_done : FnScope ["_law_spec", "_law_kind", "_law_line", "_law_word", "_law_number_here"] ["_law_spec"] (defScope st_law_done) := C8.fnScope_by (by decide +kernel)
theorem df_law_done (z : Kn fa fn fb K mg) (xi) (tbz : TBZ K mg base) : DF P w K mg base (TT K xi) 3 (He.fAd K ("_law_done", none)) 1 F_law_done := by
  refine df_mk (z.fd 10 (d := dd_law_done) rfl rfl rfl) sc_law_done rfl rfl (fun _ _ _ _ _ _ us hl => match us, hl with | [_], _ => rfl) fun cdv A outer s H E hr => ?_
  exact (dss_cons (ds_asg (de_var (pv 0)) (dg_tup rfl (dgs_cons (dg_name (pg_name sc_law_done.nd (i := 1) rfl (by first | exact Or.inl rfl | exact Or.inr rfl))) (dgs_cons (dg_name (pg_name sc_law_done.nd (i := 2) rfl (by first | exact Or.inl rfl | exact Or.inr rfl))) (dgs_cons (dg_name (pg_name sc_law_done.nd (i := 3) rfl (by first | exact Or.inl rfl | exact Or.inr rfl))) (dgs_cons (dg_name (pg_name sc_law_done.nd (i := 4) rfl (by first | exact Or.inl rfl | exact Or.inr rfl))) dgs_nil))))))
  (dss_cons (ds_if (DC.tt (dc_eq (eqB0 (n := 0) (h := 20) (by decide)) (hr.mono (Nat.zero_le _)) (de_var (pv 1)) de_str))
  (dss_one (ds_ret (de_mkO rfl (dk_Store z xi tbz rfl rfl rfl rfl rfl) (z.glo 17) hr (takes_of rfl rfl rfl rfl) (da_cons (de_var (pv 2)) (da_cons (de_var (pv 3)) (da_cons (de_var (pv 4)) da_nil))))))
  dss_nil)
  (dss_one (ds_ret (de_if (DC.tt (dc_eq (eqB0 (n := 0) (h := 20) (by decide)) (hr.mono (Nat.zero_le _)) (de_var (pv 1)) de_str)) (de_mkO rfl (dk_Flush z xi tbz rfl rfl rfl rfl rfl) (z.glo 18) hr (takes_of rfl rfl rfl rfl) (da_cons (de_var (pv 2)) da_nil)) (de_mk0 (z.mk0 0) rfl (z.glo 19)))))))
theorem sc_law_shuffled : FnScope ["_law_source_here", "_law_items", "_law_remaining", "_law_result"] ["_law_source_here", "_law_items"] (defScope st_law_shuffled) := C8.fnScope_by (by decide +kernel)
theorem df_law_shuffled (z : Kn fa fn fb K mg) (xi) (tbz : TBZ K mg base) : DF P w K mg base (TT K xi) 2 (He.fAd K ("_law_shuffled", none)) 2 F_law_shuffled := by
  refine df_mk (z.fd 11 (d := dd_law_shuffled) rfl rfl rfl) sc_law_shuffled rfl rfl (fun _ _ _ _ _ _ us hl => match us, hl with | [_, _], _ => rfl) fun cdv A outer s H E hr => ?_
  exact (dss_cons (ds_set sc_law_shuffled.nd (de_listC (z.free 21) (da_cons (de_var (pv 1)) da_nil)))
  (dss_cons (ds_set sc_law_shuffled.nd (de_lstC da_nil))
  (dss_cons (ds_while (passes_of rfl) (DC.tt (dc_ne (eqB0 (n := 0) (h := 20) (by decide)) (hr.mono (Nat.zero_le _)) (de_var (pv 2)) (de_lst da_nil)))
  (dss_one (ds_expr (de_append (de_var (pv 3)) (da_cons (de_pop (de_var (pv 2)) (da_cons (de_call (df_law_draw z xi tbz) (z.glo 7) hr (takes_of rfl rfl rfl rfl) (da_cons (de_var (pv 0)) (da_cons (de_len (z.free 3) (da_cons (de_var (pv 2)) da_nil)) da_nil))) da_nil)) da_nil)))))
  (dss_one (ds_ret (de_frz (de_var (pv 3))))))))
theorem sc_law_spans : FnScope ["_law_sizes_here", "_law_specs_here", "_law_done_here", "_law_flushed", "_law_safe", "_law_result", "_law_kind", "_law_line", "_law_word", "_law_number_here", "_law_low"] ["_law_sizes_here", "_law_specs_here"] (defScope st_law_spans) := C8.fnScope_by (by decide +kernel)
theorem df_law_spans (z : Kn fa fn fb K mg) (xi) (tbz : TBZ K mg base) : DF P w K mg base (TT K xi) 1 (He.fAd K ("_law_spans", none)) 2 F_law_spans := by
  refine df_mk (z.fd 12 (d := dd_law_spans) rfl rfl rfl) sc_law_spans rfl rfl (fun _ _ _ _ _ _ us hl => match us, hl with | [_, _], _ => rfl) fun cdv A outer s H E hr => ?_
  exact (dss_cons (ds_par (i := 2) (j := 3) rfl sc_law_spans.nd (da_cons (de_mulC (de_lst (da_cons de_int da_nil)) (de_len (z.free 3) (da_cons (de_var (pv 0)) da_nil))) (da_cons (de_mulC (de_lst (da_cons de_int da_nil)) (de_len (z.free 3) (da_cons (de_var (pv 0)) da_nil))) da_nil)))
  (dss_cons (ds_set sc_law_spans.nd (de_mul (de_lst (da_cons de_int da_nil)) (de_len (z.free 3) (da_cons (de_var (pv 0)) da_nil))))
  (dss_cons (ds_set sc_law_spans.nd (de_lstC (da_cons (de_tup (da_cons (de_tuple (z.free 10) (da_cons (de_var (pv 2)) da_nil)) (da_cons (de_tuple (z.free 10) (da_cons (de_var (pv 2)) da_nil)) da_nil))) da_nil)))
  (dss_cons (ds_for (passes_of rfl) rfl (di_list (de_var (pv 1))) (dg_tup rfl (dgs_cons (dg_name (pg_name sc_law_spans.nd (i := 6) rfl (by first | exact Or.inl rfl | exact Or.inr rfl))) (dgs_cons (dg_name (pg_name sc_law_spans.nd (i := 7) rfl (by first | exact Or.inl rfl | exact Or.inr rfl))) (dgs_cons (dg_name (pg_name sc_law_spans.nd (i := 8) rfl (by first | exact Or.inl rfl | exact Or.inr rfl))) (dgs_cons (dg_name (pg_name sc_law_spans.nd (i := 9) rfl (by first | exact Or.inl rfl | exact Or.inr rfl))) dgs_nil)))))
  (dss_one (ds_if (DC.tt (dc_eq (eqB0 (n := 0) (h := 20) (by decide)) (hr.mono (Nat.zero_le _)) (de_var (pv 6)) de_str))
  (dss_cons (ds_asg (de_add (de_ix (de_var (pv 2)) (de_var (pv 7))) de_int) (dg_ix rfl (de_var (pv 2)) (de_var (pv 7))))
  (dss_cons (ds_set sc_law_spans.nd (de_add (de_add (de_slice (de_var (pv 4)) do_none (do_some (de_var (pv 7)))) (de_lst (da_cons (de_ix (de_var (pv 2)) (de_var (pv 7))) da_nil))) (de_slice (de_var (pv 4)) (do_some (de_add (de_var (pv 7)) de_int)) do_none)))
  (dss_one (ds_expr (de_append (de_var (pv 5)) (da_cons (de_tup (da_cons (de_tuple (z.free 10) (da_cons (de_var (pv 10)) da_nil)) (da_cons (de_tuple (z.free 10) (da_cons (de_var (pv 2)) da_nil)) da_nil))) da_nil))))))
  (dss_one (ds_if (DC.tt (dc_eq (eqB0 (n := 0) (h := 20) (by decide)) (hr.mono (Nat.zero_le _)) (de_var (pv 6)) de_str))
  (dss_one (ds_asg (de_ix (de_var (pv 2)) (de_var (pv 7))) (dg_ix rfl (de_var (pv 3)) (de_var (pv 7)))))
  (dss_one (ds_set sc_law_spans.nd (de_list (z.free 21) (da_cons (de_var (pv 3)) da_nil)))))))))
  (dss_one (ds_ret (de_frz (de_var (pv 5)))))))))
theorem sc_law_number : FnScope ["_law_sizes_here", "_law_specs_here", "_law_total", "_law_low", "_law_high", "_law_here", "_law_least", "_law_most"] ["_law_sizes_here", "_law_specs_here"] (defScope st_law_number) := C8.fnScope_by (by decide +kernel)
theorem df_law_number (z : Kn fa fn fb K mg) (xi) (tbz : TBZ K mg base) : DF P w K mg base (TT K xi) 2 (He.fAd K ("_law_number", none)) 2 F_law_number := by
  refine df_mk (z.fd 13 (d := dd_law_number) rfl rfl rfl) sc_law_number rfl rfl (fun _ _ _ _ _ _ us hl => match us, hl with | [_, _], _ => rfl) fun cdv A outer s H E hr => ?_
  exact (dss_cons (ds_set sc_law_number.nd de_int)
  (dss_cons (ds_for (passes_of rfl) rfl (di_list (de_call (df_law_spans z xi tbz) (z.glo 23) hr (takes_of rfl rfl rfl rfl) (da_cons (de_var (pv 0)) (da_cons (de_var (pv 1)) da_nil)))) (dg_tup rfl (dgs_cons (dg_name (pg_name sc_law_number.nd (i := 3) rfl (by first | exact Or.inl rfl | exact Or.inr rfl))) (dgs_cons (dg_name (pg_name sc_law_number.nd (i := 4) rfl (by first | exact Or.inl rfl | exact Or.inr rfl))) dgs_nil)))
  (dss_cons (ds_set sc_law_number.nd de_int)
  (dss_cons (ds_for (passes_of rfl) rfl (di_zip (z.free 24) (da_cons (de_var (pv 3)) (da_cons (de_var (pv 4)) da_nil))) (dg_tup rfl (dgs_cons (dg_name (pg_name sc_law_number.nd (i := 6) rfl (by first | exact Or.inl rfl | exact Or.inr rfl))) (dgs_cons (dg_name (pg_name sc_law_number.nd (i := 7) rfl (by first | exact Or.inl rfl | exact Or.inr rfl))) dgs_nil)))
  (dss_one (ds_set sc_law_number.nd (de_mul (de_var (pv 5)) (de_add (de_sub (de_var (pv 7)) (de_var (pv 6))) de_int)))))
  (dss_one (ds_set sc_law_number.nd (de_add (de_var (pv 2)) (de_var (pv 5))))))))
  (dss_one (ds_ret (de_var (pv 2))))))
theorem sc_Memory_check_line : FnScope ["self", "line"] ["self", "line"] (defScope st_Memory_check_line) := C8.fnScope_by (by decide +kernel)
theorem df_Memory_check_line (z : Kn fa fn fb K mg) (xi) (tbz : TBZ K mg base) : DF P w K mg base (TT K xi) 3 (He.fAd K ("Memory", some "check_line")) 2 F_Memory_check_line := by
  refine df_mk (z.fd 14 (d := dd_Memory_check_line) rfl rfl rfl) sc_Memory_check_line rfl rfl (fun _ _ _ _ _ _ us hl => match us, hl with | [_, _], _ => rfl) fun cdv A outer s H E hr => ?_
  exact (dss_one (ds_if (dt_not (dt_chain op_le op_lt de_int (de_var (pv 1)) (de_len (z.free 3) (da_cons (de_get (tabOk z xi) nm_inj rfl (k := 5) rfl (de_var (pv 0))) da_nil))))
  (dss_one (ds_raise rfl (takes_of rfl rfl rfl rfl) (ex_NoLine z xi) hr (z.glo 27) (da_cons (de_var (pv 1)) da_nil)))
  dss_nil))
theorem dm_check_line {X : Cx} (z : Kn fa fn fb K mg) (xi) (tbz : TBZ K mg base) (h1 : X.prog = P) (h2 : X.w = w) (h3 : X.K = K) (h4 : X.mg = mg) (h5 : X.base = base) : DM X (TT K xi) 3 "check_line" 2 (fun c => disp_check_line.lookup c) := by
  subst h1 h2 h3 h4 h5
  refine dm_of ?_
  intro p hp
  simp only [disp_check_line, List.mem_cons, List.not_mem_nil, or_false] at hp
  rcases hp with rfl
  · exact ⟨(show ∀ i ∈ od 7, nm i ≠ "check_line" from by decide +kernel), z.cls 68, _, z.meth 69, (df_Memory_check_line z xi tbz).mono (by decide)⟩

theorem sc_Memory_check_word : FnScope ["self", "line", "word"] ["self", "line", "word"] (defScope st_Memory_check_word) := C8.fnScope_by (by decide +kernel)
theorem df_Memory_check_word (z : Kn fa fn fb K mg) (xi) (tbz : TBZ K mg base) : DF P w K mg base (TT K xi) 4 (He.fAd K ("Memory", some "check_word")) 3 F_Memory_check_word := by
  refine df_mk (z.fd 15 (d := dd_Memory_check_word) rfl rfl rfl) sc_Memory_check_word rfl rfl (fun _ _ _ _ _ _ us hl => match us, hl with | [_, _, _], _ => rfl) fun cdv A outer s H E hr => ?_
  exact (dss_cons (ds_expr (de_meth rfl (dm_check_line z xi tbz rfl rfl rfl rfl rfl) hr (takes_of rfl rfl rfl rfl) (de_var (pv 0)) (da_cons (de_var (pv 1)) da_nil)))
  (dss_one (ds_if (dt_not (dt_chain op_le op_lt de_int (de_var (pv 2)) (de_ix (de_get (tabOk z xi) nm_inj rfl (k := 5) rfl (de_var (pv 0))) (de_var (pv 1)))))
  (dss_one (ds_raise rfl (takes_of rfl rfl rfl rfl) (ex_NoWord z xi) hr (z.glo 28) (da_cons (de_var (pv 2)) da_nil)))
  dss_nil)))
theorem dm_check_word {X : Cx} (z : Kn fa fn fb K mg) (xi) (tbz : TBZ K mg base) (h1 : X.prog = P) (h2 : X.w = w) (h3 : X.K = K) (h4 : X.mg = mg) (h5 : X.base = base) : DM X (TT K xi) 4 "check_word" 3 (fun c => disp_check_word.lookup c) := by
  subst h1 h2 h3 h4 h5
  refine dm_of ?_
  intro p hp
  simp only [disp_check_word, List.mem_cons, List.not_mem_nil, or_false] at hp
  rcases hp with rfl
  · exact ⟨(show ∀ i ∈ od 7, nm i ≠ "check_word" from by decide +kernel), z.cls 68, _, z.meth 70, (df_Memory_check_word z xi tbz).mono (by decide)⟩

theorem sc_Store_check : FnScope ["self", "memory"] ["self", "memory"] (defScope st_Store_check) := C8.fnScope_by (by decide +kernel)
theorem df_Store_check (z : Kn fa fn fb K mg) (xi) (tbz : TBZ K mg base) : DF P w K mg base (TT K xi) 5 (He.fAd K ("Store", some "check")) 2 F_Store_check := by
  refine df_mk (z.fd 16 (d := dd_Store_check) rfl rfl rfl) sc_Store_check rfl rfl (fun _ _ _ _ _ _ us hl => match us, hl with | [_, _], _ => rfl) fun cdv A outer s H E hr => ?_
  exact (dss_one (ds_expr (de_meth rfl (dm_check_word z xi tbz rfl rfl rfl rfl rfl) hr (takes_of rfl rfl rfl rfl) (de_var (pv 1)) (da_cons (de_get (tabOk z xi) nm_inj rfl (k := 2) rfl (de_var (pv 0))) (da_cons (de_get (tabOk z xi) nm_inj rfl (k := 3) rfl (de_var (pv 0))) da_nil)))))
theorem sc_Flush_check : FnScope ["self", "memory"] ["self", "memory"] (defScope st_Flush_check) := C8.fnScope_by (by decide +kernel)
theorem df_Flush_check (z : Kn fa fn fb K mg) (xi) (tbz : TBZ K mg base) : DF P w K mg base (TT K xi) 4 (He.fAd K ("Flush", some "check")) 2 F_Flush_check := by
  refine df_mk (z.fd 17 (d := dd_Flush_check) rfl rfl rfl) sc_Flush_check rfl rfl (fun _ _ _ _ _ _ us hl => match us, hl with | [_, _], _ => rfl) fun cdv A outer s H E hr => ?_
  exact (dss_one (ds_expr (de_meth rfl (dm_check_line z xi tbz rfl rfl rfl rfl rfl) hr (takes_of rfl rfl rfl rfl) (de_var (pv 1)) (da_cons (de_get (tabOk z xi) nm_inj rfl (k := 2) rfl (de_var (pv 0))) da_nil))))
theorem sc_Command_check : FnScope ["self", "memory"] ["self", "memory"] (defScope st_Command_check) := C8.fnScope_by (by decide +kernel)
theorem df_Command_check (z : Kn fa fn fb K mg) (xi) (tbz : TBZ K mg base) : DF P w K mg base (TT K xi) 1 (He.fAd K ("Command", some "check")) 2 F_Command_check := by
  refine df_mk (z.fd 18 (d := dd_Command_check) rfl rfl rfl) sc_Command_check rfl rfl (fun _ _ _ _ _ _ us hl => match us, hl with | [_, _], _ => rfl) fun cdv A outer s H E hr => ?_
  exact (dss_one ds_pass)
theorem dm_check {X : Cx} (z : Kn fa fn fb K mg) (xi) (tbz : TBZ K mg base) (h1 : X.prog = P) (h2 : X.w = w) (h3 : X.K = K) (h4 : X.mg = mg) (h5 : X.base = base) : DM X (TT K xi) 5 "check" 2 (fun c => disp_check.lookup c) := by
  subst h1 h2 h3 h4 h5
  refine dm_of ?_
  intro p hp
  simp only [disp_check, List.mem_cons, List.not_mem_nil, or_false] at hp
  rcases hp with rfl | rfl | rfl
  · exact ⟨(show ∀ i ∈ od 9, nm i ≠ "check" from by decide +kernel), z.cls 71, _, z.meth 72, (df_Store_check z xi tbz).mono (by decide)⟩
  · exact ⟨(show ∀ i ∈ od 10, nm i ≠ "check" from by decide +kernel), z.cls 73, _, z.meth 74, (df_Flush_check z xi tbz).mono (by decide)⟩
  · have e := z.meq 4
    have d := (df_Command_check z xi tbz (P := X.prog) (w := X.w) (base := X.base)).mono (j := 5) (by decide)
    have d2 : DF X.prog X.w X.K X.mg X.base (TT X.K xi) 5 (He.ma X.K (He.ga X.K "Fence") "check") 2 F_Command_check := by
      rw [e]; exact d
    exact ⟨(show ∀ i ∈ od 11, nm i ≠ "check" from by decide +kernel), z.cls 75, _, z.meth 76, d2⟩

theorem sc_check_commands : FnScope ["memory", "commands", "command"] ["memory", "commands"] (defScope st_check_commands) := C8.fnScope_by (by decide +kernel)
theorem df_check_commands (z : Kn fa fn fb K mg) (xi) (tbz : TBZ K mg base) : DF P w K mg base (TT K xi) 6 (He.fAd K ("check_commands", none)) 2 F_check_commands := by
  refine df_mk (z.fd 19 (d := dd_check_commands) rfl rfl rfl) sc_check_commands rfl rfl (fun _ _ _ _ _ _ us hl => match us, hl with | [_, _], _ => rfl) fun cdv A outer s H E hr => ?_
  exact (dss_one (ds_for (passes_of rfl) rfl (di_any (de_var (pv 1))) (dg_name (pg_name sc_check_commands.nd (i := 2) rfl (by first | exact Or.inl rfl | exact Or.inr rfl)))
  (dss_one (ds_expr (de_meth rfl (dm_check z xi tbz rfl rfl rfl rfl rfl) hr (takes_of rfl rfl rfl rfl) (de_var (pv 2)) (da_cons (de_var (pv 0)) da_nil))))))
theorem sc_Box_init : FnScope ["self", "time", "low", "high"] ["self", "time", "low", "high"] (defScope st_Box_init) := C8.fnScope_by (by decide +kernel)
theorem df_Box_init (z : Kn fa fn fb K mg) (xi) (tbz : TBZ K mg base) : DF P w K mg base (TT K xi) 1 (He.fAd K ("Box", some "__init__")) 4 F_Box_init := by
  refine df_mk (z.fd 20 (d := dd_Box_init) rfl rfl rfl) sc_Box_init rfl rfl (fun _ _ _ _ _ _ us hl => match us, hl with | [_, _, _, _], _ => rfl) fun cdv A outer s H E hr => ?_
  exact (dss_cons (ds_fld (tabOk z xi) nm_inj rfl (k := 15) rfl (de_var (pv 0)) (de_var (pv 1)))
  (dss_cons (ds_fld (tabOk z xi) nm_inj rfl (k := 16) rfl (de_var (pv 0)) (de_tuple (z.free 10) (da_cons (de_var (pv 2)) da_nil)))
  (dss_one (ds_fld (tabOk z xi) nm_inj rfl (k := 17) rfl (de_var (pv 0)) (de_tuple (z.free 10) (da_cons (de_var (pv 3)) da_nil))))))
theorem dk_Box {X : Cx} (z : Kn fa fn fb K mg) (xi) (tbz : TBZ K mg base) (h1 : X.prog = P) (h2 : X.w = w) (h3 : X.K = K) (h4 : X.mg = mg) (h5 : X.base = base) : DK X (TT K xi) 1 16 3 F_Box_init := by
  subst h1 h2 h3 h4 h5
  exact ⟨⟨_, z.mkr 77, df_Box_init z xi tbz⟩⟩
theorem sc_Memory_zeros : FnScope ["self"] ["self"] (defScope st_Memory_zeros) := C8.fnScope_by (by decide +kernel)
theorem df_Memory_zeros (z : Kn fa fn fb K mg) (xi) (tbz : TBZ K mg base) : DF P w K mg base (TT K xi) 1 (He.fAd K ("Memory", some "zeros")) 1 F_Memory_zeros := by
  refine df_mk (z.fd 21 (d := dd_Memory_zeros) rfl rfl rfl) sc_Memory_zeros rfl rfl (fun _ _ _ _ _ _ us hl => match us, hl with | [_], _ => rfl) fun cdv A outer s H E hr => ?_
  exact (dss_one (ds_ret (de_mul (de_tup (da_cons de_int da_nil)) (de_len (z.free 3) (da_cons (de_get (tabOk z xi) nm_inj rfl (k := 5) rfl (de_var (pv 0))) da_nil)))))
theorem dm_zeros {X : Cx} (z : Kn fa fn fb K mg) (xi) (tbz : TBZ K mg base) (h1 : X.prog = P) (h2 : X.w = w) (h3 : X.K = K) (h4 : X.mg = mg) (h5 : X.base = base) : DM X (TT K xi) 1 "zeros" 1 (fun c => disp_zeros.lookup c) := by
  subst h1 h2 h3 h4 h5
  refine dm_of ?_
  intro p hp
  simp only [disp_zeros, List.mem_cons, List.not_mem_nil, or_false] at hp
  rcases hp with rfl
  · exact ⟨(show ∀ i ∈ od 7, nm i ≠ "zeros" from by decide +kernel), z.cls 68, _, z.meth 78, (df_Memory_zeros z xi tbz).mono (by decide)⟩

theorem sc_Counter_init : FnScope ["self", "memory"] ["self", "memory"] (defScope st_Counter_init) := C8.fnScope_by (by decide +kernel)
theorem df_Counter_init (z : Kn fa fn fb K mg) (xi) (tbz : TBZ K mg base) : DF P w K mg base (TT K xi) 1 (He.fAd K ("Counter", some "__init__")) 2 F_Counter_init := by
  refine df_mk (z.fd 22 (d := dd_Counter_init) rfl rfl rfl) sc_Counter_init rfl rfl (fun _ _ _ _ _ _ us hl => match us, hl with | [_, _], _ => rfl) fun cdv A outer s H E hr => ?_
  exact (dss_cons (ds_fld (tabOk z xi) nm_inj rfl (k := 12) rfl (de_var (pv 0)) (de_mulC (de_lst (da_cons de_int da_nil)) (de_len (z.free 3) (da_cons (de_get (tabOk z xi) nm_inj rfl (k := 5) rfl (de_var (pv 1))) da_nil))))
  (dss_cons (ds_fld (tabOk z xi) nm_inj rfl (k := 13) rfl (de_var (pv 0)) (de_mulC (de_lst (da_cons de_int da_nil)) (de_len (z.free 3) (da_cons (de_get (tabOk z xi) nm_inj rfl (k := 5) rfl (de_var (pv 1))) da_nil))))
  (dss_one (ds_fld (tabOk z xi) nm_inj rfl (k := 14) rfl (de_var (pv 0)) (de_mul (de_lst (da_cons de_int da_nil)) (de_len (z.free 3) (da_cons (de_get (tabOk z xi) nm_inj rfl (k := 5) rfl (de_var (pv 1))) da_nil)))))))
theorem dk_Counter {X : Cx} (z : Kn fa fn fb K mg) (xi) (tbz : TBZ K mg base) (h1 : X.prog = P) (h2 : X.w = w) (h3 : X.K = K) (h4 : X.mg = mg) (h5 : X.base = base) : DK X (TT K xi) 1 15 1 F_Counter_init := by
  subst h1 h2 h3 h4 h5
  exact ⟨⟨_, z.mkr 79, df_Counter_init z xi tbz⟩⟩
theorem sc_Counter_do_command : FnScope ["self", "command"] ["self", "command"] (defScope st_Counter_do_command) := C8.fnScope_by (by decide +kernel)
theorem df_Counter_do_command (z : Kn fa fn fb K mg) (xi) (tbz : TBZ K mg base) : DF P w K mg base (TT K xi) 1 (He.fAd K ("Counter", some "do_command")) 2 F_Counter_do_command := by
  refine df_mk (z.fd 23 (d := dd_Counter_do_command) rfl rfl rfl) sc_Counter_do_command rfl rfl (fun _ _ _ _ _ _ us hl => match us, hl with | [_, _], _ => rfl) fun cdv A outer s H E hr => ?_
  exact (dss_one (ds_if (dt_val (de_isi (ist_Store z xi) (z.free 36) (z.glo 17) (de_var (pv 1))))
  (dss_one (ds_asg (de_add (de_ix (de_get (tabOk z xi) nm_inj rfl (k := 12) rfl (de_var (pv 0))) (de_get (tabOk z xi) nm_inj rfl (k := 2) rfl (de_var (pv 1)))) de_int) (dg_ix rfl (de_get (tabOk z xi) nm_inj rfl (k := 12) rfl (de_var (pv 0))) (de_get (tabOk z xi) nm_inj rfl (k := 2) rfl (de_var (pv 1))))))
  (dss_one (ds_if (dt_val (de_isi (ist_Flush z xi) (z.free 36) (z.glo 18) (de_var (pv 1))))
  (dss_one (ds_asg (de_ix (de_get (tabOk z xi) nm_inj rfl (k := 12) rfl (de_var (pv 0))) (de_get (tabOk z xi) nm_inj rfl (k := 2) rfl (de_var (pv 1)))) (dg_ix rfl (de_get (tabOk z xi) nm_inj rfl (k := 13) rfl (de_var (pv 0))) (de_get (tabOk z xi) nm_inj rfl (k := 2) rfl (de_var (pv 1))))))
  (dss_one (ds_fld (tabOk z xi) nm_inj rfl (k := 14) rfl (de_var (pv 0)) (de_list (z.free 21) (da_cons (de_get (tabOk z xi) nm_inj rfl (k := 13) rfl (de_var (pv 0))) da_nil))))))))
theorem dm_do_command {X : Cx} (z : Kn fa fn fb K mg) (xi) (tbz : TBZ K mg base) (h1 : X.prog = P) (h2 : X.w = w) (h3 : X.K = K) (h4 : X.mg = mg) (h5 : X.base = base) : DM X (TT K xi) 1 "do_command" 2 (fun c => disp_do_command.lookup c) := by
  subst h1 h2 h3 h4 h5
  refine dm_of ?_
  intro p hp
  simp only [disp_do_command, List.mem_cons, List.not_mem_nil, or_false] at hp
  rcases hp with rfl
  · exact ⟨(show ∀ i ∈ od 15, nm i ≠ "do_command" from by decide +kernel), z.cls 80, _, z.meth 81, (df_Counter_do_command z xi tbz).mono (by decide)⟩

theorem sc_boxes_of : FnScope ["memory", "commands", "found", "counter", "index", "command", "low"] ["memory", "commands"] (defScope st_boxes_of) := C8.fnScope_by (by decide +kernel)
theorem df_boxes_of (z : Kn fa fn fb K mg) (xi) (tbz : TBZ K mg base) : DF P w K mg base (TT K xi) 3 (He.fAd K ("boxes_of", none)) 2 F_boxes_of := by
  refine df_mk (z.fd 24 (d := dd_boxes_of) rfl rfl rfl) sc_boxes_of rfl rfl (fun _ _ _ _ _ _ us hl => match us, hl with | [_, _], _ => rfl) fun cdv A outer s H E hr => ?_
  exact (dss_cons (ds_set sc_boxes_of.nd (de_lstC (da_cons (de_mkO rfl (dk_Box z xi tbz rfl rfl rfl rfl rfl) (z.glo 33) hr (takes_of rfl rfl rfl rfl) (da_cons de_int (da_cons (de_meth0 rfl (dm_zeros z xi tbz rfl rfl rfl rfl rfl) hr (takes_of rfl rfl rfl rfl) (de_var (pv 0))) (da_cons (de_meth0 rfl (dm_zeros z xi tbz rfl rfl rfl rfl rfl) hr (takes_of rfl rfl rfl rfl) (de_var (pv 0))) da_nil)))) da_nil)))
  (dss_cons (ds_set sc_boxes_of.nd (de_mkC (dk_Counter z xi tbz rfl rfl rfl rfl rfl) (z.glo 34) hr (takes_of rfl rfl rfl rfl) (da_cons (de_var (pv 0)) da_nil)))
  (dss_cons (ds_for (passes_of rfl) rfl (di_enumA (z.free 35) (da_cons (de_var (pv 1)) da_nil)) (dg_tup rfl (dgs_cons (dg_name (pg_name sc_boxes_of.nd (i := 4) rfl (by first | exact Or.inl rfl | exact Or.inr rfl))) (dgs_cons (dg_name (pg_name sc_boxes_of.nd (i := 5) rfl (by first | exact Or.inl rfl | exact Or.inr rfl))) dgs_nil)))
  (dss_cons (ds_expr (de_meth rfl (dm_do_command z xi tbz rfl rfl rfl rfl rfl) hr (takes_of rfl rfl rfl rfl) (de_var (pv 3)) (da_cons (de_var (pv 5)) da_nil)))
  (dss_one (ds_if (dt_val (de_isi (ist_Store z xi) (z.free 36) (z.glo 17) (de_var (pv 5))))
  (dss_cons (ds_set sc_boxes_of.nd (de_listC (z.free 21) (da_cons (de_get (tabOk z xi) nm_inj rfl (k := 14) rfl (de_var (pv 3))) da_nil)))
  (dss_cons (ds_asg (de_ix (de_get (tabOk z xi) nm_inj rfl (k := 12) rfl (de_var (pv 3))) (de_get (tabOk z xi) nm_inj rfl (k := 2) rfl (de_var (pv 5)))) (dg_ix rfl (de_var (pv 6)) (de_get (tabOk z xi) nm_inj rfl (k := 2) rfl (de_var (pv 5)))))
  (dss_one (ds_expr (de_append (de_var (pv 2)) (da_cons (de_mkO rfl (dk_Box z xi tbz rfl rfl rfl rfl rfl) (z.glo 33) hr (takes_of rfl rfl rfl rfl) (da_cons (de_add (de_var (pv 4)) de_int) (da_cons (de_var (pv 6)) (da_cons (de_get (tabOk z xi) nm_inj rfl (k := 12) rfl (de_var (pv 3))) da_nil)))) da_nil))))))
  dss_nil))))
  (dss_one (ds_ret (de_frz (de_var (pv 2))))))))
theorem sc_Box_size : FnScope ["self", "found", "low", "high"] ["self"] (defScope st_Box_size) := C8.fnScope_by (by decide +kernel)
theorem df_Box_size (z : Kn fa fn fb K mg) (xi) (tbz : TBZ K mg base) : DF P w K mg base (TT K xi) 1 (He.fAd K ("Box", some "size")) 1 F_Box_size := by
  refine df_mk (z.fd 25 (d := dd_Box_size) rfl rfl rfl) sc_Box_size rfl rfl (fun _ _ _ _ _ _ us hl => match us, hl with | [_], _ => rfl) fun cdv A outer s H E hr => ?_
  exact (dss_cons (ds_set sc_Box_size.nd de_int)
  (dss_cons (ds_for (passes_of rfl) rfl (di_zip (z.free 24) (da_cons (de_get (tabOk z xi) nm_inj rfl (k := 16) rfl (de_var (pv 0))) (da_cons (de_get (tabOk z xi) nm_inj rfl (k := 17) rfl (de_var (pv 0))) da_nil))) (dg_tup rfl (dgs_cons (dg_name (pg_name sc_Box_size.nd (i := 2) rfl (by first | exact Or.inl rfl | exact Or.inr rfl))) (dgs_cons (dg_name (pg_name sc_Box_size.nd (i := 3) rfl (by first | exact Or.inl rfl | exact Or.inr rfl))) dgs_nil)))
  (dss_one (ds_set sc_Box_size.nd (de_mul (de_var (pv 1)) (de_add (de_sub (de_var (pv 3)) (de_var (pv 2))) de_int)))))
  (dss_one (ds_ret (de_var (pv 1))))))
theorem dm_size {X : Cx} (z : Kn fa fn fb K mg) (xi) (tbz : TBZ K mg base) (h1 : X.prog = P) (h2 : X.w = w) (h3 : X.K = K) (h4 : X.mg = mg) (h5 : X.base = base) : DM X (TT K xi) 1 "size" 1 (fun c => disp_size.lookup c) := by
  subst h1 h2 h3 h4 h5
  refine dm_of ?_
  intro p hp
  simp only [disp_size, List.mem_cons, List.not_mem_nil, or_false] at hp
  rcases hp with rfl
  · exact ⟨(show ∀ i ∈ od 16, nm i ≠ "size" from by decide +kernel), z.cls 82, _, z.meth 83, (df_Box_size z xi tbz).mono (by decide)⟩

theorem sc_count_of : FnScope ["memory", "commands", "box"] ["memory", "commands"] (defScope st_count_of) := C8.fnScope_by (by decide +kernel)
theorem df_count_of (z : Kn fa fn fb K mg) (xi) (tbz : TBZ K mg base) : DF P w K mg base (TT K xi) 4 (He.fAd K ("count_of", none)) 2 F_count_of := by
  refine df_mk (z.fd 26 (d := dd_count_of) rfl rfl rfl) sc_count_of rfl rfl (fun _ _ _ _ _ _ us hl => match us, hl with | [_, _], _ => rfl) fun cdv A outer s H E hr => ?_
  exact (dss_one (ds_ret (de_sum rfl (z.free 32) (da_cons (de_lc (de_lcC (own := [("box", 2)]) rfl sc_count_of.nd (di_list (de_call (df_boxes_of z xi tbz) (z.glo 37) hr (takes_of rfl rfl rfl rfl) (da_cons (de_var (pv 0)) (da_cons (de_var (pv 1)) da_nil)))) (blk_by (by kernel_rfl)) (fun _ _ _ _ _ => (dgk_name (pg_name sc_count_of.nd (i := 2) rfl (by first | exact Or.inl rfl | exact Or.inr rfl)))) (fun _ _ _ _ _ => dts_nil) (fun _ _ _ _ _ => (de_meth0 rfl (dm_size z xi tbz rfl rfl rfl rfl rfl) hr takes_no (de_var (pv 2)))))) da_nil))))
theorem sc_extended : FnScope ["numbers", "steps", "found", "choices", "index", "earlier", "later"] ["numbers", "steps"] (defScope st_extended) := C8.fnScope_by (by decide +kernel)
theorem df_extended (z : Kn fa fn fb K mg) (xi) (tbz : TBZ K mg base) : DF P w K mg base (TT K xi) 1 (He.fAd K ("extended", none)) 2 F_extended := by
  refine df_mk (z.fd 27 (d := dd_extended) rfl rfl rfl) sc_extended rfl rfl (fun _ _ _ _ _ _ us hl => match us, hl with | [_, _], _ => rfl) fun cdv A outer s H E hr => ?_
  exact (dss_cons (ds_asg (de_tup (da_cons de_int (da_cons de_int da_nil))) (dg_tup rfl (dgs_cons (dg_name (pg_name sc_extended.nd (i := 2) rfl (by first | exact Or.inl rfl | exact Or.inr rfl))) (dgs_cons (dg_name (pg_name sc_extended.nd (i := 3) rfl (by first | exact Or.inl rfl | exact Or.inr rfl))) dgs_nil))))
  (dss_cons (ds_set sc_extended.nd de_int)
  (dss_cons (ds_while (passes_of rfl) (DC.tt (dc_ne (eqB0 (n := 0) (h := 20) (by decide)) (hr.mono (Nat.zero_le _)) (de_var (pv 0)) (de_lst da_nil)))
  (dss_cons (ds_set sc_extended.nd (de_add (de_var (pv 2)) (de_mul (de_var (pv 3)) (de_ix (de_var (pv 0)) de_int))))
  (dss_cons (ds_set sc_extended.nd (de_fdiv (de_mul (de_var (pv 3)) (de_sub (de_var (pv 1)) (de_var (pv 4)))) (de_add (de_var (pv 4)) de_int)))
  (dss_cons (ds_set sc_extended.nd (de_add (de_var (pv 4)) de_int))
  (dss_one (ds_setLc (own := [("earlier", 5), ("later", 6)]) rfl sc_extended.nd (di_zip (z.free 24) (da_cons (de_var (pv 0)) (da_cons (de_slice (de_var (pv 0)) (do_some de_int) do_none) da_nil))) (blk_by (by kernel_rfl)) (fun _ _ _ _ _ => (dgk_tup rfl (dgks_cons (dgk_name (pg_name sc_extended.nd (i := 5) rfl (by first | exact Or.inl rfl | exact Or.inr rfl))) (dgks_cons (dgk_name (pg_name sc_extended.nd (i := 6) rfl (by first | exact Or.inl rfl | exact Or.inr rfl))) dgks_nil)))) (fun _ _ _ _ _ => dts_nil) (fun _ _ _ _ _ => (de_sub (de_var (pv 6)) (de_var (pv 5))))))))))
  (dss_one (ds_ret (de_var (pv 2)))))))
theorem sc_count_repeated : FnScope ["memory", "head", "block", "tail", "rounds", "many", "last", "numbers", "turn"] ["memory", "head", "block", "tail", "rounds"] (defScope st_count_repeated) := C8.fnScope_by (by decide +kernel)
theorem df_count_repeated (z : Kn fa fn fb K mg) (xi) (tbz : TBZ K mg base) : DF P w K mg base (TT K xi) 7 (He.fAd K ("count_repeated", none)) 5 F_count_repeated := by
  refine df_mk (z.fd 28 (d := dd_count_repeated) rfl rfl rfl) sc_count_repeated rfl rfl (fun _ _ _ _ _ _ us hl => match us, hl with | [_, _, _, _, _], _ => rfl) fun cdv A outer s H E hr => ?_
  exact (dss_cons (ds_asg (de_tup (da_cons (de_list (z.free 21) (da_cons (de_var (pv 1)) da_nil)) (da_cons (de_list (z.free 21) (da_cons (de_var (pv 2)) da_nil)) (da_cons (de_list (z.free 21) (da_cons (de_var (pv 3)) da_nil)) da_nil)))) (dg_tup rfl (dgs_cons (dg_name (pg_name sc_count_repeated.nd (i := 1) rfl (by first | exact Or.inl rfl | exact Or.inr rfl))) (dgs_cons (dg_name (pg_name sc_count_repeated.nd (i := 2) rfl (by first | exact Or.inl rfl | exact Or.inr rfl))) (dgs_cons (dg_name (pg_name sc_count_repeated.nd (i := 3) rfl (by first | exact Or.inl rfl | exact Or.inr rfl))) dgs_nil)))))
  (dss_cons (ds_set sc_count_repeated.nd (de_add (de_add (de_len (z.free 3) (da_cons (de_var (pv 1)) da_nil)) (de_len (z.free 3) (da_cons (de_var (pv 2)) da_nil))) (de_len (z.free 3) (da_cons (de_var (pv 3)) da_nil))))
  (dss_cons (ds_if (DC.tt (dc_gt (de_var (pv 5)) (de_gint rfl (z.int 26))))
  (dss_one (ds_raise rfl (takes_of rfl rfl rfl rfl) (ex_BadCount z xi) hr (z.glo 12) (da_cons de_str (da_cons (de_var (pv 5)) da_nil))))
  dss_nil)
  (dss_cons (ds_expr (de_call (df_check_commands z xi tbz) (z.glo 29) hr (takes_of rfl rfl rfl rfl) (da_cons (de_var (pv 0)) (da_cons (de_add (de_add (de_var (pv 1)) (de_var (pv 2))) (de_var (pv 3))) da_nil))))
  (dss_cons (ds_if (dt_not (dt_chain op_le op_le de_int (de_var (pv 4)) (de_gint rfl (z.int 30))))
  (dss_one (ds_raise rfl (takes_of rfl rfl rfl rfl) (ex_BadCount z xi) hr (z.glo 12) (da_cons de_str (da_cons (de_var (pv 4)) da_nil))))
  dss_nil)
  (dss_cons (ds_set sc_count_repeated.nd (de_add (de_add (de_gint rfl (z.int 31)) (de_len (z.free 3) (da_cons (de_get (tabOk z xi) nm_inj rfl (k := 5) rfl (de_var (pv 0))) da_nil))) de_int))
  (dss_cons (ds_if (DC.tt (dc_le (de_var (pv 4)) (de_var (pv 6))))
  (dss_one (ds_ret (de_call (df_count_of z xi tbz) (z.glo 38) hr (takes_of rfl rfl rfl rfl) (da_cons (de_var (pv 0)) (da_cons (de_add (de_add (de_var (pv 1)) (de_mul (de_var (pv 2)) (de_var (pv 4)))) (de_var (pv 3))) da_nil)))))
  dss_nil)
  (dss_cons (ds_setLc (own := [("turn", 8)]) rfl sc_count_repeated.nd (di_range2 rfl (z.free 0) (da_cons (de_gint rfl (z.int 31)) (da_cons (de_add (de_var (pv 6)) de_int) da_nil))) (blk_by (by kernel_rfl)) (fun _ _ _ _ _ => (dgk_name (pg_name sc_count_repeated.nd (i := 8) rfl (by first | exact Or.inl rfl | exact Or.inr rfl)))) (fun _ _ _ _ _ => dts_nil) (fun _ _ _ _ _ => (de_call (df_count_of z xi tbz) (z.glo 38) hr takes_no (da_cons (de_var (pv 0)) (da_cons (de_add (de_add (de_var (pv 1)) (de_mul (de_var (pv 2)) (de_var (pv 8)))) (de_var (pv 3))) da_nil)))))
  (dss_one (ds_ret (de_call (df_extended z xi tbz) (z.glo 39) hr (takes_of rfl rfl rfl rfl) (da_cons (de_var (pv 7)) (da_cons (de_sub (de_var (pv 4)) (de_gint rfl (z.int 31))) da_nil)))))))))))))
theorem sc_boxes : FnScope ["program"] ["program"] (defScope st_boxes) := C8.fnScope_by (by decide +kernel)
theorem df_boxes (z : Kn fa fn fb K mg) (xi) (tbz : TBZ K mg base) : DF P w K mg base (TT K xi) 4 (He.fAd K ("boxes", none)) 1 F_boxes := by
  refine df_mk (z.fd 29 (d := dd_boxes) rfl rfl rfl) sc_boxes rfl rfl (fun _ _ _ _ _ _ us hl => match us, hl with | [_], _ => rfl) fun cdv A outer s H E hr => ?_
  exact (dss_one (ds_ret (de_call (df_boxes_of z xi tbz) (z.glo 37) hr (takes_of rfl rfl rfl rfl) (da_cons (de_get (tabOk z xi) nm_inj rfl (k := 7) rfl (de_var (pv 0))) (da_cons (de_get (tabOk z xi) nm_inj rfl (k := 8) rfl (de_var (pv 0))) da_nil)))))
theorem sc_count : FnScope ["program", "box"] ["program"] (defScope st_count) := C8.fnScope_by (by decide +kernel)
theorem df_count (z : Kn fa fn fb K mg) (xi) (tbz : TBZ K mg base) : DF P w K mg base (TT K xi) 5 (He.fAd K ("count", none)) 1 F_count := by
  refine df_mk (z.fd 30 (d := dd_count) rfl rfl rfl) sc_count rfl rfl (fun _ _ _ _ _ _ us hl => match us, hl with | [_], _ => rfl) fun cdv A outer s H E hr => ?_
  exact (dss_one (ds_ret (de_sum rfl (z.free 32) (da_cons (de_lc (de_lcC (own := [("box", 1)]) rfl sc_count.nd (di_list (de_call (df_boxes z xi tbz) (z.glo 41) hr (takes_of rfl rfl rfl rfl) (da_cons (de_var (pv 0)) da_nil))) (blk_by (by kernel_rfl)) (fun _ _ _ _ _ => (dgk_name (pg_name sc_count.nd (i := 1) rfl (by first | exact Or.inl rfl | exact Or.inr rfl)))) (fun _ _ _ _ _ => dts_nil) (fun _ _ _ _ _ => (de_meth0 rfl (dm_size z xi tbz rfl rfl rfl rfl rfl) hr takes_no (de_var (pv 1)))))) da_nil))))
theorem sc_Program_init : FnScope ["self", "memory", "commands"] ["self", "memory", "commands"] (defScope st_Program_init) := C8.fnScope_by (by decide +kernel)
theorem df_Program_init (z : Kn fa fn fb K mg) (xi) (tbz : TBZ K mg base) : DF P w K mg base (TT K xi) 7 (He.fAd K ("Program", some "__init__")) 3 F_Program_init := by
  refine df_mk (z.fd 31 (d := dd_Program_init) rfl rfl rfl) sc_Program_init rfl rfl (fun _ _ _ _ _ _ us hl => match us, hl with | [_, _, _], _ => rfl) fun cdv A outer s H E hr => ?_
  exact (dss_cons (ds_fld (tabOk z xi) nm_inj rfl (k := 7) rfl (de_var (pv 0)) (de_var (pv 1)))
  (dss_cons (ds_fld (tabOk z xi) nm_inj rfl (k := 8) rfl (de_var (pv 0)) (de_tuple (z.free 10) (da_cons (de_var (pv 2)) da_nil)))
  (dss_cons (ds_if (DC.tt (dc_gt (de_len (z.free 3) (da_cons (de_get (tabOk z xi) nm_inj rfl (k := 8) rfl (de_var (pv 0))) da_nil)) (de_gint rfl (z.int 43))))
  (dss_one (ds_raise rfl (takes_of rfl rfl rfl rfl) (ex_BadCount z xi) hr (z.glo 12) (da_cons de_str (da_cons (de_len (z.free 3) (da_cons (de_get (tabOk z xi) nm_inj rfl (k := 8) rfl (de_var (pv 0))) da_nil)) da_nil))))
  dss_nil)
  (dss_one (ds_expr (de_call (df_check_commands z xi tbz) (z.glo 29) hr (takes_of rfl rfl rfl rfl) (da_cons (de_var (pv 1)) (da_cons (de_get (tabOk z xi) nm_inj rfl (k := 8) rfl (de_var (pv 0))) da_nil))))))))
theorem dk_Program {X : Cx} (z : Kn fa fn fb K mg) (xi) (tbz : TBZ K mg base) (h1 : X.prog = P) (h2 : X.w = w) (h3 : X.K = K) (h4 : X.mg = mg) (h5 : X.base = base) : DK X (TT K xi) 7 12 2 F_Program_init := by
  subst h1 h2 h3 h4 h5
  exact ⟨⟨_, z.mkr 84, df_Program_init z xi tbz⟩⟩
theorem sc_law_error : FnScope ["_law_action", "e"] ["_law_action"] (defScope st_law_error) := C8.fnScope_by (by decide +kernel)
theorem gv_law_error {X : Cx} (z : Kn fa fn fb K mg) (xi) (tbz : TBZ K mg base) (h1 : X.prog = P) (h2 : X.w = w) (h3 : X.K = K) (h4 : X.mg = mg) (h5 : X.base = base) (qq : PySem.Str) (cdv : Value) : Gives X ["_law_action", "e"] "_law_error" (defScope st_law_error) (He.fAd X.K ("_law_error", none)) cdv (defBody st_law_error) "_law_action" qq (TTd (TT X.K xi) X.K 2 H_law_error g_law_error) := by
  subst h1 h2 h3 h4 h5
  exact act_gives (by decide) (by decide) (fun s H => (HdX.consA (i := 1) rfl rfl ⟨rfl, by decide, .inl (z.glo 12)⟩ (TblOk.cons (z.exm 59) (TblOk.cons (z.exm 58) (TblOk.cons (z.exm 57) TblOk.nil))) (fun a oe cls d pn hz hf => (dx_tup (dxs_cons (dx_attr (C := 1) (k := 0) nm_inj rfl (z.xcls 3).2.1 (z.noa 61) hz hf (pv 1)) (dxs_cons (dx_attr (C := 1) (k := 1) nm_inj rfl (z.xcls 3).2.1 (z.noa 60) hz hf (pv 1)) dxs_nil)))) (HdX.consA (i := 1) rfl rfl ⟨rfl, by decide, .inl (z.glo 27)⟩ (TblOk.cons (z.exm 55) (TblOk.cons (z.exm 54) (TblOk.cons (z.exm 53) TblOk.nil))) (fun a oe cls d pn hz hf => (dx_tup (dxs_cons (dx_of de_str) (dxs_cons (dx_attr (C := 2) (k := 2) nm_inj rfl (z.xcls 2).2.1 (z.noa 56) hz hf (pv 1)) dxs_nil)))) (HdX.consA (i := 1) rfl rfl ⟨rfl, by decide, .inl (z.glo 28)⟩ (TblOk.cons (z.exm 51) (TblOk.cons (z.exm 50) (TblOk.cons (z.exm 49) TblOk.nil))) (fun a oe cls d pn hz hf => (dx_tup (dxs_cons (dx_of de_str) (dxs_cons (dx_attr (C := 3) (k := 3) nm_inj rfl (z.xcls 1).2.1 (z.noa 52) hz hf (pv 1)) dxs_nil)))) (HdX.cons ⟨rfl, by decide, .inl (z.glo 48)⟩ (TblOk.cons (z.exm 47) (TblOk.cons (z.exm 46) (TblOk.cons (z.exm 45) TblOk.nil))) (fun a oe cls d pn hz hf => (dx_tup (dxs_cons (dx_of de_str) (dxs_cons (dx_of de_non) dxs_nil)))) HdX.nil)))))
    (fun s H => (dss_one (ds_ret de_non))) (fun _ _ _ _ => rfl)
theorem sc_law_errors_right : FnScope ["_law_source_here", "_law_memory", "_law_parts", "_law_many", "_law_odd", "_law_wanted", "_law_rounds_so", "_law_long", "_law_at", "_law_some", "_law_turns", "_law_part"] ["_law_source_here", "_law_memory", "_law_parts"] (defScope st_law_errors_right) := C8.fnScope_by (by decide +kernel)
theorem df_law_errors_right (z : Kn fa fn fb K mg) (xi) (tbz : TBZ K mg base) : DF P w K mg base (TT K xi) 10 (He.fAd K ("_law_errors_right", none)) 3 F_law_errors_right := by
  refine df_mkL (pd := ("_law_errors_right", none)) (z.fd 33 (d := dd_law_errors_right) rfl rfl rfl) sc_law_errors_right rfl rfl (fun _ _ _ _ _ _ us hl => match us, hl with | [_, _, _], _ => rfl) fun A outer s H E hr => ?_
  exact (dss_cons (ds_set sc_law_errors_right.nd (de_len (z.free 3) (da_cons (de_get (tabOk z xi) nm_inj rfl (k := 5) rfl (de_var (pv 1))) da_nil)))
  (dss_cons (ds_set sc_law_errors_right.nd (de_call (df_law_choice z xi tbz) (z.glo 14) hr (takes_of rfl rfl rfl rfl) (da_cons (de_var (pv 0)) (da_cons (de_lst (da_cons (de_mkO rfl (dk_Store z xi tbz rfl rfl rfl rfl rfl) (z.glo 17) hr (takes_of rfl rfl rfl rfl) (da_cons (de_var (pv 3)) (da_cons de_int (da_cons de_int da_nil)))) (da_cons (de_mkO rfl (dk_Store z xi tbz rfl rfl rfl rfl rfl) (z.glo 17) hr (takes_of rfl rfl rfl rfl) (da_cons de_int (da_cons (de_ix (de_get (tabOk z xi) nm_inj rfl (k := 5) rfl (de_var (pv 1))) de_int) (da_cons de_int da_nil)))) (da_cons (de_mkO rfl (dk_Flush z xi tbz rfl rfl rfl rfl rfl) (z.glo 18) hr (takes_of rfl rfl rfl rfl) (da_cons (de_neg de_int) da_nil)) (da_cons (de_mkO rfl (dk_Store z xi tbz rfl rfl rfl rfl rfl) (z.glo 17) hr (takes_of rfl rfl rfl rfl) (da_cons de_int (da_cons (de_neg de_int) (da_cons de_int da_nil)))) da_nil))))) da_nil))))
  (dss_cons (ds_set sc_law_errors_right.nd (de_tup (da_cons de_str (da_cons (de_neg de_int) da_nil))))
  (dss_cons (ds_if (dt_val (de_isi (ist_Store z xi) (z.free 36) (z.glo 17) (de_var (pv 4))))
  (dss_one (ds_set sc_law_errors_right.nd (de_if (DC.tt (dc_eq (eqB0 (n := 0) (h := 20) (by decide)) (hr.mono (Nat.zero_le _)) (de_get (tabOk z xi) nm_inj rfl (k := 2) rfl (de_var (pv 4))) (de_var (pv 3)))) (de_tup (da_cons de_str (da_cons (de_var (pv 3)) da_nil))) (de_tup (da_cons de_str (da_cons (de_get (tabOk z xi) nm_inj rfl (k := 3) rfl (de_var (pv 4))) da_nil))))))
  dss_nil)
  (dss_cons (ds_set sc_law_errors_right.nd (de_call (df_law_choice z xi tbz) (z.glo 14) hr (takes_of rfl rfl rfl rfl) (da_cons (de_var (pv 0)) (da_cons (de_lst (da_cons (de_neg de_int) (da_cons (de_add (de_pow de_int de_int) de_int) (da_cons (de_sub (de_neg de_int) (de_call (df_law_draw z xi tbz) (z.glo 7) hr (takes_of rfl rfl rfl rfl) (da_cons (de_var (pv 0)) (da_cons (de_pow de_int de_int) da_nil)))) da_nil)))) da_nil))))
  (dss_cons (ds_set sc_law_errors_right.nd (de_mul (de_lst (da_cons (de_mk0 (z.mk0 0) rfl (z.glo 19)) da_nil)) de_int))
  (dss_cons (ds_if (DC.tt (dc_ne (eqB0 (n := 0) (h := 20) (by decide)) (hr.mono (Nat.zero_le _)) (de_lamcall (k := 7) (z.fd 32 (d := dd_law_error) rfl rfl rfl) sc_law_error (z.glo 62) (fun cdv => gv_law_error z xi tbz rfl rfl rfl rfl rfl _ cdv) (tbz _ (List.mem_of_getElem? (i := 0) rfl)) rfl (tbnd z xi) (i := 0) rfl hr (LamX.lamS_by (sc := defScope st_law_errors_right) (by decide +kernel)) (fun _ _ _ _ _ _ us hl => match us, hl with | [_], _ => rfl) (fun _ _ _ _ _ => rfl) (fun A outer s H E f c' hr => (de_call (df_count_repeated z xi tbz) (z.glo 40) hr (takes_of rfl rfl rfl rfl) (da_cons (de_var (pv 1)) (da_cons (de_var (pv 7)) (da_cons (de_add (de_var (pv 7)) (de_lst (da_cons (de_var (pv 4)) da_nil))) (da_cons (de_var (pv 7)) (da_cons (de_var (pv 6)) da_nil)))))))) (de_tup (da_cons de_str (da_cons de_int da_nil)))))
  (dss_one (ds_ret de_bl))
  dss_nil)
  (dss_cons (ds_for (passes_of rfl) rfl (di_range1 rfl (z.free 0) (da_cons de_int da_nil)) (dg_name (pg_name sc_law_errors_right.nd (i := 8) rfl (by first | exact Or.inl rfl | exact Or.inr rfl)))
  (dss_cons (ds_set sc_law_errors_right.nd (de_lcC (own := [("_law_part", 11)]) rfl sc_law_errors_right.nd (di_list (de_var (pv 2))) (blk_by (by kernel_rfl)) (fun _ _ _ _ _ => (dgk_name (pg_name sc_law_errors_right.nd (i := 11) rfl (by first | exact Or.inl rfl | exact Or.inr rfl)))) (fun _ _ _ _ _ => dts_nil) (fun _ _ _ _ _ => (de_listC (z.free 21) (da_cons (de_var (pv 11)) da_nil)))))
  (dss_cons (ds_expr (de_insert (de_ix (de_var (pv 9)) (de_var (pv 8))) (da_cons (de_call (df_law_draw z xi tbz) (z.glo 7) hr (takes_of rfl rfl rfl rfl) (da_cons (de_var (pv 0)) (da_cons (de_add (de_len (z.free 3) (da_cons (de_ix (de_var (pv 9)) (de_var (pv 8))) da_nil)) de_int) da_nil))) (da_cons (de_var (pv 4)) da_nil))))
  (dss_cons (ds_if (DC.tt (dc_lt (de_var (pv 8)) de_int))
  (dss_one (ds_asg (de_lst (da_cons (de_mkO rfl (dk_Flush z xi tbz rfl rfl rfl rfl rfl) (z.glo 18) hr (takes_of rfl rfl rfl rfl) (da_cons (de_add (de_var (pv 3)) de_int) da_nil)) da_nil)) (dg_ix rfl (de_var (pv 9)) de_int)))
  dss_nil)
  (dss_one (ds_for (passes_of rfl) rfl (di_list (de_lst (da_cons (de_var (pv 6)) (da_cons de_int (da_cons de_int (da_cons de_int (da_cons de_int (da_cons de_int (da_cons (de_pow de_int de_int) da_nil))))))))) (dg_name (pg_name sc_law_errors_right.nd (i := 10) rfl (by first | exact Or.inl rfl | exact Or.inr rfl)))
  (dss_one (ds_if (DC.tt (dc_ne (eqB0 (n := 0) (h := 20) (by decide)) (hr.mono (Nat.zero_le _)) (de_lamcall (k := 7) (z.fd 32 (d := dd_law_error) rfl rfl rfl) sc_law_error (z.glo 62) (fun cdv => gv_law_error z xi tbz rfl rfl rfl rfl rfl _ cdv) (tbz _ (List.mem_of_getElem? (i := 0) rfl)) rfl (tbnd z xi) (i := 0) rfl hr (LamX.lamS_by (sc := defScope st_law_errors_right) (by decide +kernel)) (fun _ _ _ _ _ _ us hl => match us, hl with | [_], _ => rfl) (fun _ _ _ _ _ => rfl) (fun A outer s H E f c' hr => (de_call (df_count_repeated z xi tbz) (z.glo 40) hr (takes_of rfl rfl rfl rfl) (da_cons (de_var (pv 1)) (da_cons (de_ix (de_var (pv 9)) de_int) (da_cons (de_ix (de_var (pv 9)) de_int) (da_cons (de_ix (de_var (pv 9)) de_int) (da_cons (de_var (pv 10)) da_nil)))))))) (de_var (pv 5))))
  (dss_one (ds_ret de_bl))
  dss_nil))))))))
  (dss_one (ds_ret (DC.ex (dc_eq (eqB0 (n := 0) (h := 20) (by decide)) (hr.mono (Nat.zero_le _)) (de_lamcall (k := 7) (z.fd 32 (d := dd_law_error) rfl rfl rfl) sc_law_error (z.glo 62) (fun cdv => gv_law_error z xi tbz rfl rfl rfl rfl rfl _ cdv) (tbz _ (List.mem_of_getElem? (i := 0) rfl)) rfl (tbnd z xi) (i := 0) rfl hr (LamX.lamS_by (sc := defScope st_law_errors_right) (by decide +kernel)) (fun _ _ _ _ _ _ us hl => match us, hl with | [_], _ => rfl) (fun _ _ _ _ _ => rfl) (fun A outer s H E f c' hr => (de_call (df_count_repeated z xi tbz) (z.glo 40) hr (takes_of rfl rfl rfl rfl) (da_cons (de_var (pv 1)) (da_cons (de_ix (de_var (pv 2)) de_int) (da_cons (de_ix (de_var (pv 2)) de_int) (da_cons (de_ix (de_var (pv 2)) de_int) (da_cons (de_var (pv 6)) da_nil)))))))) (de_tup (da_cons de_str (da_cons (de_var (pv 6)) da_nil)))))))))))))))
theorem sc_law_bound_right : FnScope ["_law_source_here", "_law_sizes_here", "_law_memory", "_law_specs_here", "_law_some", "_law_parts", "_law_turn", "_law_at", "_law_spec", "_law_part", "_law_due"] ["_law_source_here", "_law_sizes_here", "_law_memory", "_law_specs_here"] (defScope st_law_bound_right) := C8.fnScope_by (by decide +kernel)
theorem df_law_bound_right (z : Kn fa fn fb K mg) (xi) (tbz : TBZ K mg base) : DF P w K mg base (TT K xi) 10 (He.fAd K ("_law_bound_right", none)) 4 F_law_bound_right := by
  refine df_mkL (pd := ("_law_bound_right", none)) (z.fd 34 (d := dd_law_bound_right) rfl rfl rfl) sc_law_bound_right rfl rfl (fun _ _ _ _ _ _ us hl => match us, hl with | [_, _, _, _], _ => rfl) fun A outer s H E hr => ?_
  exact (dss_cons (ds_setLc (own := [("_law_part", 9)]) rfl sc_law_bound_right.nd (di_list (de_var (pv 3))) (blk_by (by kernel_rfl)) (fun _ _ _ _ _ => (dgk_name (pg_name sc_law_bound_right.nd (i := 9) rfl (by first | exact Or.inl rfl | exact Or.inr rfl)))) (fun _ _ _ _ _ => dts_nil) (fun _ _ _ _ _ => (de_listC (z.free 21) (da_cons (de_var (pv 9)) da_nil))))
  (dss_cons (ds_while (passes_of rfl) (DC.tt (dc_lt (de_add (de_add (de_len (z.free 3) (da_cons (de_ix (de_var (pv 4)) de_int) da_nil)) (de_len (z.free 3) (da_cons (de_ix (de_var (pv 4)) de_int) da_nil))) (de_len (z.free 3) (da_cons (de_ix (de_var (pv 4)) de_int) da_nil))) de_int))
  (dss_cons (ds_set sc_law_bound_right.nd (de_call (df_law_choice z xi tbz) (z.glo 14) hr (takes_of rfl rfl rfl rfl) (da_cons (de_var (pv 0)) (da_cons (de_lst (da_cons (de_tup (da_cons de_str (da_cons de_int (da_cons de_int (da_cons de_int da_nil))))) (da_cons (de_tup (da_cons de_str (da_cons (de_call (df_law_draw z xi tbz) (z.glo 7) hr (takes_of rfl rfl rfl rfl) (da_cons (de_var (pv 0)) (da_cons (de_len (z.free 3) (da_cons (de_var (pv 1)) da_nil)) da_nil))) (da_cons de_int (da_cons de_int da_nil))))) da_nil))) da_nil))))
  (dss_cons (ds_set sc_law_bound_right.nd (de_ix (de_var (pv 4)) (de_call (df_law_draw z xi tbz) (z.glo 7) hr (takes_of rfl rfl rfl rfl) (da_cons (de_var (pv 0)) (da_cons de_int da_nil)))))
  (dss_one (ds_expr (de_insert (de_var (pv 9)) (da_cons (de_call (df_law_draw z xi tbz) (z.glo 7) hr (takes_of rfl rfl rfl rfl) (da_cons (de_var (pv 0)) (da_cons (de_add (de_len (z.free 3) (da_cons (de_var (pv 9)) da_nil)) de_int) da_nil))) (da_cons (de_var (pv 8)) da_nil))))))))
  (dss_cons (ds_set sc_law_bound_right.nd (de_lcC (own := [("_law_part", 9)]) rfl sc_law_bound_right.nd (di_list (de_var (pv 4))) (blk_by (by kernel_rfl)) (fun _ _ _ _ _ => (dgk_name (pg_name sc_law_bound_right.nd (i := 9) rfl (by first | exact Or.inl rfl | exact Or.inr rfl)))) (fun _ _ _ _ _ => dts_nil) (fun _ _ _ _ _ => (de_lc (de_lcC (own := [("_law_spec", 8)]) rfl sc_law_bound_right.nd (di_list (de_var (pv 9))) (blk_by (by kernel_rfl)) (fun _ _ _ _ _ => (dgk_name (pg_name sc_law_bound_right.nd (i := 8) rfl (by first | exact Or.inl rfl | exact Or.inr rfl)))) (fun _ _ _ _ _ => dts_nil) (fun _ _ _ _ _ => (de_call (df_law_done z xi tbz) (z.glo 20) hr takes_no (da_cons (de_var (pv 8)) da_nil))))))))
  (dss_cons (ds_for (passes_of rfl) rfl (di_tup (de_tup (da_cons de_int (da_cons de_int (da_cons de_int (da_cons de_int da_nil)))))) (dg_name (pg_name sc_law_bound_right.nd (i := 6) rfl (by first | exact Or.inl rfl | exact Or.inr rfl)))
  (dss_cons (ds_set sc_law_bound_right.nd (de_call (df_law_number z xi tbz) (z.glo 25) hr (takes_of rfl rfl rfl rfl) (da_cons (de_var (pv 1)) (da_cons (de_add (de_add (de_ix (de_var (pv 4)) de_int) (de_mul (de_ix (de_var (pv 4)) de_int) (de_var (pv 6)))) (de_ix (de_var (pv 4)) de_int)) da_nil))))
  (dss_one (ds_if (DC.tt (dc_ne (eqB0 (n := 0) (h := 20) (by decide)) (hr.mono (Nat.zero_le _)) (de_call (df_count_repeated z xi tbz) (z.glo 40) hr (takes_of rfl rfl rfl rfl) (da_cons (de_var (pv 2)) (da_cons (de_ix (de_var (pv 5)) de_int) (da_cons (de_ix (de_var (pv 5)) de_int) (da_cons (de_ix (de_var (pv 5)) de_int) (da_cons (de_var (pv 6)) da_nil)))))) (de_var (pv 10))))
  (dss_one (ds_ret de_bl))
  dss_nil))))
  (dss_cons (ds_set sc_law_bound_right.nd (de_call (df_law_draw z xi tbz) (z.glo 7) hr (takes_of rfl rfl rfl rfl) (da_cons (de_var (pv 0)) (da_cons de_int da_nil))))
  (dss_cons (ds_asg (de_add (de_ix (de_var (pv 5)) (de_var (pv 7))) (de_lst (da_cons (de_mk0 (z.mk0 0) rfl (z.glo 19)) da_nil))) (dg_ix rfl (de_var (pv 5)) (de_var (pv 7))))
  (dss_one (ds_ret (DC.ex (dc_eq (eqB0 (n := 0) (h := 20) (by decide)) (hr.mono (Nat.zero_le _)) (de_lamcall (k := 7) (z.fd 32 (d := dd_law_error) rfl rfl rfl) sc_law_error (z.glo 62) (fun cdv => gv_law_error z xi tbz rfl rfl rfl rfl rfl _ cdv) (tbz _ (List.mem_of_getElem? (i := 1) rfl)) rfl (tbnd z xi) (i := 1) rfl hr (LamX.lamS_by (sc := defScope st_law_bound_right) (by decide +kernel)) (fun _ _ _ _ _ _ us hl => match us, hl with | [_], _ => rfl) (fun _ _ _ _ _ => rfl) (fun A outer s H E f c' hr => (de_call (df_count_repeated z xi tbz) (z.glo 40) hr (takes_of rfl rfl rfl rfl) (da_cons (de_var (pv 2)) (da_cons (de_ix (de_var (pv 5)) de_int) (da_cons (de_ix (de_var (pv 5)) de_int) (da_cons (de_ix (de_var (pv 5)) de_int) (da_cons de_int da_nil)))))))) (de_tup (da_cons de_str (da_cons de_int da_nil)))))))))))))
theorem sc_law : FnScope ["_law_script", "_law_index", "_law_source_here", "_law_sizes_here", "_law_memory", "_law_specs_here", "_law_parts", "_law_turn", "_law_due", "_law_whole", "_law_part", "_law_some", "_law_spec"] ["_law_script"] (defScope st_law) := C8.fnScope_by (by decide +kernel)
theorem fn_law (z : Kn fa fn fb K mg) (xi) (tbz : TBZ K mg base) {fd : FuncData} (F : FunD K "law" "law" (defArgs st_law) (defBody st_law) (defScope st_law) [] [] (He.ga K "law") fd) : FnOk P w K mg base (L2.CX P w) 11 (He.ga K "law") fd ["_law_script"] (spD (TT K xi) K 1 F_law) := by
  refine fn_mk F sc_law rfl rfl fun cdv A outer s H E hr => ?_
  exact (dss_cons (ds_for (passes_of rfl) rfl (di_range1 rfl (z.free 0) (da_cons (de_max2 rfl (z.free 1) (da_cons de_int (da_cons (de_min2 rfl (z.free 2) (da_cons de_int (da_cons (de_len (z.free 3) (da_cons (de_var (pv 0)) da_nil)) da_nil))) da_nil))) da_nil)) (dg_name (pg_name sc_law.nd (i := 1) rfl (by first | exact Or.inl rfl | exact Or.inr rfl)))
  (dss_cons (ds_set sc_law.nd (de_call (df_law_source z xi tbz) (z.glo 6) hr (takes_of rfl rfl rfl rfl) (da_cons (de_call (df_law_cell_at z xi tbz) (z.glo 5) hr (takes_of rfl rfl rfl rfl) (da_cons (de_var (pv 0)) (da_cons (de_var (pv 1)) da_nil))) da_nil)))
  (dss_cons (ds_set sc_law.nd (de_add (de_call (df_law_sizes z xi tbz) (z.glo 8) hr (takes_of rfl rfl rfl rfl) (da_cons (de_var (pv 2)) da_nil)) (de_mul (de_lst (da_cons de_int da_nil)) (de_call (df_law_draw z xi tbz) (z.glo 7) hr (takes_of rfl rfl rfl rfl) (da_cons (de_var (pv 2)) (da_cons de_int da_nil))))))
  (dss_cons (ds_set sc_law.nd (de_mkO rfl (dk_Memory z xi tbz rfl rfl rfl rfl rfl) (z.glo 9) hr (takes_of rfl rfl rfl rfl) (da_cons (de_var (pv 3)) da_nil)))
  (dss_cons (ds_setLc (own := [("_law_part", 10)]) rfl sc_law.nd (di_range1 rfl (z.free 0) (da_cons de_int da_nil)) (blk_by (by kernel_rfl)) (fun _ _ _ _ _ => (dgk_name (pg_name sc_law.nd (i := 10) rfl (by first | exact Or.inl rfl | exact Or.inr rfl)))) (fun _ _ _ _ _ => dts_nil) (fun _ _ _ _ _ => (de_call (df_law_specs z xi tbz) (z.glo 16) hr takes_no (da_cons (de_var (pv 2)) (da_cons (de_var (pv 3)) (da_cons de_int da_nil))))))
  (dss_cons (ds_setLc (own := [("_law_some", 11)]) rfl sc_law.nd (di_list (de_var (pv 5))) (blk_by (by kernel_rfl)) (fun _ _ _ _ _ => (dgk_name (pg_name sc_law.nd (i := 11) rfl (by first | exact Or.inl rfl | exact Or.inr rfl)))) (fun _ _ _ _ _ => dts_nil) (fun _ _ _ _ _ => (de_lc (de_lcC (own := [("_law_spec", 12)]) rfl sc_law.nd (di_list (de_var (pv 11))) (blk_by (by kernel_rfl)) (fun _ _ _ _ _ => (dgk_name (pg_name sc_law.nd (i := 12) rfl (by first | exact Or.inl rfl | exact Or.inr rfl)))) (fun _ _ _ _ _ => dts_nil) (fun _ _ _ _ _ => (de_call (df_law_done z xi tbz) (z.glo 20) hr takes_no (da_cons (de_var (pv 12)) da_nil)))))))
  (dss_cons (ds_for (passes_of rfl) rfl (di_list (de_call (df_law_shuffled z xi tbz) (z.glo 22) hr (takes_of rfl rfl rfl rfl) (da_cons (de_var (pv 2)) (da_cons (de_frz (de_lRng (z.free 21) (z.free 0) de_int)) da_nil)))) (dg_name (pg_name sc_law.nd (i := 7) rfl (by first | exact Or.inl rfl | exact Or.inr rfl)))
  (dss_cons (ds_set sc_law.nd (de_call (df_law_number z xi tbz) (z.glo 25) hr (takes_of rfl rfl rfl rfl) (da_cons (de_var (pv 3)) (da_cons (de_add (de_add (de_ix (de_var (pv 5)) de_int) (de_mul (de_ix (de_var (pv 5)) de_int) (de_var (pv 7)))) (de_ix (de_var (pv 5)) de_int)) da_nil))))
  (dss_cons (ds_if (DC.tt (dc_ne (eqB0 (n := 0) (h := 20) (by decide)) (hr.mono (Nat.zero_le _)) (de_call (df_count_repeated z xi tbz) (z.glo 40) hr (takes_of rfl rfl rfl rfl) (da_cons (de_var (pv 4)) (da_cons (de_ix (de_var (pv 6)) de_int) (da_cons (de_ix (de_var (pv 6)) de_int) (da_cons (de_ix (de_var (pv 6)) de_int) (da_cons (de_var (pv 7)) da_nil)))))) (de_var (pv 8))))
  (dss_one (ds_ret de_bl))
  dss_nil)
  (dss_cons (ds_if (DC.tt (dc_ne (eqB0 (n := 0) (h := 20) (by decide)) (hr.mono (Nat.zero_le _)) (de_call (df_count_repeated z xi tbz) (z.glo 40) hr (takes_of rfl rfl rfl rfl) (da_cons (de_var (pv 4)) (da_cons (de_tuple (z.free 10) (da_cons (de_ix (de_var (pv 6)) de_int) da_nil)) (da_cons (de_tuple (z.free 10) (da_cons (de_ix (de_var (pv 6)) de_int) da_nil)) (da_cons (de_tuple (z.free 10) (da_cons (de_ix (de_var (pv 6)) de_int) da_nil)) (da_cons (de_var (pv 7)) da_nil)))))) (de_var (pv 8))))
  (dss_one (ds_ret de_bl))
  dss_nil)
  (dss_cons (ds_set sc_law.nd (de_add (de_add (de_ix (de_var (pv 6)) de_int) (de_mul (de_ix (de_var (pv 6)) de_int) (de_var (pv 7)))) (de_ix (de_var (pv 6)) de_int)))
  (dss_one (ds_if (DW.tt (dw_and (DC.tt (dc_lt (de_var (pv 7)) de_int)) (dw_and1 (DC.tt (dc_ne (eqB0 (n := 0) (h := 20) (by decide)) (hr.mono (Nat.zero_le _)) (de_call (df_count z xi tbz) (z.glo 44) hr (takes_of rfl rfl rfl rfl) (da_cons (de_mkO rfl (dk_Program z xi tbz rfl rfl rfl rfl rfl) (z.glo 42) hr (takes_of rfl rfl rfl rfl) (da_cons (de_var (pv 4)) (da_cons (de_var (pv 9)) da_nil))) da_nil)) (de_var (pv 8)))))))
  (dss_one (ds_ret de_bl))
  dss_nil)))))))
  (dss_cons (ds_if (DC.tt (dc_ne (eqB0 (n := 0) (h := 20) (by decide)) (hr.mono (Nat.zero_le _)) (de_lc (de_lcC (own := [("_law_part", 10)]) rfl sc_law.nd (di_list (de_var (pv 6))) (blk_by (by kernel_rfl)) (fun _ _ _ _ _ => (dgk_name (pg_name sc_law.nd (i := 10) rfl (by first | exact Or.inl rfl | exact Or.inr rfl)))) (fun _ _ _ _ _ => dts_nil) (fun _ _ _ _ _ => (de_len (z.free 3) (da_cons (de_var (pv 10)) da_nil))))) (de_lc (de_lcC (own := [("_law_some", 11)]) rfl sc_law.nd (di_list (de_var (pv 5))) (blk_by (by kernel_rfl)) (fun _ _ _ _ _ => (dgk_name (pg_name sc_law.nd (i := 11) rfl (by first | exact Or.inl rfl | exact Or.inr rfl)))) (fun _ _ _ _ _ => dts_nil) (fun _ _ _ _ _ => (de_len (z.free 3) (da_cons (de_var (pv 11)) da_nil)))))))
  (dss_one (ds_ret de_bl))
  dss_nil)
  (dss_cons (ds_if (dt_not (dt_val (de_call (df_law_errors_right z xi tbz) (z.glo 63) hr (takes_of rfl rfl rfl rfl) (da_cons (de_var (pv 2)) (da_cons (de_var (pv 4)) (da_cons (de_lc (de_lcC (own := [("_law_part", 10)]) rfl sc_law.nd (di_list (de_var (pv 6))) (blk_by (by kernel_rfl)) (fun _ _ _ _ _ => (dgk_name (pg_name sc_law.nd (i := 10) rfl (by first | exact Or.inl rfl | exact Or.inr rfl)))) (fun _ _ _ _ _ => dts_nil) (fun _ _ _ _ _ => (de_slice (de_var (pv 10)) do_none (do_some de_int))))) da_nil))))))
  (dss_one (ds_ret de_bl))
  dss_nil)
  (dss_one (ds_if (dt_not (dt_val (de_call (df_law_bound_right z xi tbz) (z.glo 64) hr (takes_of rfl rfl rfl rfl) (da_cons (de_var (pv 2)) (da_cons (de_var (pv 3)) (da_cons (de_var (pv 4)) (da_cons (de_var (pv 5)) da_nil)))))))
  (dss_one (ds_ret de_bl))
  dss_nil)))))))))))
  (dss_one (ds_ret de_bl)))
end
abbrev R : PySem.W.OpenRow := PySem.W.OpenLaw.row PySem.Challenge.rw_lateststore_k51_few_rounds_counted
abbrev hk : PySem.W.Hook := He.hookX 5 fa fn [] TF (fun K => fb.all fun f => f.ok K)
def ob (s : PySem.W.SharedT) : He.AlX := He.obsX 5 fa fn [] TF (fun K => fb.all fun f => f.ok K) (HandSHeadRun.getT s)
theorem ob_eq (s : PySem.W.SharedT) : ob s = hk.obs s.abs := He.obsX_eq (HandSHeadRun.getT_eq s)
theorem headrun (w : World) : HandSHeadRun.RunEq R (PySem.W.view R.prog [47]) hk ob 30000 names w := by
  intro os
  kernel_rfl
end K51
open PySem PySem.W PySem.Calls PyProof.Rows
theorem PySem.Challenge.cw_lateststore_k51_few_rounds_counted_holds : PySem.Challenge.rw_lateststore_k51_few_rounds_counted.Holds := by
  w_on; o_law
  refine HandSHeadRun.head_any (r := OpenLaw.row PySem.Challenge.rw_lateststore_k51_few_rounds_counted) (q := view (OpenLaw.row PySem.Challenge.rw_lateststore_k51_few_rounds_counted).prog [47]) (H := K51.hk) (ob := K51.ob) (M := 30000) (loose := K51.names)
    (d := HandSHeadRun.topDef (OpenLaw.row PySem.Challenge.rw_lateststore_k51_few_rounds_counted).prog 47) (kwd := []) K51.ob_eq
    (by kernel_rfl) (fun s => by kernel_rfl) K51.headrun (by kernel_rfl) (by kernel_rfl) (by kernel_rfl) (by rfl) (by first | assumption | decide +kernel) (by decide +kernel) ⟨rfl, rfl, rfl, rfl, rfl, by decide +kernel⟩ ?hw ?hc
  case hw => w_witness2
  case hc =>
    refine DL.walk_ofXT (l := PySem.Challenge.rw_lateststore_k51_few_rounds_counted) (n := 63) (k := 11) (x := "_law_script") rfl (by decide) (by kernel_rfl) ⟨rfl, by decide, by decide⟩ ?F
    intro w mg fa h Y G hmg0
    obtain ⟨K, KX, c⟩ := Y
    have z : DL.Kn K51.fa K51.fn K51.fb K mg := ⟨⟨h, KX, G⟩, c.t.d, c.more⟩
    have hmg : mg ("law" : PySem.Str) = some (.ref fa) := by
      have e : (HandSHeadRun.topDef (OpenLaw.row PySem.Challenge.rw_lateststore_k51_few_rounds_counted).prog 47).name = ("law" : PySem.Str) := by kernel_rfl
      rw [← e]
      exact hmg0
    have e := hmg.symm.trans (z.glo 99)
    cases e
    obtain ⟨fd, F⟩ := z.fd 35 (d := K51.dd_law) rfl rfl rfl
    have b := L2.FunD.bindsA (ps := ["_law_script"]) F fun _ _ _ _ _ _ us hl => match us, hl with | [_], _ => rfl
    refine ⟨K, fd, K51.TF.map (He.cT K), _, KX, (by intro p hp; obtain ⟨p0, h0, rfl⟩ := List.mem_map.mp hp; exact c.empty _ h0), (by intro p hp; obtain ⟨p0, h0, rfl⟩ := List.mem_map.mp hp; exact c.out _ h0), (by intro p hp; obtain ⟨p0, h0, rfl⟩ := List.mem_map.mp hp; exact PySem.W.codeHd_of_K KX (c.hd _ h0)), fun s v => b s [v] rfl, fun H a ns hl hbt hH hS => DL.law_spT hS ?ht (K51.law_true ns hl hbt), fun base _ _ hT => K51.fn_law z none (fun p hp => hT _ (List.mem_map_of_mem hp)) F⟩
    intro p hp
    have hp2 : ∃ d ∈ K51.TF, p.1 = (He.cT K d).2 := by
      simp only [K51.TB, List.mem_cons, List.not_mem_nil, or_false] at hp
      rcases hp with rfl | rfl
      · exact ⟨_, List.mem_of_getElem? (i := 0) rfl, rfl⟩
      · exact ⟨_, List.mem_of_getElem? (i := 1) rfl, rfl⟩
    obtain ⟨d, hd, e⟩ := hp2
    rw [e]
    exact LamX.TabS.nil (hH _ (List.mem_map_of_mem hd))
end
