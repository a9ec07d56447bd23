import PyProof.Rows.All
import Wide.All
import OpenK.AllK
import Wide.FinOn
import HandS.ForMost
import HandS.ForExc
import HandS.Flow
import HandS.More
import HandS.Wide
import HandS.TupAny
import HandS.TupMul
import HandS.Style
import HandS.OwnEq
import HandS.Zip
import HandS.FStr
import HandS.ExcInit
import HandS.TryMany
import HandS.Defaults
import HandS.Head0
import HandS.Head1
import HandS.Head2
import HandS.HeadEnd
import HandS.HeadHook1
import HandS.HeadHook2
import HandS.EndBits
import KE.KStateDown
import KE.DataEq
import PyProof.StrOps2
import HandS.Codes
import HandS.Text
import HandS.Dict
import HandS.RaiseMore
import PyProof.InstNe
import PySem.Challenge.RW_lateststore_k71_programs_written_and_rea
section
set_option Elab.async false
set_option linter.all false
set_option maxRecDepth 100000
set_option maxHeartbeats 4000000
/-! DL0: pure data, mutable cells, outcomes, what they stand for in the abstract heap. -/
namespace DL
open PySem L2

/-- pure data; cell n: a mutable thing with identity; exc: a caught exception -/
inductive D where
  | non | bl (b : Bool) | int (i : Int) | str (s : PySem.Str)
  | tup (xs : List D) | lst (xs : List D) | obj (c : Nat) (fs : List D)
  | dic (ks : List Key) (vs : List D)
  | cell (n : Nat) | exc (c : Nat) (ks : List Nat) (fs : List D)
inductive Cell where
  | lst (xs : List D) | ins (c : Nat) (ks : List Nat) (fs : List D) | dic (ks : List Key) (vs : List D) | gone
/-- names of attributes, addresses of classes, the attributes of a frozen object in order; the exception that a suite holds -/
structure Tab where
  nm : Nat → PySem.Str
  ca : Nat → Addr
  od : Nat → List Nat
  xi : Option (Addr × Value × Option Addr) := none

/-- a list that is read, its object known to the slots -/
def SqX (K : PySem.W.Frag) (H : Hp) (a : Addr) (xs : List V) : Prop :=
  Rd H a (.lst xs) ∨ ∃ (its : Array Value) (n : Nat), K.lookup a = some { cls := .type "list", data := .seq its n } ∧ its.size ≤ sizeLine ∧ Vals xs its.toList
theorem SqX.l {K : PySem.W.Frag} {H : Hp} {a : Addr} {xs : List V} (h : SqX K H a xs) : SqL K H a xs := by
  rcases h with h | ⟨its, n, h1, h2, h3⟩
  · exact .inl h
  · exact .inr ⟨_, its, n, h1, rfl, rfl, rfl, h2, h3⟩
theorem SqX.of {K : PySem.W.Frag} {H : Hp} {a : Addr} {xs : List V} (h : H a = some (.lst xs)) : SqX K H a xs := .inl (.inl h)
theorem SqX.same {K : PySem.W.Frag} {I I' : Hp} {a : Addr} {vs : List V} (s : Same I I') (h : SqX K I a vs) : SqX K I' a vs := by
  rcases h with (h | ⟨o, h⟩) | h
  · exact .inl (.inl (s _ _ h))
  · exact .inl (.inr ⟨o, s _ _ h⟩)
  · exact .inr h
theorem SqX.lst {X : Cx} {pins : List (Addr × Obj)} {σ : St} {H : Hp} {s : Shared} {a : Addr} {xs : List V} (I : Inv X pins σ H s) (h : SqX X.K H a xs) :
    xs.length ≤ sizeLine ∧ ∃ (its : List Value) (n : Nat), Vals xs its ∧ xs.length = its.length ∧ s.heap.get? a = some { cls := .type "list", data := .seq its.toArray n } := by
  rcases h with h | ⟨its, n, h1, h2, h3⟩
  · obtain ⟨z, its, n, r, e⟩ := h.ok I.hok
    exact ⟨z, its, n, r, r.length, e⟩
  · refine ⟨?_, its.toList, n, h3, h3.length, ?_⟩
    · have e := h3.length
      simp only [Array.length_toList] at e
      omega
    · have e := I.kIn a _ h1
      simpa using e

mutual
def Rp (T : Tab) (K : PySem.W.Frag) (I : Hp) (m : List Addr) : D → V → Prop
  | .non, v => v = .non
  | .bl b, v => v = .bl b
  | .int i, v => v = .int i
  | .str s, v => v = .str s
  | .tup ds, v => ∃ a vs, v = .ref a ∧ SqT K I a vs ∧ RpL T K I m ds vs
  | .lst ds, v => ∃ a vs, v = .ref a ∧ SqX K I a vs ∧ RpL T K I m ds vs
  | .obj c ds, v => ∃ (a dx : Addr) (gs : List (PySem.Str × V)), v = .ref a ∧ I a = some (.ins (T.ca c) dx gs) ∧ gs.map (·.1) = (T.od c).map T.nm ∧ RpL T K I m ds (gs.map (·.2))
  | .dic ks ds, v => ∃ (a : Addr) (kvs : List (Key × V)), v = .ref a ∧ Rd I a (.dK kvs) ∧ kvs.map (·.1) = ks ∧ RpL T K I m ds (kvs.map (·.2))
  | .cell n, v => ∃ a, m[n]? = some a ∧ v = .ref a
  | .exc c ks ds, v => ∃ (a : Addr) (od : Option Addr), T.xi = some (a, .ref (T.ca c), od) ∧ v = .ref a ∧
      ((od = none ∧ ks = [] ∧ ds = []) ∨ ∃ (d : Addr) (gs : List (PySem.Str × V)), od = some d ∧ I d = some (.xd gs) ∧ gs.map (·.1) = ks.map T.nm ∧ RpL T K I m ds (gs.map (·.2)))
def RpL (T : Tab) (K : PySem.W.Frag) (I : Hp) (m : List Addr) : List D → List V → Prop
  | [], vs => vs = []
  | d :: ds, vs => ∃ v r, vs = v :: r ∧ Rp T K I m d v ∧ RpL T K I m ds r
end

/-! ### limits, as words that nothing computes -/
def fits (n : Nat) : Prop := n ≤ sizeLine
def fitsL (n : Nat) : Prop := n < sizeLine
def in63 (k : Int) : Prop := -(2 ^ 63) ≤ k ∧ k < 2 ^ 63
def in63F (k : Int) (n : Nat) : Prop := -(2 ^ 63) ≤ k ∧ k < 2 ^ 63 ∧ n ≤ sizeLine
def in62 (i : Int) : Prop := -(2 ^ 62) ≤ i ∧ i < 2 ^ 62
def lo63 (k : Int) : Prop := -(2 ^ 63) ≤ k
def hi63 (k : Int) : Prop := k < 2 ^ 63
def hi63F (k : Int) (n : Nat) : Prop := k < 2 ^ 63 ∧ n ≤ sizeLine
def repOk (xs : List D) (k : Int) : Prop := xs ≠ [] ∧ 2 ≤ k ∧ k ≤ 1000 ∧ xs.length ≤ 1000
def few (n : Nat) : Prop := n < 1000
def le640 (n : Nat) : Prop := n ≤ 640
theorem limBig : (sizeLine : Nat) = 16777216 := by decide
theorem fits_of {n : Nat} (h : n ≤ 1000000) : fits n := by unfold fits; rw [limBig]; omega
theorem fitsL_of {n : Nat} (h : n ≤ 1000000) : fitsL n := by unfold fitsL; rw [limBig]; omega
theorem in63_of {k : Int} (h1 : -1000000000000 ≤ k) (h2 : k ≤ 1000000000000) : in63 k := by unfold in63; omega
theorem in63F_of {k : Int} {n : Nat} (h1 : -1000000000000 ≤ k) (h2 : k ≤ 1000000000000) (h3 : n ≤ 1000000) : in63F k n := by unfold in63F; rw [limBig]; omega
theorem in62_of {k : Int} (h1 : -1000000000000 ≤ k) (h2 : k ≤ 1000000000000) : in62 k := by unfold in62; omega
theorem lo63_of {k : Int} (h1 : -1000000000000 ≤ k) : lo63 k := by unfold lo63; omega
theorem hi63_of {k : Int} (h1 : k ≤ 1000000000000) : hi63 k := by unfold hi63; omega
theorem hi63F_of {k : Int} {n : Nat} (h1 : k ≤ 1000000000000) (h3 : n ≤ 1000000) : hi63F k n := by unfold hi63F; rw [limBig]; omega
theorem few_of {n : Nat} (h : n ≤ 900) : few n := by unfold few; omega
theorem le640_of {n : Nat} (h : n ≤ 640) : le640 n := h
section
variable {T : Tab} {K : PySem.W.Frag} {I I' H H' : Hp} {m m' : List Addr}
theorem SqT.same {a : Addr} {vs : List V} (s : Same I I') (h : SqT K I a vs) : SqT K I' a vs := by
  rcases h with (h | ⟨o, h⟩) | h
  · exact .inl (.inl (s _ _ h))
  · exact .inl (.inr ⟨o, s _ _ h⟩)
  · exact .inr h
theorem Rd.same {a : Addr} {u : HO} (s : Same I I') (h : Rd I a u) : Rd I' a u := by
  rcases h with h | ⟨o, h⟩
  · exact .inl (s _ _ h)
  · exact .inr ⟨o, s _ _ h⟩
theorem pre_get {m m' : List Addr} {n : Nat} {a : Addr} (p : m <+: m') (h : m[n]? = some a) : m'[n]? = some a := by
  obtain ⟨r, rfl⟩ := p
  have hn : n < m.length := (List.getElem?_eq_some_iff.mp h).1
  rw [List.getElem?_append_left hn]; exact h
mutual
theorem Rp.mono (s : Same I I') (p : m <+: m') : ∀ {d : D} {v : V}, Rp T K I m d v → Rp T K I' m' d v
  | .non, _, h => h
  | .bl _, _, h => h
  | .int _, _, h => h
  | .str _, _, h => h
  | .tup ds, v, h => by
    unfold Rp at h ⊢
    obtain ⟨a, vs, e, q, r⟩ := h
    exact ⟨a, vs, e, SqT.same s q, RpL.mono s p r⟩
  | .lst ds, v, h => by
    unfold Rp at h ⊢
    obtain ⟨a, vs, e, q, r⟩ := h
    exact ⟨a, vs, e, SqX.same s q, RpL.mono s p r⟩
  | .obj c ds, v, h => by
    unfold Rp at h ⊢
    obtain ⟨a, dx, gs, e, q, k, r⟩ := h
    exact ⟨a, dx, gs, e, s _ _ q, k, RpL.mono s p r⟩
  | .dic ks ds, v, h => by
    unfold Rp at h ⊢
    obtain ⟨a, gs, e, q, k, r⟩ := h
    exact ⟨a, gs, e, Rd.same s q, k, RpL.mono s p r⟩
  | .cell n, v, h => by
    unfold Rp at h ⊢
    obtain ⟨a, e, q⟩ := h
    exact ⟨a, pre_get p e, q⟩
  | .exc c ks ds, v, h => by
    unfold Rp at h ⊢
    obtain ⟨a, od, e, q, r⟩ := h
    refine ⟨a, od, e, q, ?_⟩
    rcases r with r | ⟨d, gs, r1, r2, r3, r4⟩
    · exact .inl r
    · exact .inr ⟨d, gs, r1, s _ _ r2, r3, RpL.mono s p r4⟩
theorem RpL.mono (s : Same I I') (p : m <+: m') : ∀ {ds : List D} {vs : List V}, RpL T K I m ds vs → RpL T K I' m' ds vs
  | [], _, h => h
  | d :: ds, vs, h => by
    unfold RpL at h ⊢
    obtain ⟨v, r, e, q, k⟩ := h
    exact ⟨v, r, e, Rp.mono s p q, RpL.mono s p k⟩
end
end
end DL
end

section
set_option Elab.async false
set_option linter.all false
set_option maxRecDepth 100000
set_option maxHeartbeats 4000000
namespace DL
open PySem L2

section
variable {T : Tab} {K : PySem.W.Frag} {I I' H H' : Hp} {m m' : List Addr}
/-! ### lists of data -/
theorem RpL.length : ∀ {ds : List D} {vs : List V}, RpL T K I m ds vs → ds.length = vs.length
  | [], _, h => by unfold RpL at h; subst h; rfl
  | d :: ds, vs, h => by
    unfold RpL at h
    obtain ⟨v, r, rfl, _, k⟩ := h
    simp [RpL.length k]
theorem RpL.nil : RpL T K I m [] [] := by unfold RpL; rfl
theorem RpL.cons {d : D} {v : V} {ds : List D} {vs : List V} (h : Rp T K I m d v) (r : RpL T K I m ds vs) : RpL T K I m (d :: ds) (v :: vs) := by
  unfold RpL; exact ⟨v, vs, rfl, h, r⟩
theorem RpL.inv {d : D} {ds : List D} {vs : List V} (h : RpL T K I m (d :: ds) vs) : ∃ v r, vs = v :: r ∧ Rp T K I m d v ∧ RpL T K I m ds r := by
  unfold RpL at h; exact h
theorem RpL.inil {vs : List V} (h : RpL T K I m [] vs) : vs = [] := by unfold RpL at h; exact h
theorem RpL.get : ∀ {ds : List D} {vs : List V} {i : Nat} {d : D}, RpL T K I m ds vs → ds[i]? = some d → ∃ v, vs[i]? = some v ∧ Rp T K I m d v
  | [], _, _, _, _, e => by simp at e
  | d :: ds, vs, 0, x, h, e => by
    obtain ⟨v, r, rfl, q, k⟩ := h.inv
    simp at e; subst e
    exact ⟨v, rfl, q⟩
  | d :: ds, vs, i + 1, x, h, e => by
    obtain ⟨v, r, rfl, q, k⟩ := h.inv
    simpa using RpL.get (i := i) k (by simpa using e)
theorem RpL.getV {ds : List D} {vs : List V} {i : Nat} {v : V} (h : RpL T K I m ds vs) (e : vs[i]? = some v) : ∃ d, ds[i]? = some d ∧ Rp T K I m d v := by
  have hl := h.length
  have hi : i < vs.length := (List.getElem?_eq_some_iff.mp e).1
  have hd : ds[i]? = some (ds[i]'(by omega)) := by simp [hl, hi]
  obtain ⟨v', e', r⟩ := h.get hd
  rw [e] at e'; cases e'
  exact ⟨_, hd, r⟩
theorem RpL.append : ∀ {ds es : List D} {vs ws : List V}, RpL T K I m ds vs → RpL T K I m es ws → RpL T K I m (ds ++ es) (vs ++ ws)
  | [], _, _, _, h, k => by have e := h.inil; subst e; exact k
  | d :: ds, _, vs, _, h, k => by
    obtain ⟨v, r, rfl, q, h'⟩ := h.inv
    exact RpL.cons q (RpL.append h' k)
theorem RpL.one {d : D} {v : V} (h : Rp T K I m d v) : RpL T K I m [d] [v] := RpL.cons h RpL.nil
theorem RpL.set : ∀ {ds : List D} {vs : List V} {i : Nat} {d : D} {v : V}, RpL T K I m ds vs → Rp T K I m d v → RpL T K I m (ds.set i d) (vs.set i v)
  | [], _, _, _, _, h, _ => by have e := h.inil; subst e; exact h
  | x :: ds, vs, 0, d, v, h, k => by
    obtain ⟨w, r, rfl, q, h'⟩ := h.inv
    exact RpL.cons k h'
  | x :: ds, vs, i + 1, d, v, h, k => by
    obtain ⟨w, r, rfl, q, h'⟩ := h.inv
    exact RpL.cons q (RpL.set h' k)
theorem RpL.take : ∀ {ds : List D} {vs : List V} {n : Nat}, RpL T K I m ds vs → RpL T K I m (ds.take n) (vs.take n)
  | [], vs, n, h => by have e := h.inil; subst e; simp; exact h
  | x :: ds, vs, 0, h => by simp; exact RpL.nil
  | x :: ds, vs, n + 1, h => by
    obtain ⟨w, r, rfl, q, h'⟩ := h.inv
    exact RpL.cons q (RpL.take h')
theorem RpL.drop : ∀ {ds : List D} {vs : List V} {n : Nat}, RpL T K I m ds vs → RpL T K I m (ds.drop n) (vs.drop n)
  | [], vs, n, h => by have e := h.inil; subst e; simp; exact h
  | x :: ds, vs, 0, h => by simp; exact h
  | x :: ds, vs, n + 1, h => by
    obtain ⟨w, r, rfl, q, h'⟩ := h.inv
    simpa using RpL.drop (n := n) h'
theorem RpL.reverse {ds : List D} : ∀ {vs : List V}, RpL T K I m ds vs → RpL T K I m ds.reverse vs.reverse := by
  induction ds with
  | nil => intro vs h; have e := h.inil; subst e; exact h
  | cons d ds ih =>
    intro vs h
    obtain ⟨w, r, rfl, q, h'⟩ := h.inv
    simp only [List.reverse_cons]
    exact (ih h').append (RpL.one q)

/-! ### cells and states -/
def CellR (T : Tab) (K : PySem.W.Frag) (I : Hp) (m : List Addr) : Cell → HO → Prop
  | .lst ds, .lst vs => RpL T K I m ds vs
  | .ins c ks ds, .ins C _ gs => C = T.ca c ∧ gs.map (·.1) = ks.map T.nm ∧ RpL T K I m ds (gs.map (·.2))
  | .dic ks ds, .dK kvs => kvs.map (·.1) = ks ∧ RpL T K I m ds (kvs.map (·.2))
  | _, _ => False
theorem CellR.mono (s : Same I I') (p : m <+: m') {c : Cell} {o : HO} (h : CellR T K I m c o) : CellR T K I' m' c o := by
  cases c <;> cases o <;> first | exact h.elim | exact RpL.mono s p h | exact ⟨h.1, h.2.1, RpL.mono s p h.2.2⟩ | exact ⟨h.1, RpL.mono s p h.2⟩

/-- the state: I, the part that stays; m, where the cells stand -/
structure SR (T : Tab) (K : PySem.W.Frag) (I : Hp) (m : List Addr) (cs : List Cell) (H : Hp) : Prop where
  same : Same I H
  len : m.length = cs.length
  at_ : ∀ (n : Nat) (c : Cell), cs[n]? = some c → c ≠ .gone → ∃ a o, m[n]? = some a ∧ I a = none ∧ H a = some o ∧ CellR T K I m c o
  inj : ∀ (n n' : Nat) (c c' : Cell) (a : Addr), cs[n]? = some c → c ≠ .gone → cs[n']? = some c' → c' ≠ .gone → m[n]? = some a → m[n']? = some a → n = n'
/-- the slots -/
structure ER (T : Tab) (K : PySem.W.Frag) (I : Hp) (m : List Addr) (env : List (Option D)) (σ : St) : Prop where
  len : env.length = σ.length
  at_ : ∀ (i : Nat) (d : D), env[i]? = some (some d) → ∃ v, σ[i]? = some (some v) ∧ Rp T K I m d v
theorem ER.mono (s : Same I I') (p : m <+: m') {env : List (Option D)} {σ : St} (h : ER T K I m env σ) : ER T K I' m' env σ :=
  ⟨h.len, fun i d e => let ⟨v, e', r⟩ := h.at_ i d e; ⟨v, e', r.mono s p⟩⟩
theorem ER.set {env : List (Option D)} {σ : St} (h : ER T K I m env σ) {i : Nat} {d : D} {v : V} (r : Rp T K I m d v) : ER T K I m (env.set i (some d)) (σ.set i (some v)) := by
  refine ⟨by simp [h.len], fun j x e => ?_⟩
  by_cases hj : i = j
  · subst hj
    by_cases hi : i < env.length
    · rw [List.getElem?_set_self hi] at e
      cases e
      exact ⟨v, List.getElem?_set_self (by rw [← h.len]; exact hi), r⟩
    · rw [List.getElem?_eq_none (by simpa using hi)] at e; cases e
  · rw [List.getElem?_set_ne hj] at e
    rw [List.getElem?_set_ne hj]
    exact h.at_ j x e
theorem ER.forget {env : List (Option D)} {σ : St} (h : ER T K I m env σ) {i : Nat} : ER T K I m (env.set i none) σ := by
  refine ⟨by simp [h.len], fun j x e => ?_⟩
  by_cases hj : i = j
  · subst hj
    by_cases hi : i < env.length
    · rw [List.getElem?_set_self hi] at e; cases e
    · rw [List.getElem?_eq_none (by simpa using hi)] at e; cases e
  · rw [List.getElem?_set_ne hj] at e
    exact h.at_ j x e
theorem ER.setN {env : List (Option D)} {σ : St} (h : ER T K I m env σ) {i : Nat} {w : Option V} : ER T K I m (env.set i none) (σ.set i w) := by
  refine ⟨by simp [h.len], fun j x e => ?_⟩
  by_cases hj : i = j
  · subst hj
    by_cases hi : i < env.length
    · rw [List.getElem?_set_self hi] at e; cases e
    · rw [List.getElem?_eq_none (by simpa using hi)] at e; cases e
  · rw [List.getElem?_set_ne hj] at e
    rw [List.getElem?_set_ne hj]
    exact h.at_ j x e

theorem Same.upd {p : Addr} {o : HO} (s : Same I H) (h : H p = none) : Same (upd I p o) (upd H p o) := fun b u e => by
  by_cases hb : b = p
  · subst hb; rw [upd_same] at e ⊢; exact e
  · rw [upd_ne hb] at e ⊢; exact s b u e
theorem Same.updR {p : Addr} {o : HO} (s : Same I H) (h : I p = none) : Same I (L2.upd H p o) := fun b u e => by
  have hb : b ≠ p := ne_of_none e h
  rw [upd_ne hb]; exact s b u e
theorem Same.updI {p : Addr} {o : HO} (h : I p = none) : Same I (L2.upd I p o) := fun b u e => by
  have hb : b ≠ p := ne_of_none e h
  rw [upd_ne hb]; exact e
/-- a new thing that stays -/
theorem SR.newI {cs : List Cell} {p : Addr} {o : HO} (s : SR T K I m cs H) (h : H p = none) : SR T K (L2.upd I p o) m cs (L2.upd H p o) ∧ Same I (L2.upd I p o) := by
  have hI : I p = none := s.same.free h
  refine ⟨⟨Same.upd s.same h, s.len, fun n c e l => ?_, s.inj⟩, Same.updI hI⟩
  obtain ⟨a, u, e1, e2, e3, e4⟩ := s.at_ n c e l
  have hb : a ≠ p := ne_of_none e3 h
  exact ⟨a, u, e1, by rw [upd_ne hb]; exact e2, by rw [upd_ne hb]; exact e3, e4.mono (Same.updI hI) (List.prefix_refl _)⟩
theorem live_len {cs : List Cell} {n : Nat} {c : Cell} (e : cs[n]? = some c) : n < cs.length := (List.getElem?_eq_some_iff.mp e).1
/-- a new cell -/
theorem SR.newC {cs : List Cell} {p : Addr} {o : HO} {c : Cell} (s : SR T K I m cs H) (h : H p = none) (r : CellR T K I m c o) : SR T K I (m ++ [p]) (cs ++ [c]) (L2.upd H p o) := by
  have hI : I p = none := s.same.free h
  have old : ∀ {n : Nat} {x : Cell}, (cs ++ [c])[n]? = some x → n < cs.length → cs[n]? = some x := fun {n x} e hn => by rw [List.getElem?_append_left hn] at e; exact e
  have notP : ∀ {n : Nat} {x : Cell} {a : Addr}, cs[n]? = some x → x ≠ .gone → m[n]? = some a → a ≠ p := fun {n x a} e l ea q => by
    obtain ⟨a', u, e1, e2, e3, e4⟩ := s.at_ n x e l
    rw [ea] at e1; cases e1
    rw [q, h] at e3; cases e3
  have mold : ∀ {n : Nat}, n < cs.length → (m ++ [p])[n]? = m[n]? := fun {n} hn => List.getElem?_append_left (by rw [s.len]; exact hn)
  have mnew : (m ++ [p])[cs.length]? = some p := by rw [← s.len]; simp
  have new : ∀ {n : Nat} {x : Cell}, (cs ++ [c])[n]? = some x → ¬ n < cs.length → n = cs.length ∧ x = c := fun {n x} e hn => by
    have hn' := live_len e
    simp at hn'
    have : n = cs.length := by omega
    subst this
    simp at e
    exact ⟨rfl, e.symm⟩
  refine ⟨Same.updR s.same hI, by simp [s.len], fun n x e l => ?_, fun n n' x x' a e l e' l' ea ea' => ?_⟩
  · by_cases hn : n < cs.length
    · obtain ⟨a, u, e1, e2, e3, e4⟩ := s.at_ n x (old e hn) l
      have hb : a ≠ p := notP (old e hn) l e1
      exact ⟨a, u, by rw [mold hn]; exact e1, e2, by rw [upd_ne hb]; exact e3, e4.mono (Same.refl I) (List.prefix_append _ _)⟩
    · obtain ⟨rfl, rfl⟩ := new e hn
      exact ⟨p, o, mnew, hI, upd_same, r.mono (Same.refl I) (List.prefix_append _ _)⟩
  · by_cases hn : n < cs.length
    · by_cases hn' : n' < cs.length
      · rw [mold hn] at ea; rw [mold hn'] at ea'
        exact s.inj n n' x x' a (old e hn) l (old e' hn') l' ea ea'
      · obtain ⟨rfl, rfl⟩ := new e' hn'
        rw [mold hn] at ea
        rw [mnew] at ea'
        cases ea'
        exact absurd rfl (notP (old e hn) l ea)
    · obtain ⟨rfl, rfl⟩ := new e hn
      by_cases hn' : n' < cs.length
      · rw [mold hn'] at ea'
        rw [mnew] at ea
        cases ea
        exact absurd rfl (notP (old e' hn') l' ea')
      · exact (new e' hn').1.symm
/-- a cell is written -/
theorem SR.setC {cs : List Cell} {n : Nat} {p : Addr} {o : HO} {c c0 : Cell} (s : SR T K I m cs H) (e0 : cs[n]? = some c0) (l0 : c0 ≠ .gone) (hp : m[n]? = some p) (r : CellR T K I m c o) : SR T K I m (cs.set n c) (L2.upd H p o) := by
  obtain ⟨p', u0, q1, q2, q3, q4⟩ := s.at_ n c0 e0 l0
  rw [hp] at q1; cases q1
  have hn : n < cs.length := live_len e0
  have at' : ∀ {k : Nat} {x : Cell}, (cs.set n c)[k]? = some x → (k = n ∧ x = c) ∨ (k ≠ n ∧ cs[k]? = some x) := fun {k x} e => by
    by_cases hk : n = k
    · subst hk
      rw [List.getElem?_set_self hn] at e; cases e
      exact .inl ⟨rfl, rfl⟩
    · rw [List.getElem?_set_ne hk] at e
      exact .inr ⟨fun q => hk q.symm, e⟩
  refine ⟨Same.updR s.same q2, by simp [s.len], fun k x e l => ?_, fun k k' x x' a e l e' l' ea ea' => ?_⟩
  · rcases at' e with ⟨rfl, rfl⟩ | ⟨hk, e⟩
    · exact ⟨p, o, hp, q2, upd_same, r⟩
    · obtain ⟨a, u, e1, e2, e3, e4⟩ := s.at_ k x e l
      have hb : a ≠ p := fun q => hk (s.inj k n x c0 p e l e0 l0 (q ▸ e1) hp)
      exact ⟨a, u, e1, e2, by rw [upd_ne hb]; exact e3, e4⟩
  · have liv : ∀ {k : Nat} {x : Cell}, (cs.set n c)[k]? = some x → x ≠ .gone → ∃ y, cs[k]? = some y ∧ y ≠ .gone := fun {k x} e l => by
      rcases at' e with ⟨rfl, rfl⟩ | ⟨_, e⟩
      · exact ⟨_, e0, l0⟩
      · exact ⟨_, e, l⟩
    obtain ⟨y, h1, h2⟩ := liv e l
    obtain ⟨y', h3, h4⟩ := liv e' l'
    exact s.inj k k' y y' a h1 h2 h3 h4 ea ea'
/-- a cell is frozen: its object joins what stays -/
theorem SR.frz {cs : List Cell} {n : Nat} {p : Addr} {o : HO} {c0 : Cell} (s : SR T K I m cs H) (e0 : cs[n]? = some c0) (l0 : c0 ≠ .gone) (hp : m[n]? = some p) (ho : H p = some o) : SR T K (L2.upd I p o) m (cs.set n .gone) H ∧ Same I (L2.upd I p o) := by
  obtain ⟨p', u0, q1, q2, q3, q4⟩ := s.at_ n c0 e0 l0
  rw [hp] at q1; cases q1
  have hn : n < cs.length := live_len e0
  have at' : ∀ {k : Nat} {x : Cell}, (cs.set n .gone)[k]? = some x → x ≠ .gone → k ≠ n ∧ cs[k]? = some x := fun {k x} e l => by
    by_cases hk : n = k
    · subst hk
      rw [List.getElem?_set_self hn] at e; cases e
      exact absurd rfl l
    · rw [List.getElem?_set_ne hk] at e
      exact ⟨fun q => hk q.symm, e⟩
  refine ⟨⟨fun b u e => ?_, by simp [s.len], fun k x e l => ?_, fun k k' x x' a e l e' l' ea ea' => ?_⟩, Same.updI q2⟩
  · by_cases hb : b = p
    · subst hb; rw [upd_same] at e; rw [← e]; exact ho
    · rw [upd_ne hb] at e; exact s.same b u e
  · obtain ⟨hk, e⟩ := at' e l
    obtain ⟨a, u, e1, e2, e3, e4⟩ := s.at_ k x e l
    have hb : a ≠ p := fun q => hk (s.inj k n x c0 p e l e0 l0 (q ▸ e1) hp)
    exact ⟨a, u, e1, by rw [upd_ne hb]; exact e2, e3, e4.mono (Same.updI q2) (List.prefix_refl _)⟩
  · obtain ⟨hk, e⟩ := at' e l
    obtain ⟨hk', e'⟩ := at' e' l'
    exact s.inj k k' x x' a e l e' l' ea ea'
/-- a cell is let go -/
theorem SR.drop1 {cs : List Cell} {n : Nat} (s : SR T K I m cs H) : SR T K I m (cs.set n .gone) H := by
  have at' : ∀ {k : Nat} {x : Cell}, (cs.set n .gone)[k]? = some x → x ≠ .gone → cs[k]? = some x := fun {k x} e l => by
    by_cases hk : n = k
    · subst hk
      by_cases hn : n < cs.length
      · rw [List.getElem?_set_self hn] at e; cases e
        exact absurd rfl l
      · rw [List.getElem?_eq_none (by simpa using hn)] at e; cases e
    · rw [List.getElem?_set_ne hk] at e
      exact e
  exact ⟨s.same, by simp [s.len], fun k x e l => s.at_ k x (at' e l) l, fun k k' x x' a e l e' l' ea ea' => s.inj k k' x x' a (at' e l) l (at' e' l') l' ea ea'⟩

/-! ### data without cells from n on; cells let go at a call's end -/
mutual
def D.lt (n : Nat) : D → Bool
  | .tup ds => D.ltL n ds
  | .lst ds => D.ltL n ds
  | .obj _ ds => D.ltL n ds
  | .dic _ ds => D.ltL n ds
  | .cell k => decide (k < n)
  | .exc _ _ ds => D.ltL n ds
  | _ => true
def D.ltL (n : Nat) : List D → Bool
  | [] => true
  | d :: ds => D.lt n d && D.ltL n ds
end
mutual
theorem Rp.cut {n : Nat} : ∀ {d : D} {v : V}, D.lt n d = true → Rp T K I m d v → Rp T K I (m.take n) d v
  | .non, _, _, h => h
  | .bl _, _, _, h => h
  | .int _, _, _, h => h
  | .str _, _, _, h => h
  | .tup ds, v, l, h => by
    unfold Rp at h ⊢; unfold D.lt at l
    obtain ⟨a, vs, e, q, r⟩ := h
    exact ⟨a, vs, e, q, RpL.cut l r⟩
  | .lst ds, v, l, h => by
    unfold Rp at h ⊢; unfold D.lt at l
    obtain ⟨a, vs, e, q, r⟩ := h
    exact ⟨a, vs, e, q, RpL.cut l r⟩
  | .obj c ds, v, l, h => by
    unfold Rp at h ⊢; unfold D.lt at l
    obtain ⟨a, dx, gs, e, q, k, r⟩ := h
    exact ⟨a, dx, gs, e, q, k, RpL.cut l r⟩
  | .dic ks ds, v, l, h => by
    unfold Rp at h ⊢; unfold D.lt at l
    obtain ⟨a, gs, e, q, k, r⟩ := h
    exact ⟨a, gs, e, q, k, RpL.cut l r⟩
  | .cell k, v, l, h => by
    unfold Rp at h ⊢
    obtain ⟨a, e, q⟩ := h
    unfold D.lt at l
    have hk : k < n := of_decide_eq_true l
    exact ⟨a, by rw [List.getElem?_take_of_lt hk]; exact e, q⟩
  | .exc c ks ds, v, l, h => by
    unfold Rp at h ⊢; unfold D.lt at l
    obtain ⟨a, od, e, q, r⟩ := h
    refine ⟨a, od, e, q, ?_⟩
    rcases r with r | ⟨d, gs, r1, r2, r3, r4⟩
    · exact .inl r
    · exact .inr ⟨d, gs, r1, r2, r3, RpL.cut l r4⟩
theorem RpL.cut {n : Nat} : ∀ {ds : List D} {vs : List V}, D.ltL n ds = true → RpL T K I m ds vs → RpL T K I (m.take n) ds vs
  | [], _, _, h => by have e := h.inil; subst e; exact RpL.nil
  | d :: ds, vs, l, h => by
    unfold D.ltL at l
    obtain ⟨l1, l2⟩ := Bool.and_eq_true_iff.mp l
    obtain ⟨v, r, rfl, q, k⟩ := h.inv
    exact RpL.cons (Rp.cut l1 q) (RpL.cut l2 k)
end
/-- every live cell below n speaks of cells below n alone -/
def Cell.lt (n : Nat) : Cell → Bool
  | .lst ds => D.ltL n ds
  | .ins _ _ ds => D.ltL n ds
  | .dic _ ds => D.ltL n ds
  | .gone => true
theorem CellR.cut {n : Nat} {c : Cell} {o : HO} (l : c.lt n = true) (h : CellR T K I m c o) : CellR T K I (m.take n) c o := by
  cases c <;> cases o <;> first | exact h.elim | exact RpL.cut l h | exact ⟨h.1, h.2.1, RpL.cut l h.2.2⟩ | exact ⟨h.1, RpL.cut l h.2⟩
theorem SR.cut {cs : List Cell} {n : Nat} (s : SR T K I m cs H) (l : ((cs.take n).all (Cell.lt n)) = true) : SR T K I (m.take n) (cs.take n) H := by
  have at' : ∀ {k : Nat} {x : Cell}, (cs.take n)[k]? = some x → k < n ∧ cs[k]? = some x := fun {k x} e => by
    have hk := live_len e
    rw [List.length_take] at hk
    have hk : k < n := by omega
    rw [List.getElem?_take_of_lt hk] at e
    exact ⟨hk, e⟩
  refine ⟨s.same, by simp [s.len], fun k x e l' => ?_, fun k k' x x' a e l1 e' l2 ea ea' => ?_⟩
  · obtain ⟨hk, e'⟩ := at' e
    obtain ⟨a, u, e1, e2, e3, e4⟩ := s.at_ k x e' l'
    exact ⟨a, u, by rw [List.getElem?_take_of_lt hk]; exact e1, e2, e3, e4.cut (List.all_eq_true.mp l x (List.mem_of_getElem? e))⟩
  · obtain ⟨hk, e1⟩ := at' e
    obtain ⟨hk', e2⟩ := at' e'
    rw [List.getElem?_take_of_lt hk] at ea
    rw [List.getElem?_take_of_lt hk'] at ea'
    exact s.inj k k' x x' a e1 l1 e2 l2 ea ea'
end

/-! ### outcomes -/
inductive Out (α : Type) where
  | ok (a : α) (cs : List Cell)
  | exn (c : Nat) (ks : List Nat) (fs : List D) (cs : List Cell)
  | no
def Out.bind {α β : Type} (x : Out α) (k : α → List Cell → Out β) : Out β := match x with
  | .ok a cs => k a cs
  | .exn c ks fs cs => .exn c ks fs cs
  | .no => .no
def ExR (T : Tab) (K : PySem.W.Frag) (I : Hp) (m : List Addr) (c : Nat) (ks : List Nat) (fs : List D) (cls : Value) (od : Option Addr) : Prop :=
  cls = .ref (T.ca c) ∧ ((od = none ∧ ks = [] ∧ fs = []) ∨ ∃ (d : Addr) (gs : List (PySem.Str × V)), od = some d ∧ I d = some (.xd gs) ∧ gs.map (·.1) = ks.map T.nm ∧ RpL T K I m fs (gs.map (·.2)))
theorem ExR.mono {T : Tab} {K : PySem.W.Frag} {I I' : Hp} {m m' : List Addr} (s : Same I I') (p : m <+: m') {c : Nat} {ks : List Nat} {fs : List D} {cls : Value} {od : Option Addr} (h : ExR T K I m c ks fs cls od) : ExR T K I' m' c ks fs cls od := by
  refine ⟨h.1, ?_⟩
  rcases h.2 with r | ⟨d, gs, r1, r2, r3, r4⟩
  · exact .inl r
  · exact .inr ⟨d, gs, r1, s _ _ r2, r3, RpL.mono s p r4⟩
/-- what is wanted of an outcome -/
def OutG {α β : Type} (T : Tab) (K : PySem.W.Frag) (R : Hp → List Addr → α → β → Prop) (I : Hp) (m : List Addr) (o : Out α) (Q : β → Hp → Prop) (E : XK) : Prop := match o with
  | .ok d cs => ∀ v H' I' m', Same I I' → m <+: m' → SR T K I' m' cs H' → R I' m' d v → Q v H'
  | .exn c ks fs cs => ∀ cls od H' I' m', Same I I' → m <+: m' → SR T K I' m' cs H' → ExR T K I' m' c ks fs cls od → E cls od H'
  | .no => False
section
variable {T : Tab} {K : PySem.W.Frag} {I I' H H' : Hp} {m m' : List Addr} {α β γ δ : Type} {R : Hp → List Addr → α → β → Prop} {R2 : Hp → List Addr → γ → δ → Prop} {Q : δ → Hp → Prop} {E : XK}
theorem OutG.up {o : Out γ} (s : Same I I') (p : m <+: m') (h : OutG T K R2 I m o Q E) : OutG T K R2 I' m' o Q E := by
  cases o with
  | ok d cs => exact fun v H' I2 m2 s2 p2 => h v H' I2 m2 (s.trans s2) (p.trans p2)
  | exn c ks fs cs => exact fun cls od H' I2 m2 s2 p2 => h cls od H' I2 m2 (s.trans s2) (p.trans p2)
  | no => exact h
/-- the first of two steps -/
theorem OutG.bindI {x : Out α} {k : α → List Cell → Out γ} {Q1 : β → Hp → Prop} (h : OutG T K R2 I m (x.bind k) Q E)
    (hk : ∀ a cs v H1 I1 m1, Same I I1 → m <+: m1 → SR T K I1 m1 cs H1 → R I1 m1 a v → OutG T K R2 I1 m1 (k a cs) Q E → Q1 v H1) : OutG T K R I m x Q1 E := by
  cases x with
  | ok d cs => exact fun v H' I2 m2 s2 p2 sr r => hk d cs v H' I2 m2 s2 p2 sr r (OutG.up s2 p2 h)
  | exn c ks fs cs => exact h
  | no => exact h
/-- the last step -/
theorem OutG.okI {a : γ} {cs : List Cell} {v : δ} (h : OutG T K R2 I m (.ok a cs) Q E) (sr : SR T K I m cs H) (r : R2 I m a v) : Q v H := h v H I m (Same.refl I) (List.prefix_refl _) sr r
theorem OutG.ok1 {a : γ} {cs : List Cell} {v : δ} (h : OutG T K R2 I m (.ok a cs) Q E) (s : Same I I') (sr : SR T K I' m cs H) (r : R2 I' m a v) : Q v H := h v H I' m s (List.prefix_refl _) sr r
end
abbrev Env := List (Option D)
abbrev Den (α : Type) := Env → List Cell → Out α
/-- the one reading -/
def tG {α β : Type} (T : Tab) (K : PySem.W.Frag) (W : WX) (R : Hp → List Addr → α → β → Prop) (f : Den α) : St → Hp → (β → Hp → Prop) → Prop := fun σ H Q =>
  ∃ I m cs env, ER T K I m env σ ∧ SR T K I m cs H ∧ OutG T K R I m (f env cs) Q (fun cls od H' => W cls od σ H')
abbrev RD (T : Tab) (K : PySem.W.Frag) : Hp → List Addr → D → V → Prop := fun I m => Rp T K I m
abbrev RL (T : Tab) (K : PySem.W.Frag) : Hp → List Addr → List D → List V → Prop := fun I m => RpL T K I m
abbrev RB : Hp → List Addr → Bool → Bool → Prop := fun _ _ a b => a = b
def DE (X : Cx) (T : Tab) (W : WX) (e : Expr) (f : Den D) : Prop := PE X e (tG T X.K W (RD T X.K) f)
def DA (X : Cx) (T : Tab) (W : WX) (es : List Expr) (f : Den (List D)) : Prop := PA X es (tG T X.K W (RL T X.K) f)
def DT (X : Cx) (T : Tab) (W : WX) (e : Expr) (f : Den Bool) : Prop := PT X e (tG T X.K W RB f)
def DW (X : Cx) (T : Tab) (W : WX) (e : Expr) (f : Den Bool) : Prop := PW X e (tG T X.K W RB f)

theorem PE.imp {X : Cx} {e : Expr} {t t' : TE} (h : PE X e t) (i : ∀ σ H Q, t' σ H Q → t σ H Q) : PE X e t' := ⟨fun pins s σ H Q I q => h.run pins s σ H Q I (i σ H Q q)⟩
theorem PT.imp {X : Cx} {e : Expr} {t t' : TT} (h : PT X e t) (i : ∀ σ H Q, t' σ H Q → t σ H Q) : PT X e t' := ⟨fun pins s σ H Q I q => h.run pins s σ H Q I (i σ H Q q)⟩
theorem PW.imp {X : Cx} {e : Expr} {t t' : TT} (h : PW X e t) (i : ∀ σ H Q, t' σ H Q → t σ H Q) : PW X e t' := ⟨fun wh pins s σ H Q I q => h.run wh pins s σ H Q I (i σ H Q q)⟩
theorem PA.imp {X : Cx} {es : List Expr} {t t' : TA} (h : PA X es t) (i : ∀ σ H Q, t' σ H Q → t σ H Q) : PA X es t' := ⟨fun pos pins s σ H Q I q => h.run pos pins s σ H Q I (i σ H Q q)⟩
theorem PS.imp {X : Cx} {st : Stmt} {t t' : TS} (h : PS X st t) (i : ∀ D σ H, t' D σ H → t D σ H) : PS X st t' := ⟨fun pins s σ H D I q => h.run pins s σ H D I (i D σ H q)⟩
theorem PSs.imp {X : Cx} {st : List Stmt} {t t' : TS} (h : PSs X st t) (i : ∀ D σ H, t' D σ H → t D σ H) : PSs X st t' := ⟨fun pins s σ H D I q => h.run pins s σ H D I (i D σ H q)⟩
end DL
end

section
set_option Elab.async false
set_option linter.all false
set_option maxRecDepth 100000
set_option maxHeartbeats 4000000
namespace DL
open PySem L2
open Classical
noncomputable section

/-! ### ints whose size an operation minds -/
def smallI (i : Int) : Prop := -(2 ^ 64) < i ∧ i < 2 ^ 64
def CMulX (i j : Int) : Prop := CMul i j ∨ CMulW i j
theorem op_mulX {X : Cx} : OpR X (binaryOp .Mult) (fun x y H Q => ∃ i j, x = .int i ∧ y = .int j ∧ CMulX i j ∧ Q (.int (i * j)) H) := by
  intro pins s σ H x y v u Q I rx ry h
  obtain ⟨i, j, rfl, rfl, hc, q⟩ := h
  rcases hc with hc | hc
  · exact op_mul pins s σ H _ _ v u Q I rx ry ⟨i, j, rfl, rfl, hc, q⟩
  · exact op_mulW pins s σ H _ _ v u Q I rx ry ⟨i, j, rfl, rfl, hc, q⟩
def CDivX (i j : Int) : Prop := CDiv i j ∨ CDivW i j
theorem op_fdivX {X : Cx} : OpR X (binaryOp .FloorDiv) (fun x y H Q => ∃ i j, x = .int i ∧ y = .int j ∧ CDivX i j ∧ Q (.int (i / j)) H) := by
  intro pins s σ H x y v u Q I rx ry h
  obtain ⟨i, j, rfl, rfl, hc, q⟩ := h
  rcases hc with hc | hc
  · exact op_fdiv pins s σ H _ _ v u Q I rx ry ⟨i, j, rfl, rfl, hc, q⟩
  · exact op_fdivW pins s σ H _ _ v u Q I rx ry ⟨i, j, rfl, rfl, hc, q⟩

section
variable {X : Cx} {T : Tab} {W : WX} {a b c e : Expr} {es : List Expr} {pos : Pos}

/-! ### names, constants -/
def dVar (i : Nat) : Den D := fun env cs => match env[i]? with
  | some (some d) => .ok d cs
  | _ => .no
theorem de_var {i : Nat} {x : Str} (h : PE X (.Name x pos) (tVar i)) : DE X T W (.Name x pos) (dVar i) := by
  refine PE.imp h fun σ H Q ⟨I, m, cs, env, er, sr, h⟩ => ?_
  unfold dVar at h
  cases he : env[i]? with
  | none => rw [he] at h; exact h.elim
  | some o =>
    cases o with
    | none => rw [he] at h; exact h.elim
    | some d =>
      rw [he] at h
      obtain ⟨v, e, r⟩ := er.at_ i d he
      exact ⟨v, e, OutG.okI h sr r⟩
def dC (d : D) : Den D := fun _ cs => .ok d cs
theorem de_c {e : Expr} {v : V} {d : D} (h : PE X e (tC v)) (r : ∀ I m, Rp T X.K I m d v) : DE X T W e (dC d) :=
  PE.imp h fun σ H Q ⟨I, m, cs, env, er, sr, h⟩ => OutG.okI h sr (r I m)
theorem de_int {i : Int} {j} : DE X T W (.Constant (.int i) j pos) (dC (.int i)) := de_c pe_int fun I m => by unfold Rp; rfl
theorem de_bl {i : Bool} {j} : DE X T W (.Constant (.bool i) j pos) (dC (.bl i)) := de_c pe_bl fun I m => by unfold Rp; rfl
theorem de_str {i : Str} {j} : DE X T W (.Constant (.str i) j pos) (dC (.str i)) := de_c pe_str fun I m => by unfold Rp; rfl
theorem de_non {j} : DE X T W (.Constant .none j pos) (dC .non) := de_c pe_non fun I m => by unfold Rp; rfl
/-- a module's constant -/
theorem de_gint {x : Str} {i : Int} (hg : Gl X x) (hm : ∃ t, X.mg x = some (.int i t)) (hd : (x == ("__debug__" : Str)) = false := by decide) : DE X T W (.Name x pos) (dC (.int i)) := by
  obtain ⟨t, hm⟩ := hm
  exact de_c (pe_glob hg hm (v := .int i) ⟨t, rfl⟩ hd) fun I m => by unfold Rp; rfl
theorem de_gstr {x : Str} {i : Str} (hg : Gl X x) (hm : ∃ t, X.mg x = some (.str i t)) (hd : (x == ("__debug__" : Str)) = false := by decide) : DE X T W (.Name x pos) (dC (.str i)) := by
  obtain ⟨t, hm⟩ := hm
  exact de_c (pe_glob hg hm (v := .str i) ⟨t, rfl⟩ hd) fun I m => by unfold Rp; rfl

/-! ### operators -/
def d2 (f g : Den D) (k : D → D → List Cell → Out D) : Den D := fun env cs => (f env cs).bind fun x cs => (g env cs).bind fun y cs => k x y cs
def d1 (f : Den D) (k : D → List Cell → Out D) : Den D := fun env cs => (f env cs).bind fun x cs => k x cs
/-- what an operation on data promises -/
abbrev Hk2 (T : Tab) (K : PySem.W.Frag) (r : R2) (k : D → D → List Cell → Out D) : Prop :=
  ∀ (I : Hp) (m : List Addr) (cs : List Cell) (H : Hp) (x y : D) (v u : V) (Q : VK) (E : XK), SR T K I m cs H → Rp T K I m x v → Rp T K I m y u → OutG T K (RD T K) I m (k x y cs) Q E → r v u H Q
theorem tOp_of {f g : Den D} {k : D → D → List Cell → Out D} {r : R2} (hk : Hk2 T X.K r k) {ta tb : TE} (ha : ta = tG T X.K W (RD T X.K) f) (hb : tb = tG T X.K W (RD T X.K) g) :
    ∀ σ H Q, tG T X.K W (RD T X.K) (d2 f g k) σ H Q → tOp r ta tb σ H Q := by
  subst ha hb
  rintro σ H Q ⟨I, m, cs, env, er, sr, h⟩
  refine ⟨I, m, cs, env, er, sr, OutG.bindI h fun x cs1 v H1 I1 m1 s1 p1 sr1 r1 h1 => ?_⟩
  refine ⟨I1, m1, cs1, env, er.mono s1 p1, sr1, OutG.bindI h1 fun y cs2 u H2 I2 m2 s2 p2 sr2 r2 h2 => ?_⟩
  exact hk I2 m2 cs2 H2 x y v u Q _ sr2 (r1.mono s2 p2) r2 h2
theorem de_op {op : Operator} {r : R2} {f g : Den D} {k : D → D → List Cell → Out D} (ho : OpR X (binaryOp op) r) (hk : Hk2 T X.K r k) (ha : DE X T W a f) (hb : DE X T W b g) : DE X T W (.BinOp a op b pos) (d2 f g k) :=
  PE.imp (pe_op ho ha hb) (tOp_of hk rfl rfl)
/-- a comparison: as a value (DC.e), as a test (DC.t) -/
def DC (X : Cx) (T : Tab) (W : WX) (op : CmpOp) (a b : Expr) (f : Den D) : Prop := PC X op a b (tG T X.K W (RD T X.K) f)
theorem PC.imp {op : CmpOp} {t t' : TE} (h : PC X op a b t) (i : ∀ σ H Q, t' σ H Q → t σ H Q) : PC X op a b t' := ⟨fun pins s σ H Q I q => h.run pins s σ H Q I (i σ H Q q)⟩
theorem dc_op {op : CmpOp} {r : R2} {f g : Den D} {k : D → D → List Cell → Out D} (ho : OpR X (compareOp op) r) (hk : Hk2 T X.K r k) (ha : DE X T W a f) (hb : DE X T W b g) : DC X T W op a b (d2 f g k) := by
  refine ⟨fun pins s σ H Q J h => ?_⟩
  exact bin (R := fun x y H2 => r x y H2 Q) ha hb J (tOp_of hk rfl rfl σ H Q h) fun v u s2 x y H2 I2 rx ry q => ho pins s2 σ H2 x y v u Q I2 rx ry q
theorem DC.ex {op : CmpOp} {f : Den D} (h : DC X T W op a b f) (hm : behindInMarks op b = false := by first | exact nomark _ | rfl) : DE X T W (.Compare a [op] [b] pos) f := pe_cmp h hm
def qB (f : Den D) : Den Bool := fun env cs => (f env cs).bind fun x cs => match x with
  | .bl b => .ok b cs
  | _ => .no
theorem rp_int {K : PySem.W.Frag} {I : Hp} {m : List Addr} {i : Int} {v : V} : Rp T K I m (.int i) v ↔ v = .int i := by unfold Rp; exact Iff.rfl
theorem rp_bl {K : PySem.W.Frag} {I : Hp} {m : List Addr} {i : Bool} {v : V} : Rp T K I m (.bl i) v ↔ v = .bl i := by unfold Rp; exact Iff.rfl
theorem rp_str {K : PySem.W.Frag} {I : Hp} {m : List Addr} {i : Str} {v : V} : Rp T K I m (.str i) v ↔ v = .str i := by unfold Rp; exact Iff.rfl
theorem rp_non {K : PySem.W.Frag} {I : Hp} {m : List Addr} {v : V} : Rp T K I m .non v ↔ v = .non := by unfold Rp; exact Iff.rfl
theorem rp_tup {K : PySem.W.Frag} {I : Hp} {m : List Addr} {ds : List D} {v : V} : Rp T K I m (.tup ds) v ↔ ∃ a vs, v = .ref a ∧ SqT K I a vs ∧ RpL T K I m ds vs := by unfold Rp; exact Iff.rfl
theorem rp_lst {K : PySem.W.Frag} {I : Hp} {m : List Addr} {ds : List D} {v : V} : Rp T K I m (.lst ds) v ↔ ∃ a vs, v = .ref a ∧ SqX K I a vs ∧ RpL T K I m ds vs := by unfold Rp; exact Iff.rfl
theorem rp_cell {K : PySem.W.Frag} {I : Hp} {m : List Addr} {n : Nat} {v : V} : Rp T K I m (.cell n) v ↔ ∃ a, m[n]? = some a ∧ v = .ref a := by unfold Rp; exact Iff.rfl

theorem DC.tt {op : CmpOp} {f : Den D} (h : DC X T W op a b f) (hm : behindInMarks op b = false := by first | exact nomark _ | rfl) : DT X T W (.Compare a [op] [b] pos) (qB f) := by
  refine PT.imp (pt_cmp h hm) ?_
  rintro σ H Q ⟨I, m, cs, env, er, sr, h⟩
  refine ⟨I, m, cs, env, er, sr, OutG.bindI h fun x cs1 v H1 I1 m1 s1 p1 sr1 r1 h1 => ?_⟩
  cases x with
  | bl b => exact ⟨b, rp_bl.mp r1, OutG.okI h1 sr1 rfl⟩
  | _ => exact h1.elim

/-- the items of a list or a tuple: of data, of a cell -/
def itemsL (cs : List Cell) : D → Option (List D)
  | .lst xs => some xs
  | .cell n => match cs[n]? with
    | some (.lst xs) => some xs
    | _ => none
  | _ => none
theorem itemsL_ok {K : PySem.W.Frag} {I H : Hp} {m : List Addr} {cs : List Cell} {d : D} {xs : List D} {v : V} (sr : SR T K I m cs H) (r : Rp T K I m d v) (h : itemsL cs d = some xs) : ∃ a vs, v = .ref a ∧ SqX K H a vs ∧ RpL T K I m xs vs := by
  cases d with
  | lst ds =>
    have e : ds = xs := Option.some.inj h
    subst e
    obtain ⟨a, vs, e, q, rl⟩ := rp_lst.mp r
    exact ⟨a, vs, e, SqX.same sr.same q, rl⟩
  | cell n =>
    obtain ⟨a, e1, e2⟩ := rp_cell.mp r
    unfold itemsL at h
    cases hc : cs[n]? with
    | none => simp [hc] at h
    | some c =>
      cases c with
      | lst ys =>
        simp only [hc] at h
        have e : ys = xs := Option.some.inj h
        subst e
        obtain ⟨a', o, q1, q2, q3, q4⟩ := sr.at_ n _ hc (by intro z; cases z)
        rw [e1] at q1; cases q1
        cases o with
        | lst vs => exact ⟨a, vs, e2, SqX.of q3, q4⟩
        | _ => exact q4.elim
      | _ => simp [hc] at h
  | _ => cases h
def itemsT : D → Option (List D)
  | .tup xs => some xs
  | _ => none
def itemsS (cs : List Cell) (d : D) : Option (List D) := match d with
  | .tup xs => some xs
  | d => itemsL cs d
theorem itemsS_ok {K : PySem.W.Frag} {I H : Hp} {m : List Addr} {cs : List Cell} {d : D} {xs : List D} {v : V} (sr : SR T K I m cs H) (r : Rp T K I m d v) (h : itemsS cs d = some xs) : ∃ a vs, v = .ref a ∧ (SqX K H a vs ∨ SqT K H a vs) ∧ RpL T K I m xs vs := by
  cases d with
  | tup ds =>
    have e : ds = xs := Option.some.inj h
    subst e
    obtain ⟨a, vs, e, q, rl⟩ := rp_tup.mp r
    exact ⟨a, vs, e, .inr (SqT.same sr.same q), rl⟩
  | _ =>
    obtain ⟨a, vs, e, q, rl⟩ := itemsL_ok sr r h
    exact ⟨a, vs, e, .inl q, rl⟩
theorem itemsL_S {cs : List Cell} {d : D} {xs : List D} (h : itemsL cs d = some xs) : itemsS cs d = some xs := by
  cases d <;> first | exact h | cases h

def asI : D → Option Int
  | .int i => some i
  | _ => none
def asS : D → Option Str
  | .str i => some i
  | _ => none
def asB : D → Option Bool
  | .bl i => some i
  | _ => none
theorem asI_ok {d : D} {i : Int} (h : asI d = some i) : d = .int i := by cases d <;> cases h; rfl
theorem asS_ok {d : D} {i : Str} (h : asS d = some i) : d = .str i := by cases d <;> cases h; rfl
theorem asB_ok {d : D} {i : Bool} (h : asB d = some i) : d = .bl i := by cases d <;> cases h; rfl
theorem itemsT_eq {d : D} {i : List D} (h : itemsT d = some i) : d = .tup i := by cases d <;> cases h; rfl
def both {α β : Type} (a : Option α) (b : Option β) : Option (α × β) := match a, b with
  | some x, some y => some (x, y)
  | _, _ => none
theorem both_ok {α β : Type} {a : Option α} {b : Option β} {p : α × β} (h : both a b = some p) : a = some p.1 ∧ b = some p.2 := by
  cases a <;> cases b <;> cases h
  exact ⟨rfl, rfl⟩
/-- + -/
def addD (x y : D) (cs : List Cell) : Out D := match both (asI x) (asI y) with
  | some (i, j) => .ok (.int (i + j)) cs
  | none => match both (asS x) (asS y) with
    | some (i, j) => if fits (i.length + j.length) then .ok (.str (i ++ j)) cs else .no
    | none => match both (itemsT x) (itemsT y) with
      | some (i, j) => if fits (i.length + j.length) then .ok (.tup (i ++ j)) cs else .no
      | none => match both (itemsL cs x) (itemsL cs y) with
        | some (i, j) => if fits (i.length + j.length) then .ok (.lst (i ++ j)) cs else .no
        | none => .no
end

/-- list + list, whatever kind of list may be read -/
theorem op_catL {X : Cx} : OpR X (binaryOp .Add) (fun x y H Q => ∃ l b xs zs, x = .ref l ∧ y = .ref b ∧ SqX X.K H l xs ∧ SqX X.K H b zs ∧ xs.length + zs.length ≤ sizeLine ∧ ∀ p, H p = none → Q (.ref p) (upd H p (.lst (xs ++ zs)))) := by
  intro pins s σ H x y v u Q I rx ry h
  obtain ⟨l, b, xs, zs, rfl, rfl, hH, hB, hz, q⟩ := h
  cases rx
  cases ry
  obtain ⟨z, its, n, r, hl, e⟩ := SqX.lst I hH
  obtain ⟨z2, its2, n2, r2, hl2, e2⟩ := SqX.lst I hB
  refine PySem.P.add_list e e2 ?_ (by rw [List.size_toArray, List.size_toArray]; omega)
  have ea : its.toArray ++ its2.toArray = (its ++ its2).toArray := by simp
  rw [ea]
  exact ⟨.ref _, _, I.lnew (t' := s.toks) (r.append r2) (by rw [List.length_append]; omega), rfl, q _ I.fresh⟩
section
variable {X : Cx} {T : Tab} {W : WX} {a b c e : Expr} {es : List Expr} {pos : Pos}
theorem rp_newL {K : PySem.W.Frag} {I H : Hp} {m : List Addr} {cs : List Cell} {ds : List D} {vs : List V} {p : Addr} {Q : VK} {E : XK} (sr : SR T K I m cs H) (hp : H p = none) (r : RpL T K I m ds vs) (h : OutG T K (RD T K) I m (.ok (.lst ds) cs) Q E) : Q (.ref p) (upd H p (.lst vs)) := by
  obtain ⟨s1, s2⟩ := sr.newI (o := .lst vs) hp
  exact h.ok1 s2 s1 (rp_lst.mpr ⟨p, vs, rfl, SqX.of upd_same, RpL.mono s2 (List.prefix_refl _) r⟩)
theorem rp_newT {K : PySem.W.Frag} {I H : Hp} {m : List Addr} {cs : List Cell} {ds : List D} {vs : List V} {p : Addr} {Q : VK} {E : XK} (sr : SR T K I m cs H) (hp : H p = none) (r : RpL T K I m ds vs) (h : OutG T K (RD T K) I m (.ok (.tup ds) cs) Q E) : Q (.ref p) (upd H p (.tup vs)) := by
  obtain ⟨s1, s2⟩ := sr.newI (o := .tup vs) hp
  exact h.ok1 s2 s1 (rp_tup.mpr ⟨p, vs, rfl, SqT.of upd_same, RpL.mono s2 (List.prefix_refl _) r⟩)
/-- the reading of + -/
def rAddX (K : PySem.W.Frag) : R2 := fun x y H Q => (∃ i j, x = .int i ∧ y = .int j ∧ Q (.int (i + j)) H) ∨ (∃ i j, x = .str i ∧ y = .str j ∧ i.length + j.length ≤ sizeLine ∧ Q (.str (i ++ j)) H) ∨ rCatA K x y H Q ∨
  (∃ l b xs zs, x = .ref l ∧ y = .ref b ∧ SqX K H l xs ∧ SqX K H b zs ∧ xs.length + zs.length ≤ sizeLine ∧ ∀ p, H p = none → Q (.ref p) (upd H p (.lst (xs ++ zs))))
theorem op_addX : OpR X (binaryOp .Add) (rAddX X.K) := op_add.or (op_add_str.or (op_catA.or op_catL))
theorem hk_add {K : PySem.W.Frag} : Hk2 T K (rAddX K) addD := by
  intro I m cs H x y v u Q E sr rx ry h
  unfold addD at h
  cases e1 : both (asI x) (asI y) with
  | some p =>
    obtain ⟨h1, h2⟩ := both_ok e1
    have e := asI_ok h1; subst e; have e := asI_ok h2; subst e
    simp only [e1] at h
    exact .inl ⟨_, _, rp_int.mp rx, rp_int.mp ry, h.okI sr (rp_int.mpr rfl)⟩
  | none =>
    simp only [e1] at h
    cases e2 : both (asS x) (asS y) with
    | some p =>
      obtain ⟨h1, h2⟩ := both_ok e2
      have e := asS_ok h1; subst e; have e := asS_ok h2; subst e
      simp only [e2] at h
      split at h
      · rename_i hz
        exact .inr (.inl ⟨_, _, rp_str.mp rx, rp_str.mp ry, hz, h.okI sr (rp_str.mpr rfl)⟩)
      · exact h.elim
    | none =>
      simp only [e2] at h
      cases e3 : both (itemsT x) (itemsT y) with
      | some p =>
        obtain ⟨xs, ys⟩ := p
        obtain ⟨h1, h2⟩ := both_ok e3
        have e := itemsT_eq h1; subst e; have e := itemsT_eq h2; subst e
        simp only [e3] at h
        split at h
        · rename_i hz
          obtain ⟨a1, vs, rfl, q1, r1⟩ := rp_tup.mp rx
          obtain ⟨b1, ws, rfl, q2, r2⟩ := rp_tup.mp ry
          have q1' := SqT.same sr.same q1
          have q2' := SqT.same sr.same q2
          have l1 := r1.length
          have l2 := r2.length
          simp only at hz l1 l2
          refine .inr (.inr (.inl ⟨a1, b1, vs, ws, rfl, rfl, q1', q2', by rw [← l1, ← l2]; exact hz, fun e0 => ?_, fun _ e0 => ?_, fun _ _ p hp => rp_newT sr hp (r1.append r2) h⟩))
          · subst e0
            have : xs = [] := List.eq_nil_of_length_eq_zero l1
            subst this
            exact h.okI sr ry
          · subst e0
            have : ys = [] := List.eq_nil_of_length_eq_zero l2
            subst this
            simp only [List.append_nil] at h
            exact h.okI sr rx
        · exact h.elim
      | none =>
        simp only [e3] at h
        cases e4 : both (itemsL cs x) (itemsL cs y) with
        | some p =>
          obtain ⟨xs, ys⟩ := p
          obtain ⟨h1, h2⟩ := both_ok e4
          simp only [e4] at h
          split at h
          · rename_i hz
            obtain ⟨a1, vs, rfl, q1, r1⟩ := itemsL_ok sr rx h1
            obtain ⟨b1, ws, rfl, q2, r2⟩ := itemsL_ok sr ry h2
            have l1 := r1.length
            have l2 := r2.length
            simp only at hz l1 l2
            exact .inr (.inr (.inr ⟨a1, b1, vs, ws, rfl, rfl, q1, q2, by rw [← l1, ← l2]; exact hz, fun p hp => rp_newL sr hp (r1.append r2) h⟩))
          · exact h.elim
        | none => simp only [e4] at h; exact h.elim
theorem de_add {f g : Den D} (ha : DE X T W a f) (hb : DE X T W b g) : DE X T W (.BinOp a .Add b pos) (d2 f g addD) := de_op op_addX hk_add ha hb
end
end
end DL
end

section
set_option Elab.async false
set_option linter.all false
set_option maxRecDepth 100000
set_option maxHeartbeats 4000000
namespace L2
open PySem PySem.Spec PyProof.Rows
theorem tuple_mulOne (l : Addr) (items : Array Value) (n : Nat) (dd : Option Addr) (sl : Array (Option Value)) (u : Tok) :
    Meets (Builtin.«tuple.__mul__» ⟨[.ref l, .int 1 u], []⟩) (fun _ R s => s.heap.get? l = some { cls := .type "tuple", dict := dd, data := .seq items n, slots := sl } ∧ R (.ok (.ret (Value.ref l))) s) :=
  .of_wp fun prog w A R s h => by
    obtain ⟨hp, g, d, tk, os⟩ := s
    obtain ⟨hl, h⟩ := h
    have f1 := AutoSeq1.idx_int
    have c0 : (decide ((1 : Int) < -(2 ^ 63)) || decide ((1 : Int) ≥ 2 ^ 63)) = false := by decide
    have c1 : (items.isEmpty || (1 : Int) == 1) = true := by simp
    wp_walk using wpAny_loadPart' hl
    repeat (first
      | (refine wpAny_ite_false (decide_eq_false (by rw [c0]; exact Bool.false_ne_true)) ?_; wp_walk using wpAny_loadPart' hl)
      | (refine wpAny_ite_true (decide_eq_true (by rw [c1])) ?_; wp_walk using wpAny_loadPart' hl))
    all_goals first | exact ⟨_, rfl, h⟩ | exact h
section
variable {X : Cx}
theorem op_repT1 : OpR X (binaryOp .Mult) (fun x y H Q => ∃ l xs, x = .ref l ∧ y = .int 1 ∧ SqT X.K H l xs ∧ Q (.ref l) H) := by
  intro pins s σ H x y v u Q I rx ry h
  obtain ⟨l, xs, rfl, rfl, hT, q⟩ := h
  cases rx
  obtain ⟨t, rfl⟩ := ry
  obtain ⟨its, r, ⟨⟨cls, dd, data, sl⟩, ho, hc, n, hd⟩, hs⟩ := I.tuple hT
  simp only at hc hd
  subst hc hd
  exact wpAny_binaryOp_repeat_ref (T := "tuple") (U := "int") (by decide) ⟨_, ho, rfl⟩ (fun s' => typeIs_int s' 1 t) noFill_tuple_mul F.fills_int_mul F.slot_int_rmul repeat_tuple F.slot_int_index.lookup
    (call_meets F.slot_int_rmul (typeIs_int s 1 t) F.entry_int_rmul (F.args_int_rmul_2 _ _) (int_rmul_tuple 1 t l its.toArray n dd sl)
      ⟨ho, rfl, ⟨_, ho, rfl⟩, call_meets F.slot_tuple_mul ⟨_, ho, rfl⟩ F.entry_tuple_mul (F.args_tuple_mul_2 _ _) (tuple_mulOne l its.toArray n dd sl t) ⟨ho, ⟨.ref l, H, I, rfl, q⟩⟩⟩)
theorem op_repX : OpR X (binaryOp .Mult) (fun x y H Q => ∃ l k xs, x = .ref l ∧ y = .int k ∧ DL.SqX X.K H l xs ∧ -(2 ^ 63) ≤ k ∧ k < 2 ^ 63 ∧ xs.length * k.toNat ≤ sizeLine ∧ ∀ p, H p = none → Q (.ref p) (upd H p (.lst (List.replicate k.toNat xs).flatten))) := by
  intro pins s σ H x y v u Q I rx ry h
  obtain ⟨l, k, xs, rfl, rfl, hH, h1, h2, hz, q⟩ := h
  cases rx
  obtain ⟨t, rfl⟩ := ry
  obtain ⟨z, its, n, r, hl, e⟩ := DL.SqX.lst I hH
  have hlen : its.toArray.size * k.toNat ≤ sizeLine := by rw [List.size_toArray, ← hl]; exact hz
  have hcap : ¬ its.toArray.size * k.toNat > (2 ^ 63 - 1) / 8 := by
    have : (sizeLine : Nat) ≤ (2 ^ 63 - 1) / 8 := by decide
    omega
  have hfit : ¬ (!Builtin.List.listFitsIndex k) = true := by
    rw [fitsIndex_both h1 h2]
    exact Bool.false_ne_true
  have hlong : ¬ Builtin.List.listTooLong (its.toArray.size * k.toNat) = true := by
    rw [notLongL hlen]
    exact Bool.false_ne_true
  have hnew : List.foldl (fun x1 x2 => x1 ++ x2) #[] (List.replicate (if its.toArray.isEmpty = true then 0 else k.toNat) its.toArray) = (List.replicate k.toNat its).flatten.toArray := by
    have f0 : ∀ m : Nat, List.foldl (fun x1 x2 => x1 ++ x2) #[] (List.replicate m its.toArray) = (List.replicate m its).flatten.toArray := fun m => by
      have := foldl_rep its m []
      rw [List.nil_append] at this
      exact this
    rw [f0]
    cases its with
    | nil => simp
    | cons a r' => rw [if_neg (by simp)]
  refine wpAny_binaryOp_repeat_ref (T := "list") (U := "int") (by decide) ⟨_, e, rfl⟩ (fun s' => typeIs_int s' k t) noFill_list_mul F.fills_int_mul F.slot_int_rmul repeat_list F.slot_int_index.lookup
    (call_meets F.slot_int_rmul (typeIs_int s k t) F.entry_int_rmul (F.args_int_rmul_2 _ _) (int___rmul___int_list k t l its.toArray n)
      ⟨e, rfl, ⟨_, e, rfl⟩, call_meets F.slot_list_mul ⟨_, e, rfl⟩ F.entry_list_mul (F.args_list_mul_2 _ _) (AutoListH.list___mul___list_int_3 l its.toArray n k t hfit hcap hlong) ⟨e, ?_⟩⟩)
  rw [hnew]
  exact ⟨.ref _, _, I.lnew (t' := s.toks) (r.rep k.toNat) (by rw [PyProof.Rows.lm_len_rep_flat, Nat.mul_comm]; exact hz), rfl, q _ I.fresh⟩
end
end L2
namespace DL
open PySem L2
open Classical
noncomputable section
theorem RpL.rep {T : Tab} {K : PySem.W.Frag} {I : Hp} {m : List Addr} {ds : List D} {vs : List V} (r : RpL T K I m ds vs) : ∀ k : Nat, RpL T K I m (List.replicate k ds).flatten (List.replicate k vs).flatten
  | 0 => by simp; exact RpL.nil
  | k + 1 => by simp only [List.replicate_succ, List.flatten_cons]; exact r.append (RpL.rep r k)
section
variable {X : Cx} {T : Tab} {W : WX} {a b c e : Expr} {es : List Expr} {pos : Pos} {f g : Den D}
def subD (x y : D) (cs : List Cell) : Out D := match both (asI x) (asI y) with
  | some (i, j) => .ok (.int (i - j)) cs
  | none => .no
theorem hk_sub {K : PySem.W.Frag} : Hk2 T K (rI0 fun i j => .int (i - j)) subD := by
  intro I m cs H x y v u Q E sr rx ry h
  unfold subD at h
  cases e1 : both (asI x) (asI y) with
  | some p =>
    obtain ⟨h1, h2⟩ := both_ok e1
    have e := asI_ok h1; subst e; have e := asI_ok h2; subst e
    simp only [e1] at h
    exact ⟨_, _, rp_int.mp rx, rp_int.mp ry, h.okI sr (rp_int.mpr rfl)⟩
  | none => simp only [e1] at h; exact h.elim
theorem de_sub (ha : DE X T W a f) (hb : DE X T W b g) : DE X T W (.BinOp a .Sub b pos) (d2 f g subD) := de_op op_sub hk_sub ha hb
/-- * : ints, list * int, tuple * int -/
def mulD (x y : D) (cs : List Cell) : Out D := match both (asI x) (asI y) with
  | some (i, j) => if CMulX i j then .ok (.int (i * j)) cs else .no
  | none => match both (itemsT x) (asI y) with
    | some (xs, k) => if k = 1 then .ok (.tup xs) cs else if repOk xs k then .ok (.tup (List.replicate k.toNat xs).flatten) cs else .no
    | none => match both (itemsL cs x) (asI y) with
      | some (xs, k) => if in63F k (xs.length * k.toNat) then .ok (.lst (List.replicate k.toNat xs).flatten) cs else .no
      | none => .no
def rMulX (K : PySem.W.Frag) : R2 := fun x y H Q => (∃ i j, x = .int i ∧ y = .int j ∧ CMulX i j ∧ Q (.int (i * j)) H) ∨ (∃ l xs, x = .ref l ∧ y = .int 1 ∧ SqT K H l xs ∧ Q (.ref l) H) ∨ rRepT K x y H Q ∨
  (∃ l k xs, x = .ref l ∧ y = .int k ∧ SqX K H l xs ∧ -(2 ^ 63) ≤ k ∧ k < 2 ^ 63 ∧ xs.length * k.toNat ≤ sizeLine ∧ ∀ p, H p = none → Q (.ref p) (upd H p (.lst (List.replicate k.toNat xs).flatten)))
theorem op_mulAll : OpR X (binaryOp .Mult) (rMulX X.K) := op_mulX.or (op_repT1.or (op_repT.or op_repX))
theorem hk_mul {K : PySem.W.Frag} : Hk2 T K (rMulX K) mulD := by
  intro I m cs H x y v u Q E sr rx ry h
  unfold mulD at h
  cases e1 : both (asI x) (asI y) with
  | some p =>
    obtain ⟨h1, h2⟩ := both_ok e1
    have e := asI_ok h1; subst e; have e := asI_ok h2; subst e
    simp only [e1] at h
    split at h
    · rename_i hc
      exact .inl ⟨_, _, rp_int.mp rx, rp_int.mp ry, hc, h.okI sr (rp_int.mpr rfl)⟩
    · exact h.elim
  | none =>
    simp only [e1] at h
    cases e2 : both (itemsT x) (asI y) with
    | some p =>
      obtain ⟨xs, k⟩ := p
      obtain ⟨h1, h2⟩ := both_ok e2
      have e := itemsT_eq h1; subst e; have e := asI_ok h2; subst e
      simp only [e2] at h
      obtain ⟨a1, vs, rfl, q1, r1⟩ := rp_tup.mp rx
      have q1' := SqT.same sr.same q1
      have l1 := r1.length
      split at h
      · rename_i hk
        subst hk
        exact .inr (.inl ⟨a1, vs, rfl, rp_int.mp ry, q1', h.okI sr rx⟩)
      · split at h
        · rename_i hk
          obtain ⟨k1, k2, k3, k4⟩ := hk
          refine .inr (.inr (.inl ⟨a1, k, vs, rfl, rp_int.mp ry, q1', fun z => k1 ?_, k2, k3, by rw [← l1]; exact k4, fun p hp => rp_newT sr hp (r1.rep _) h⟩))
          subst z
          exact List.eq_nil_of_length_eq_zero l1
        · exact h.elim
    | none =>
      simp only [e2] at h
      cases e3 : both (itemsL cs x) (asI y) with
      | some p =>
        obtain ⟨xs, k⟩ := p
        obtain ⟨h1, h2⟩ := both_ok e3
        have e := asI_ok h2; subst e
        simp only [e3] at h
        split at h
        · rename_i hk
          obtain ⟨k1, k2, k3⟩ := hk
          obtain ⟨a1, vs, rfl, q1, r1⟩ := itemsL_ok sr rx h1
          have l1 := r1.length
          exact .inr (.inr (.inr ⟨a1, k, vs, rfl, rp_int.mp ry, q1, k1, k2, by rw [← l1]; exact k3, fun p hp => rp_newL sr hp (r1.rep _) h⟩))
        · exact h.elim
      | none => simp only [e3] at h; exact h.elim
theorem de_mul (ha : DE X T W a f) (hb : DE X T W b g) : DE X T W (.BinOp a .Mult b pos) (d2 f g mulD) := de_op op_mulAll hk_mul ha hb
def fdivD (x y : D) (cs : List Cell) : Out D := match both (asI x) (asI y) with
  | some (i, j) => if CDivX i j then .ok (.int (i / j)) cs else .no
  | none => .no
theorem hk_fdiv {K : PySem.W.Frag} : Hk2 T K (fun x y H Q => ∃ i j, x = .int i ∧ y = .int j ∧ CDivX i j ∧ Q (.int (i / j)) H) fdivD := by
  intro I m cs H x y v u Q E sr rx ry h
  unfold fdivD at h
  cases e1 : both (asI x) (asI y) with
  | some p =>
    obtain ⟨h1, h2⟩ := both_ok e1
    have e := asI_ok h1; subst e; have e := asI_ok h2; subst e
    simp only [e1] at h
    split at h
    · rename_i hc
      exact ⟨_, _, rp_int.mp rx, rp_int.mp ry, hc, h.okI sr (rp_int.mpr rfl)⟩
    · exact h.elim
  | none => simp only [e1] at h; exact h.elim
theorem de_fdiv (ha : DE X T W a f) (hb : DE X T W b g) : DE X T W (.BinOp a .FloorDiv b pos) (d2 f g fdivD) := de_op op_fdivX hk_fdiv ha hb
def modD (x y : D) (cs : List Cell) : Out D := match both (asI x) (asI y) with
  | some (i, j) => if 0 < j then .ok (.int (i % j)) cs else .no
  | none => .no
theorem hk_mod {K : PySem.W.Frag} : Hk2 T K (rI (fun _ j => 0 < j) fun i j => .int (i % j)) modD := by
  intro I m cs H x y v u Q E sr rx ry h
  unfold modD at h
  cases e1 : both (asI x) (asI y) with
  | some p =>
    obtain ⟨h1, h2⟩ := both_ok e1
    have e := asI_ok h1; subst e; have e := asI_ok h2; subst e
    simp only [e1] at h
    split at h
    · rename_i hc
      exact ⟨_, _, rp_int.mp rx, rp_int.mp ry, hc, h.okI sr (rp_int.mpr rfl)⟩
    · exact h.elim
  | none => simp only [e1] at h; exact h.elim
theorem de_mod (ha : DE X T W a f) (hb : DE X T W b g) : DE X T W (.BinOp a .Mod b pos) (d2 f g modD) := de_op op_mod hk_mod ha hb
def powD (x y : D) (cs : List Cell) : Out D := match both (asI x) (asI y) with
  | some (i, j) => if CPow i j then .ok (.int (i ^ j.toNat)) cs else .no
  | none => .no
theorem hk_pow {K : PySem.W.Frag} : Hk2 T K (rI CPow fun i j => .int (i ^ j.toNat)) powD := by
  intro I m cs H x y v u Q E sr rx ry h
  unfold powD at h
  cases e1 : both (asI x) (asI y) with
  | some p =>
    obtain ⟨h1, h2⟩ := both_ok e1
    have e := asI_ok h1; subst e; have e := asI_ok h2; subst e
    simp only [e1] at h
    split at h
    · rename_i hc
      exact ⟨_, _, rp_int.mp rx, rp_int.mp ry, hc, h.okI sr (rp_int.mpr rfl)⟩
    · exact h.elim
  | none => simp only [e1] at h; exact h.elim
theorem de_pow (ha : DE X T W a f) (hb : DE X T W b g) : DE X T W (.BinOp a .Pow b pos) (d2 f g powD) := de_op op_pow hk_pow ha hb
/-- -x -/
def negD (x : D) (cs : List Cell) : Out D := match asI x with
  | some i => .ok (.int (-i)) cs
  | none => .no
theorem de_neg (ha : DE X T W a f) : DE X T W (.UnaryOp .USub a pos) (d1 f negD) := by
  refine PE.imp (pe_un un_neg ha) ?_
  rintro σ H Q ⟨I, m, cs, env, er, sr, h⟩
  refine ⟨I, m, cs, env, er, sr, OutG.bindI h fun x cs1 v H1 I1 m1 s1 p1 sr1 r1 h1 => ?_⟩
  unfold negD at h1
  cases e1 : asI x with
  | some i =>
    have e := asI_ok e1; subst e
    simp only [e1] at h1
    exact ⟨i, rp_int.mp r1, h1.okI sr1 (rp_int.mpr rfl)⟩
  | none => simp only [e1] at h1; exact h1.elim

/-! ### comparisons of ints -/
def cmpD (p : Int → Int → Bool) (x y : D) (cs : List Cell) : Out D := match both (asI x) (asI y) with
  | some (i, j) => .ok (.bl (p i j)) cs
  | none => .no
theorem hk_cmp {K : PySem.W.Frag} {p : Int → Int → Bool} : Hk2 T K (rI0 fun i j => .bl (p i j)) (cmpD p) := by
  intro I m cs H x y v u Q E sr rx ry h
  unfold cmpD at h
  cases e1 : both (asI x) (asI y) with
  | some p =>
    obtain ⟨h1, h2⟩ := both_ok e1
    have e := asI_ok h1; subst e; have e := asI_ok h2; subst e
    simp only [e1] at h
    exact ⟨_, _, rp_int.mp rx, rp_int.mp ry, h.okI sr (rp_bl.mpr rfl)⟩
  | none => simp only [e1] at h; exact h.elim
abbrev ltD := cmpD fun i j => decide (i < j)
abbrev leD := cmpD fun i j => decide (i ≤ j)
abbrev gtD := cmpD fun i j => decide (j < i)
abbrev geD := cmpD fun i j => decide (j ≤ i)
theorem dc_lt (ha : DE X T W a f) (hb : DE X T W b g) : DC X T W .Lt a b (d2 f g ltD) := dc_op op_lt hk_cmp ha hb
theorem dc_le (ha : DE X T W a f) (hb : DE X T W b g) : DC X T W .LtE a b (d2 f g leD) := dc_op op_le hk_cmp ha hb
theorem dc_gt (ha : DE X T W a f) (hb : DE X T W b g) : DC X T W .Gt a b (d2 f g gtD) := dc_op op_gt hk_cmp ha hb
theorem dc_ge (ha : DE X T W a f) (hb : DE X T W b g) : DC X T W .GtE a b (d2 f g geD) := dc_op op_ge hk_cmp ha hb
/-- a < b < c and its like, on ints -/
def chainD (f g k : Den D) (p q : Int → Int → Bool) : Den D := fun env cs => (f env cs).bind fun x cs => (g env cs).bind fun y cs => match both (asI x) (asI y) with
  | some (i, j) => if p i j = true then (k env cs).bind fun z cs => cmpD q y z cs else .ok (.bl false) cs
  | none => .no
theorem chain_rd {p q : Int → Int → Bool} {k : Den D} {ta tb tc : TE} (e1 : ta = tG T X.K W (RD T X.K) f) (e2 : tb = tG T X.K W (RD T X.K) g) (e3 : tc = tG T X.K W (RD T X.K) k) :
    ∀ σ H Q, tG T X.K W (RD T X.K) (chainD f g k p q) σ H Q → tChain (rI0 fun i j => .bl (p i j)) (rI0 fun i j => .bl (q i j)) ta tb tc σ H Q := by
  subst e1 e2 e3
  rintro σ H Q ⟨I, m, cs, env, er, sr, h⟩
  refine ⟨I, m, cs, env, er, sr, OutG.bindI h fun x cs1 v H1 I1 m1 s1 p1 sr1 r1 h1 => ?_⟩
  refine ⟨I1, m1, cs1, env, er.mono s1 p1, sr1, OutG.bindI h1 fun y cs2 u H2 I2 m2 s2 p2 sr2 r2 h2 => ?_⟩
  cases e1 : both (asI x) (asI y) with
  | none => simp only [e1] at h2; exact h2.elim
  | some w =>
    obtain ⟨i, j⟩ := w
    obtain ⟨g1, g2⟩ := both_ok e1
    have e := asI_ok g1; subst e; have e := asI_ok g2; subst e
    simp only [e1] at h2
    refine ⟨i, j, rp_int.mp r1, rp_int.mp r2, p i j, rfl, ?_⟩
    split at h2
    · rename_i hp
      rw [if_pos hp]
      refine ⟨I2, m2, cs2, env, (er.mono s1 p1).mono s2 p2, sr2, OutG.bindI h2 fun z cs3 w H3 I3 m3 s3 p3 sr3 r3 h3 => ?_⟩
      exact hk_cmp I3 m3 cs3 H3 _ _ _ _ _ _ sr3 (r2.mono s3 p3) r3 h3
    · rename_i hp
      rw [if_neg hp]
      exact h2.okI sr2 (rp_bl.mpr rfl)
theorem de_chain {op op' : CmpOp} {p q : Int → Int → Bool} {k : Den D} (ho : OpR X (compareOp op) (rI0 fun i j => .bl (p i j))) (ho' : OpR X (compareOp op') (rI0 fun i j => .bl (q i j))) (ha : DE X T W a f) (hb : DE X T W b g) (hc : DE X T W c k)
    (hm : lastMarks [op, op'] [b, c] = false := by with_unfolding_all rfl) : DE X T W (.Compare a [op, op'] [b, c] pos) (chainD f g k p q) :=
  PE.imp (pe_chain ho ho' ha hb hc hm) (chain_rd rfl rfl rfl)
theorem dt_chain {op op' : CmpOp} {p q : Int → Int → Bool} {k : Den D} (ho : OpR X (compareOp op) (rI0 fun i j => .bl (p i j))) (ho' : OpR X (compareOp op') (rI0 fun i j => .bl (q i j))) (ha : DE X T W a f) (hb : DE X T W b g) (hc : DE X T W c k)
    (hm : lastMarks [op, op'] [b, c] = false := by with_unfolding_all rfl) : DT X T W (.Compare a [op, op'] [b, c] pos) (qB (chainD f g k p q)) := by
  refine PT.imp (pt_chain ho ho' ha hb hc hm) ?_
  rintro σ H Q ⟨I, m, cs, env, er, sr, h⟩
  refine chain_rd rfl rfl rfl σ H _ ⟨I, m, cs, env, er, sr, OutG.bindI h fun x cs1 v H1 I1 m1 s1 p1 sr1 r1 h1 => ?_⟩
  cases x with
  | bl b => exact ⟨b, rp_bl.mp r1, OutG.okI h1 sr1 rfl⟩
  | _ => exact h1.elim
end
end
end DL
end

section
set_option Elab.async false
set_option linter.all false
set_option maxRecDepth 100000
set_option maxHeartbeats 4000000
namespace DL
open PySem L2
open Classical
noncomputable section

/-! ### == of data -/
mutual
/-- data that == is said of: n levels at most; ob: objects too -/
def D.okE (ob : Bool) : D → Nat → Bool
  | .non, _ => true
  | .bl _, _ => true
  | .int _, _ => true
  | .str _, _ => true
  | .tup xs, n + 1 => D.okL ob xs n
  | .lst xs, n + 1 => D.okL ob xs n
  | .obj _ xs, n + 2 => ob && D.okL ob xs n
  | _, _ => false
def D.okL (ob : Bool) : List D → Nat → Bool
  | [], _ => true
  | x :: xs, n => D.okE ob x n && D.okL ob xs n
end
mutual
/-- structural equality; none: nothing is said -/
def eqD : D → D → Option Bool
  | .non, b => match b with
    | .non => some true
    | .bl _ => some false
    | .int _ => some false
    | .str _ => some false
    | .tup _ => some false
    | .lst _ => some false
    | _ => none
  | .bl a, b => match b with
    | .bl b => some (a == b)
    | .non => some false
    | .str _ => some false
    | .tup _ => some false
    | .lst _ => some false
    | _ => none
  | .int a, b => match b with
    | .int b => some (a == b)
    | .non => some false
    | .str _ => some false
    | .tup _ => some false
    | .lst _ => some false
    | _ => none
  | .str a, b => match b with
    | .str b => some (a == b)
    | .non => some false
    | .bl _ => some false
    | .int _ => some false
    | .tup _ => some false
    | .lst _ => some false
    | _ => none
  | .tup xs, b => match b with
    | .tup ys => eqL xs ys
    | .non => some false
    | .bl _ => some false
    | .int _ => some false
    | .str _ => some false
    | .lst _ => some false
    | _ => none
  | .lst xs, b => match b with
    | .lst ys => eqL xs ys
    | .non => some false
    | .bl _ => some false
    | .int _ => some false
    | .str _ => some false
    | .tup _ => some false
    | _ => none
  | .obj c xs, b => match b with
    | .obj c' ys => if c = c' then eqL xs ys else some false
    | .non => some false
    | _ => none
  | _, _ => none
/-- item by item, up to the first that differ; other lengths: unlike -/
def eqL : List D → List D → Option Bool
  | [], [] => some true
  | [], _ :: _ => some false
  | _ :: _, [] => some false
  | x :: xs, y :: ys => match eqD x y, eqL xs ys with
    | some a, some b => some (a && b)
    | _, _ => none
end
/-- == on data, somewhere below the running body X, with room n -/
structure EqB (X : Cx) (T : Tab) (n : Nat) (ob : Bool) (h : Nat) : Prop where
  eqb : ∀ (A : Around) (pins : List (Addr × Obj)) (s : Shared) (σ : St) (H : Hp) (x y : V) (v u : Value) (I : Hp) (m : List Addr) (a b : D) (r : Bool), Sub X n A → Inv X pins σ H s → Same I H → Rp T X.K I m a x → Rp T X.K I m b y → RelV x v → RelV y u → a.okE ob h = true → b.okE ob h = true → eqD a b = some r →
    wpAny (model X.prog X.w) A (eqBool v u) (fun r' s' => r' = r ∧ ∃ H', Inv X pins σ H' s' ∧ Ext H H') X.xe s
  rce : ∀ (A : Around) (pins : List (Addr × Obj)) (s : Shared) (σ : St) (H : Hp) (x y : V) (v u : Value) (I : Hp) (m : List Addr) (a b : D) (r : Bool), Sub X n A → Inv X pins σ H s → Same I H → Rp T X.K I m a x → Rp T X.K I m b y → RelV x v → RelV y u → a.okE ob h = true → b.okE ob h = true → eqD a b = some r →
    wpAny (model X.prog X.w) A (richCompare .Eq v u) (fun r' s' => r' = .bool r ∧ ∃ H', Inv X pins σ H' s' ∧ Ext H H') X.xe s
  rcn : ∀ (A : Around) (pins : List (Addr × Obj)) (s : Shared) (σ : St) (H : Hp) (x y : V) (v u : Value) (I : Hp) (m : List Addr) (a b : D) (r : Bool), Sub X n A → Inv X pins σ H s → Same I H → Rp T X.K I m a x → Rp T X.K I m b y → RelV x v → RelV y u → a.okE ob h = true → b.okE ob h = true → eqD a b = some r →
    wpAny (model X.prog X.w) A (richCompare .NotEq v u) (fun r' s' => r' = .bool (!r) ∧ ∃ H', Inv X pins σ H' s' ∧ Ext H H') X.xe s
  inl : ∀ (A : Around) (pins : List (Addr × Obj)) (s : Shared) (σ : St) (H : Hp) (x y : V) (v u : Value) (I : Hp) (m : List Addr) (a : D) (bs : List D) (r : Bool) (p : Addr) (ys : List V), Sub X n A → Inv X pins σ H s → Same I H → Rp T X.K I m a x → y = .ref p → (SqX X.K H p ys ∨ SqT X.K H p ys) → RpL T X.K I m bs ys → RelV x v → RelV y u →
    a.okE ob h = true → (∀ b ∈ bs, b.okE ob h = true ∧ ∃ r', eqD b a = some r') → (r = bs.any fun b => eqD b a == some true) →
    wpAny (model X.prog X.w) A (compareOp .In v u) (fun r' s' => r' = .bool r ∧ ∃ H', Inv X pins σ H' s' ∧ Ext H H') X.xe s ∧
    wpAny (model X.prog X.w) A (compareOp .NotIn v u) (fun r' s' => r' = .bool (!r) ∧ ∃ H', Inv X pins σ H' s' ∧ Ext H H') X.xe s
theorem SR.ext {T : Tab} {K : PySem.W.Frag} {I H H' : Hp} {m : List Addr} {cs : List Cell} (s : SR T K I m cs H) (e : Ext H H') : SR T K I m cs H' :=
  ⟨fun b o q => e b o (s.same b o q), s.len, fun n c h l => let ⟨a, o, q1, q2, q3, q4⟩ := s.at_ n c h l; ⟨a, o, q1, q2, e a o q3, q4⟩, s.inj⟩
/-- a cell's list read as data -/
def resL (cs : List Cell) (d : D) : D := match d with
  | .cell n => match cs[n]? with
    | some (.lst xs) => .lst xs
    | _ => d
  | _ => d
theorem resL_ok {T : Tab} {K : PySem.W.Frag} {I H : Hp} {m : List Addr} {cs : List Cell} {d : D} {v : V} (sr : SR T K I m cs H) (r : Rp T K I m d v) : ∃ I', Same I I' ∧ Same I' H ∧ Rp T K I' m (resL cs d) v := by
  cases d with
  | cell n =>
    unfold resL
    simp only
    cases hc : cs[n]? with
    | none => exact ⟨I, Same.refl I, sr.same, r⟩
    | some c =>
      cases c with
      | lst xs =>
        obtain ⟨a, e1, e2⟩ := rp_cell.mp r
        obtain ⟨a', o, q1, q2, q3, q4⟩ := sr.at_ n _ hc (by intro z; cases z)
        rw [e1] at q1; cases q1
        cases o with
        | lst vs =>
          refine ⟨L2.upd I a (.lst vs), Same.updI q2, fun b u e => ?_, rp_lst.mpr ⟨a, vs, e2, SqX.of upd_same, RpL.mono (Same.updI q2) (List.prefix_refl _) q4⟩⟩
          by_cases hb : b = a
          · subst hb; rw [upd_same] at e; rw [← e]; exact q3
          · rw [upd_ne hb] at e; exact sr.same b u e
        | _ => exact q4.elim
      | _ => exact ⟨I, Same.refl I, sr.same, r⟩
  | _ => exact ⟨I, Same.refl I, sr.same, r⟩
def eqC (ob : Bool) (h : Nat) (x y : D) (cs : List Cell) : Out D := if ((resL cs x).okE ob h && (resL cs y).okE ob h) = true then (match eqD (resL cs x) (resL cs y) with
  | some r => .ok (.bl r) cs
  | none => .no) else .no
def neC (ob : Bool) (h : Nat) (x y : D) (cs : List Cell) : Out D := if ((resL cs x).okE ob h && (resL cs y).okE ob h) = true then (match eqD (resL cs x) (resL cs y) with
  | some r => .ok (.bl (!r)) cs
  | none => .no) else .no
/-- two data, read in one heap -/
theorem res2_ok {T : Tab} {K : PySem.W.Frag} {I H : Hp} {m : List Addr} {cs : List Cell} {d e : D} {v u : V} (sr : SR T K I m cs H) (r : Rp T K I m d v) (q : Rp T K I m e u) : ∃ I', Same I I' ∧ Same I' H ∧ Rp T K I' m (resL cs d) v ∧ Rp T K I' m (resL cs e) u := by
  obtain ⟨I1, a1, a2, a3⟩ := resL_ok sr r
  obtain ⟨I2, b1, b2, b3⟩ := resL_ok sr q
  -- both are below H: their union
  refine ⟨fun a => match I1 a with | some o => some o | none => I2 a, fun a o h => ?_, fun a o h => ?_, Rp.mono (fun a o h => ?_) (List.prefix_refl _) a3, Rp.mono (fun a o h => ?_) (List.prefix_refl _) b3⟩
  · simp only [a1 a o h]
  · cases h1 : I1 a with
    | some o' => simp only [h1] at h; cases h; exact a2 a _ h1
    | none => simp only [h1] at h; exact b2 a o h
  · simp only [h]
  · cases h1 : I1 a with
    | some o' =>
      have := a2 a _ h1
      rw [b2 a o h] at this
      cases this
      rfl
    | none => simpa using h
section
variable {X : Cx} {T : Tab} {W : WX} {a b c e : Expr} {es : List Expr} {pos : Pos} {f g : Den D} {n h : Nat} {ob : Bool}
theorem dc_cmp2 {op : CmpOp} {k : D → D → List Cell → Out D} (ha : DE X T W a f) (hb : DE X T W b g)
    (hk : ∀ (pins : List (Addr × Obj)) (s : Shared) (σ : St) (I : Hp) (m : List Addr) (cs : List Cell) (H : Hp) (x y : D) (v u : V) (v' u' : Value) (Q : VK) (E : XK), Inv X pins σ H s → RelV v v' → RelV u u' → SR T X.K I m cs H → Rp T X.K I m x v → Rp T X.K I m y u → OutG T X.K (RD T X.K) I m (k x y cs) Q E → wpAny (model X.prog X.w) X.A (compareOp op v' u') (EP X pins σ Q) X.xe s) :
    DC X T W op a b (d2 f g k) := by
  refine ⟨fun pins s σ H Q J ⟨I, m, cs, env, er, sr, h⟩ => ?_⟩
  refine bin (R := fun v u H2 => ∃ I m cs x y, SR T X.K I m cs H2 ∧ Rp T X.K I m x v ∧ Rp T X.K I m y u ∧ OutG T X.K (RD T X.K) I m (k x y cs) Q fun cls od H' => W cls od σ H') ha hb J ?_ fun v u s2 x y H2 I2 rx ry q => ?_
  · refine ⟨I, m, cs, env, er, sr, OutG.bindI h fun x cs1 v H1 I1 m1 s1 p1 sr1 r1 h1 => ?_⟩
    refine ⟨I1, m1, cs1, env, er.mono s1 p1, sr1, OutG.bindI h1 fun y cs2 u H2 I2 m2 s2 p2 sr2 r2 h2 => ?_⟩
    exact ⟨I2, m2, cs2, x, y, sr2, r1.mono s2 p2, r2, h2⟩
  · obtain ⟨I', m', cs', x', y', q1, q2, q3, q4⟩ := q
    exact hk pins s2 σ I' m' cs' H2 x' y' x y v u Q _ I2 rx ry q1 q2 q3 q4
theorem dc_eq (B : EqB X T n ob h) (hr : Room n X.A) (ha : DE X T W a f) (hb : DE X T W b g) : DC X T W .Eq a b (d2 f g (eqC ob h)) :=
  dc_cmp2 ha hb fun pins s σ I m cs H x y v u v' u' Q E J rv ru sr rx ry h => by
    unfold eqC at h
    split at h
    case isFalse => exact h.elim
    rename_i hok
    obtain ⟨hok1, hok2⟩ := Bool.and_eq_true_iff.mp hok
    obtain ⟨I', a1, a2, a3, a4⟩ := res2_ok sr rx ry
    cases hq : eqD (resL cs x) (resL cs y) with
    | none => simp only [hq] at h; exact h.elim
    | some r =>
      simp only [hq] at h
      refine wpAny_mono (B.rce X.A pins s σ H v u v' u' I' m _ _ r ⟨hr, rfl⟩ J a2 a3 a4 rv ru hok1 hok2 hq) (fun z s' q => ?_) fun _ _ x => x
      obtain ⟨rfl, H', J', ex⟩ := q
      exact ⟨.bl r, H', J', rfl, h.okI (sr.ext ex) (rp_bl.mpr rfl)⟩
theorem dc_ne (B : EqB X T n ob h) (hr : Room n X.A) (ha : DE X T W a f) (hb : DE X T W b g) : DC X T W .NotEq a b (d2 f g (neC ob h)) :=
  dc_cmp2 ha hb fun pins s σ I m cs H x y v u v' u' Q E J rv ru sr rx ry h => by
    unfold neC at h
    split at h
    case isFalse => exact h.elim
    rename_i hok
    obtain ⟨hok1, hok2⟩ := Bool.and_eq_true_iff.mp hok
    obtain ⟨I', a1, a2, a3, a4⟩ := res2_ok sr rx ry
    cases hq : eqD (resL cs x) (resL cs y) with
    | none => simp only [hq] at h; exact h.elim
    | some r =>
      simp only [hq] at h
      refine wpAny_mono (B.rcn X.A pins s σ H v u v' u' I' m _ _ r ⟨hr, rfl⟩ J a2 a3 a4 rv ru hok1 hok2 hq) (fun z s' q => ?_) fun _ _ x => x
      obtain ⟨rfl, H', J', ex⟩ := q
      exact ⟨.bl (!r), H', J', rfl, h.okI (sr.ext ex) (rp_bl.mpr rfl)⟩
/-- is None -/
def isNonD (d : D) : Option Bool := match d with
  | .non => some true
  | .exc _ _ _ => none
  | _ => some false
def isC (neg : Bool) (x : D) (cs : List Cell) : Out D := match isNonD x with
  | some r => .ok (.bl (if neg then !r else r)) cs
  | none => .no
theorem isNonD_ok {K : PySem.W.Frag} {I : Hp} {m : List Addr} {d : D} {v : V} {r : Bool} (h : Rp T K I m d v) (e : isNonD d = some r) : decide (v = .non) = r := by
  cases d <;> unfold Rp at h <;> cases e
  case non => simp [h]
  case bl => simp [h]
  case int => simp [h]
  case str => simp [h]
  case tup => obtain ⟨_, _, rfl, _⟩ := h; simp
  case lst => obtain ⟨_, _, rfl, _⟩ := h; simp
  case obj => obtain ⟨_, _, _, rfl, _⟩ := h; simp
  case dic => obtain ⟨_, _, rfl, _⟩ := h; simp
  case cell => obtain ⟨_, _, rfl⟩ := h; simp
theorem dc_isN {j p2} (ha : DE X T W a f) : DC X T W .Is a (.Constant .none j p2) (d1 f (isC false)) := by
  refine PC.imp (pc_isN ha) ?_
  rintro σ H Q ⟨I, m, cs, env, er, sr, h⟩
  refine ⟨I, m, cs, env, er, sr, OutG.bindI h fun x cs1 v H1 I1 m1 s1 p1 sr1 r1 h1 => ?_⟩
  unfold isC at h1
  cases e1 : isNonD x with
  | none => simp only [e1] at h1; exact h1.elim
  | some r =>
    simp only [e1] at h1
    rw [isNonD_ok r1 e1]
    exact h1.okI sr1 (rp_bl.mpr rfl)
theorem dc_notN {j p2} (ha : DE X T W a f) : DC X T W .IsNot a (.Constant .none j p2) (d1 f (isC true)) := by
  refine PC.imp (pc_notN ha) ?_
  rintro σ H Q ⟨I, m, cs, env, er, sr, h⟩
  refine ⟨I, m, cs, env, er, sr, OutG.bindI h fun x cs1 v H1 I1 m1 s1 p1 sr1 r1 h1 => ?_⟩
  unfold isC at h1
  cases e1 : isNonD x with
  | none => simp only [e1] at h1; exact h1.elim
  | some r =>
    simp only [e1] at h1
    rw [isNonD_ok r1 e1]
    exact h1.okI sr1 (rp_bl.mpr rfl)
/-- x in xs (a list, a tuple); one sign in a text -/
def inC (ob : Bool) (h : Nat) (neg : Bool) (x y : D) (cs : List Cell) : Out D := match y with
  | .str z => match x with
    | .str ⟨⟨[c]⟩⟩ => .ok (.bl (if neg then !decide (c ∈ z.cps.toList) else decide (c ∈ z.cps.toList))) cs
    | _ => .no
  | y => match itemsS cs y with
    | some bs => if (D.okE ob (resL cs x) h && bs.all fun b => D.okE ob b h && (eqD b (resL cs x)).isSome) = true then .ok (.bl (if neg then !(bs.any fun b => eqD b (resL cs x) == some true) else bs.any fun b => eqD b (resL cs x) == some true)) cs else .no
    | none => .no
theorem rp_strc {K : PySem.W.Frag} {I : Hp} {m : List Addr} {ob : Bool} {hh : Nat} {y : D} (h : ∀ z, y ≠ .str z) (neg : Bool) (x : D) (cs : List Cell) : inC ob hh neg x y cs = match itemsS cs y with
    | some bs => if (D.okE ob (resL cs x) hh && bs.all fun b => D.okE ob b hh && (eqD b (resL cs x)).isSome) = true then .ok (.bl (if neg then !(bs.any fun b => eqD b (resL cs x) == some true) else bs.any fun b => eqD b (resL cs x) == some true)) cs else .no
    | none => .no := by
  cases y <;> first | rfl | exact absurd rfl (h _)
theorem in_hk (B : EqB X T n ob h) (hr : Room n X.A) (neg : Bool) (op : CmpOp) (ho : op = if neg then .NotIn else .In) :
    ∀ (pins : List (Addr × Obj)) (s : Shared) (σ : St) (I : Hp) (m : List Addr) (cs : List Cell) (H : Hp) (x y : D) (v u : V) (v' u' : Value) (Q : VK) (E : XK), Inv X pins σ H s → RelV v v' → RelV u u' → SR T X.K I m cs H → Rp T X.K I m x v → Rp T X.K I m y u → OutG T X.K (RD T X.K) I m (inC ob h neg x y cs) Q E → wpAny (model X.prog X.w) X.A (compareOp op v' u') (EP X pins σ Q) X.xe s := by
  intro pins s σ I m cs H x y v u v' u' Q E J rv ru sr rx ry hh
  by_cases hy : ∃ z, y = .str z
  · obtain ⟨z, rfl⟩ := hy
    unfold inC at hh
    simp only at hh
    split at hh
    · rename_i c
      have e1 := rp_str.mp rx
      have e2 := rp_str.mp ry
      cases neg with
      | false =>
        subst ho
        exact op_in_sign pins s σ H v u v' u' Q J rv ru ⟨c, z, e1, e2, hh.okI sr (rp_bl.mpr rfl)⟩
      | true =>
        subst ho
        exact op_notIn_sign pins s σ H v u v' u' Q J rv ru ⟨c, z, e1, e2, hh.okI sr (rp_bl.mpr rfl)⟩
    · exact hh.elim
  · rw [rp_strc (K := X.K) (I := I) (m := m) (fun z e => hy ⟨z, e⟩)] at hh
    cases hb : itemsS cs y with
    | none => simp only [hb] at hh; exact hh.elim
    | some bs =>
      simp only [hb] at hh
      split at hh
      · rename_i hall
        obtain ⟨hall0, hall⟩ := Bool.and_eq_true_iff.mp hall
        obtain ⟨I', a1, a2, a3⟩ := resL_ok sr rx
        obtain ⟨p, ys, e, q1, q2⟩ := itemsS_ok sr ry hb


        have hB := B.inl X.A pins s σ H v u v' u' I' m (resL cs x) bs _ p ys ⟨hr, rfl⟩ J a2 a3 e q1 (RpL.mono a1 (List.prefix_refl _) q2) rv ru hall0 (fun b hb' => ⟨(Bool.and_eq_true_iff.mp (List.all_eq_true.mp hall b hb')).1, Option.isSome_iff_exists.mp (Bool.and_eq_true_iff.mp (List.all_eq_true.mp hall b hb')).2⟩) rfl
        cases neg with
        | false =>
          subst ho
          refine wpAny_mono hB.1 (fun z s' q => ?_) fun _ _ x => x
          obtain ⟨rfl, H', J', ex⟩ := q
          exact ⟨.bl _, H', J', rfl, hh.okI (sr.ext ex) (rp_bl.mpr rfl)⟩
        | true =>
          subst ho
          refine wpAny_mono hB.2 (fun z s' q => ?_) fun _ _ x => x
          obtain ⟨rfl, H', J', ex⟩ := q
          exact ⟨.bl _, H', J', rfl, hh.okI (sr.ext ex) (rp_bl.mpr rfl)⟩
      · exact hh.elim
theorem dc_in (B : EqB X T n ob h) (hr : Room n X.A) (ha : DE X T W a f) (hb : DE X T W b g) : DC X T W .In a b (d2 f g (inC ob h false)) :=
  dc_cmp2 ha hb (in_hk B hr false .In rfl)
theorem dc_nin (B : EqB X T n ob h) (hr : Room n X.A) (ha : DE X T W a f) (hb : DE X T W b g) : DC X T W .NotIn a b (d2 f g (inC ob h true)) :=
  dc_cmp2 ha hb (in_hk B hr true .NotIn rfl)
end
end
end DL
end

section
set_option Elab.async false
set_option linter.all false
set_option maxRecDepth 100000
set_option maxHeartbeats 4000000
namespace DL
open PySem L2
open Classical
noncomputable section
section
variable {X : Cx} {T : Tab} {W : WX} {a b c e : Expr} {es rest : List Expr} {pos : Pos} {f g k : Den D} {p q r : Den Bool} {n : Nat}

/-! ### tests -/
theorem dt_val (h : DE X T W e f) (he : ∀ whole, isTrue e X.env whole = (do let v ← whole; standAt e.pos; holding [v] (truthy v)) := by intro _; rfl) : DT X T W e (qB f) := by
  refine PT.imp (pt_val h he) ?_
  rintro σ H Q ⟨I, m, cs, env, er, sr, h⟩
  refine ⟨I, m, cs, env, er, sr, OutG.bindI h fun x cs1 v H1 I1 m1 s1 p1 sr1 r1 h1 => ?_⟩
  cases x with
  | bl b => exact ⟨b, rp_bl.mp r1, OutG.okI h1 sr1 rfl⟩
  | _ => exact h1.elim
/-- truth of a text, a list, a tuple, an int -/
def truD (cs : List Cell) (d : D) : Option Bool := match d with
  | .bl b => some b
  | .non => some false
  | .int i => some (i != 0)
  | .str s => if fits s.length then some ((s.length : Int) != 0) else none
  | d => (itemsS cs d).map fun xs => !xs.isEmpty
def qTru (f : Den D) : Den Bool := fun env cs => (f env cs).bind fun x cs => match truD cs x with
  | some b => .ok b cs
  | none => .no
theorem truD_ok {K : PySem.W.Frag} {I H : Hp} {m : List Addr} {cs : List Cell} {d : D} {v : V} {r : Bool} (sr : SR T K I m cs H) (h : Rp T K I m d v) (e : truD cs d = some r) : TruV K v H r := by
  have seq : (itemsS cs d).map (fun xs => !xs.isEmpty) = some r → TruV K v H r := fun e => by
    cases hi : itemsS cs d with
    | none => rw [hi] at e; cases e
    | some xs =>
      rw [hi] at e
      have e' : (!xs.isEmpty) = r := Option.some.inj e
      obtain ⟨a, vs, rfl, q1, q2⟩ := itemsS_ok sr h hi
      have l := q2.length
      have ee : r = !vs.isEmpty := by
        rw [← e']
        cases xs <;> cases vs <;> simp_all
      rcases q1 with q1 | q1
      · exact .inl ⟨vs, q1.l, ee⟩
      · exact .inr (.inl ⟨vs, q1, ee⟩)
  cases d with
  | non => cases e; rw [rp_non.mp h]; rfl
  | bl b => cases e; rw [rp_bl.mp h]; rfl
  | int i => cases e; rw [rp_int.mp h]; rfl
  | str s =>
    rw [rp_str.mp h]
    unfold truD at e
    simp only at e
    split at e
    · rename_i hz
      cases e
      exact ⟨hz, rfl⟩
    · cases e
  | _ => exact seq e
theorem dt_tru (h : DE X T W e f) (he : ∀ whole, isTrue e X.env whole = (do let v ← whole; standAt e.pos; holding [v] (truthy v)) := by intro _; rfl) : DT X T W e (qTru f) := by
  refine PT.imp (pt_truth h he) ?_
  rintro σ H Q ⟨I, m, cs, env, er, sr, h⟩
  refine ⟨I, m, cs, env, er, sr, OutG.bindI h fun x cs1 v H1 I1 m1 s1 p1 sr1 r1 h1 => ?_⟩
  cases e1 : truD cs1 x with
  | none => simp only [e1] at h1; exact h1.elim
  | some b =>
    simp only [e1] at h1
    exact ⟨b, truD_ok sr1 r1 e1, h1.okI sr1 rfl⟩
def qNot (p : Den Bool) : Den Bool := fun env cs => (p env cs).bind fun b cs => .ok (!b) cs
theorem dt_not (h : DT X T W e p) : DT X T W (.UnaryOp .Not e pos) (qNot p) := by
  refine PT.imp (pt_not h) ?_
  rintro σ H Q ⟨I, m, cs, env, er, sr, h⟩
  refine ⟨I, m, cs, env, er, sr, OutG.bindI h fun x cs1 v H1 I1 m1 s1 p1 sr1 r1 h1 => ?_⟩
  have e : x = v := r1
  subst e
  exact h1.okI sr1 rfl
def qAnd (p q : Den Bool) : Den Bool := fun env cs => (p env cs).bind fun b cs => if b = true then q env cs else .ok false cs
def qOr (p q : Den Bool) : Den Bool := fun env cs => (p env cs).bind fun b cs => if b = true then .ok true cs else q env cs
theorem dw_and1 (h : DT X T W e p) : DW X T W (.BoolOp .And [e] pos) p := PW.imp (pw_and1 h) fun _ _ _ q => q
theorem dw_or1 (h : DT X T W e p) : DW X T W (.BoolOp .Or [e] pos) p := PW.imp (pw_or1 h) fun _ _ _ q => q
theorem dw_and (ha : DT X T W a p) (hb : DW X T W (.BoolOp .And (b :: rest) pos) q) : DW X T W (.BoolOp .And (a :: b :: rest) pos) (qAnd p q) := by
  refine PW.imp (pw_and ha hb) ?_
  rintro σ H Q ⟨I, m, cs, env, er, sr, h⟩
  refine ⟨I, m, cs, env, er, sr, OutG.bindI h fun x cs1 v H1 I1 m1 s1 p1 sr1 r1 h1 => ?_⟩
  have e : x = v := r1
  subst e
  cases x with
  | true => exact ⟨I1, m1, cs1, env, er.mono s1 p1, sr1, h1⟩
  | false => exact h1.okI sr1 rfl
theorem dw_or (ha : DT X T W a p) (hb : DW X T W (.BoolOp .Or (b :: rest) pos) q) : DW X T W (.BoolOp .Or (a :: b :: rest) pos) (qOr p q) := by
  refine PW.imp (pw_or ha hb) ?_
  rintro σ H Q ⟨I, m, cs, env, er, sr, h⟩
  refine ⟨I, m, cs, env, er, sr, OutG.bindI h fun x cs1 v H1 I1 m1 s1 p1 sr1 r1 h1 => ?_⟩
  have e : x = v := r1
  subst e
  cases x with
  | false => exact ⟨I1, m1, cs1, env, er.mono s1 p1, sr1, h1⟩
  | true => exact h1.okI sr1 rfl
theorem DW.tt (h : DW X T W e p) : DT X T W e p := PW.pt h
/-- .. as values -/
def eAnd (f g : Den D) : Den D := fun env cs => (f env cs).bind fun x cs => match asB x with
  | some b => if b = true then g env cs else .ok (.bl false) cs
  | none => .no
def eOr (f g : Den D) : Den D := fun env cs => (f env cs).bind fun x cs => match asB x with
  | some b => if b = true then .ok (.bl true) cs else g env cs
  | none => .no
def eNot (f : Den D) : Den D := fun env cs => (f env cs).bind fun x cs => match asB x with
  | some b => .ok (.bl (!b)) cs
  | none => .no
theorem de_one {op} (h : DE X T W a f) : DE X T W (.BoolOp op [a] pos) f := PE.imp (pe_one h) fun _ _ _ q => q
theorem de_and (ha : DE X T W a f) (hb : DE X T W (.BoolOp .And (b :: rest) pos) g) : DE X T W (.BoolOp .And (a :: b :: rest) pos) (eAnd f g) := by
  refine PE.imp (pe_and ha hb) ?_
  rintro σ H Q ⟨I, m, cs, env, er, sr, h⟩
  refine ⟨I, m, cs, env, er, sr, OutG.bindI h fun x cs1 v H1 I1 m1 s1 p1 sr1 r1 h1 => ?_⟩
  cases e1 : asB x with
  | none => simp only [e1] at h1; exact h1.elim
  | some b =>
    have e := asB_ok e1; subst e
    simp only [e1] at h1
    refine ⟨b, rp_bl.mp r1, ?_⟩
    cases b with
    | true => exact ⟨I1, m1, cs1, env, er.mono s1 p1, sr1, h1⟩
    | false => exact h1.okI sr1 (rp_bl.mpr rfl)
theorem de_or (ha : DE X T W a f) (hb : DE X T W (.BoolOp .Or (b :: rest) pos) g) : DE X T W (.BoolOp .Or (a :: b :: rest) pos) (eOr f g) := by
  refine PE.imp (pe_or ha hb) ?_
  rintro σ H Q ⟨I, m, cs, env, er, sr, h⟩
  refine ⟨I, m, cs, env, er, sr, OutG.bindI h fun x cs1 v H1 I1 m1 s1 p1 sr1 r1 h1 => ?_⟩
  cases e1 : asB x with
  | none => simp only [e1] at h1; exact h1.elim
  | some b =>
    have e := asB_ok e1; subst e
    simp only [e1] at h1
    refine ⟨b, rp_bl.mp r1, ?_⟩
    cases b with
    | false => exact ⟨I1, m1, cs1, env, er.mono s1 p1, sr1, h1⟩
    | true => exact h1.okI sr1 (rp_bl.mpr rfl)
theorem de_not (ha : DE X T W a f) : DE X T W (.UnaryOp .Not a pos) (eNot f) := by
  refine PE.imp (pe_not ha) ?_
  rintro σ H Q ⟨I, m, cs, env, er, sr, h⟩
  refine ⟨I, m, cs, env, er, sr, OutG.bindI h fun x cs1 v H1 I1 m1 s1 p1 sr1 r1 h1 => ?_⟩
  cases e1 : asB x with
  | none => simp only [e1] at h1; exact h1.elim
  | some b =>
    have e := asB_ok e1; subst e
    simp only [e1] at h1
    exact ⟨b, rp_bl.mp r1, h1.okI sr1 (rp_bl.mpr rfl)⟩
/-- or by truth -/
def eOrT (f g : Den D) : Den D := fun env cs => (f env cs).bind fun x cs => match truD cs x with
  | some b => if b = true then .ok x cs else g env cs
  | none => .no
theorem de_orT (ha : DE X T W a f) (hb : DE X T W (.BoolOp .Or (b :: rest) pos) g) : DE X T W (.BoolOp .Or (a :: b :: rest) pos) (eOrT f g) := by
  refine PE.imp (pe_orT ha hb) ?_
  rintro σ H Q ⟨I, m, cs, env, er, sr, h⟩
  refine ⟨I, m, cs, env, er, sr, OutG.bindI h fun x cs1 v H1 I1 m1 s1 p1 sr1 r1 h1 => ?_⟩
  cases e1 : truD cs1 x with
  | none => simp only [e1] at h1; exact h1.elim
  | some b =>
    simp only [e1] at h1
    refine ⟨b, truD_ok sr1 r1 e1, ?_⟩
    cases b with
    | false => exact ⟨I1, m1, cs1, env, er.mono s1 p1, sr1, h1⟩
    | true => exact h1.okI sr1 r1
def dIf (p : Den Bool) (f g : Den D) : Den D := fun env cs => (p env cs).bind fun b cs => if b = true then f env cs else g env cs
theorem de_if (hc : DT X T W c p) (ha : DE X T W a f) (hb : DE X T W b g) : DE X T W (.IfExp c a b pos) (dIf p f g) := by
  refine PE.imp (pe_ifExp hc ha hb) ?_
  rintro σ H Q ⟨I, m, cs, env, er, sr, h⟩
  refine ⟨I, m, cs, env, er, sr, OutG.bindI h fun x cs1 v H1 I1 m1 s1 p1 sr1 r1 h1 => ?_⟩
  have e : x = v := r1
  subst e
  split at h1
  · rename_i hx
    rw [if_pos hx]
    exact ⟨I1, m1, cs1, env, er.mono s1 p1, sr1, h1⟩
  · rename_i hx
    rw [if_neg hx]
    exact ⟨I1, m1, cs1, env, er.mono s1 p1, sr1, h1⟩

/-! ### lists of expressions, displays -/
def dNil : Den (List D) := fun _ cs => .ok [] cs
def dCons (f : Den D) (g : Den (List D)) : Den (List D) := fun env cs => (f env cs).bind fun x cs => (g env cs).bind fun xs cs => .ok (x :: xs) cs
theorem da_nil : DA X T W [] dNil := PA.imp pa_nil fun σ H Q ⟨I, m, cs, env, er, sr, h⟩ => OutG.okI h sr RpL.nil
theorem da_cons {g : Den (List D)} (ha : DE X T W e f) (hb : DA X T W es g) (hs : starEach (e :: es) X.env = (false, eval e X.env) :: starEach es X.env := by rfl) : DA X T W (e :: es) (dCons f g) := by
  refine PA.imp (pa_cons ha hb hs) ?_
  rintro σ H Q ⟨I, m, cs, env, er, sr, h⟩
  refine ⟨I, m, cs, env, er, sr, OutG.bindI h fun x cs1 v H1 I1 m1 s1 p1 sr1 r1 h1 => ?_⟩
  refine ⟨I1, m1, cs1, env, er.mono s1 p1, sr1, OutG.bindI h1 fun y cs2 u H2 I2 m2 s2 p2 sr2 r2 h2 => ?_⟩
  exact h2.okI sr2 (RpL.cons (r1.mono s2 p2) r2)
def dTup (f : Den (List D)) : Den D := fun env cs => (f env cs).bind fun xs cs => if fits xs.length then .ok (.tup xs) cs else .no
/-- a list that is not changed any more -/
def dLst (f : Den (List D)) : Den D := fun env cs => (f env cs).bind fun xs cs => if fits xs.length then .ok (.lst xs) cs else .no
/-- a list that may be changed: a new cell -/
def dLstC (f : Den (List D)) : Den D := fun env cs => (f env cs).bind fun xs cs => if fits xs.length then .ok (.cell cs.length) (cs ++ [.lst xs]) else .no
theorem de_tup {g : Den (List D)} {j} (h : DA X T W es g) : DE X T W (.Tuple es j pos) (dTup g) := by
  refine PE.imp (pe_tup h) ?_
  rintro σ H Q ⟨I, m, cs, env, er, sr, h⟩
  refine ⟨I, m, cs, env, er, sr, OutG.bindI h fun x cs1 v H1 I1 m1 s1 p1 sr1 r1 h1 => ?_⟩
  split at h1
  · rename_i hz
    exact ⟨by rw [← RpL.length r1]; exact hz, fun p hp => rp_newT sr1 hp r1 h1⟩
  · exact h1.elim
theorem de_lst {g : Den (List D)} (h : DA X T W es g) : DE X T W (.List es pos) (dLst g) := by
  refine PE.imp (pe_lst h) ?_
  rintro σ H Q ⟨I, m, cs, env, er, sr, h⟩
  refine ⟨I, m, cs, env, er, sr, OutG.bindI h fun x cs1 v H1 I1 m1 s1 p1 sr1 r1 h1 => ?_⟩
  split at h1
  · rename_i hz
    exact ⟨by rw [← RpL.length r1]; exact hz, fun p hp => rp_newL sr1 hp r1 h1⟩
  · exact h1.elim
theorem rp_newC {K : PySem.W.Frag} {I H : Hp} {m : List Addr} {cs : List Cell} {c : Cell} {o : HO} {p : Addr} {Q : VK} {E : XK} (sr : SR T K I m cs H) (hp : H p = none) (r : CellR T K I m c o) (h : OutG T K (RD T K) I m (.ok (.cell cs.length) (cs ++ [c])) Q E) : Q (.ref p) (upd H p o) := by
  have s1 := sr.newC hp r
  exact h (.ref p) _ I (m ++ [p]) (Same.refl I) (List.prefix_append _ _) s1 (rp_cell.mpr ⟨p, by rw [← sr.len]; simp, rfl⟩)
theorem de_lstC {g : Den (List D)} (h : DA X T W es g) : DE X T W (.List es pos) (dLstC g) := by
  refine PE.imp (pe_lst h) ?_
  rintro σ H Q ⟨I, m, cs, env, er, sr, h⟩
  refine ⟨I, m, cs, env, er, sr, OutG.bindI h fun x cs1 v H1 I1 m1 s1 p1 sr1 r1 h1 => ?_⟩
  split at h1
  · rename_i hz
    exact ⟨by rw [← RpL.length r1]; exact hz, fun p hp => rp_newC (c := .lst x) sr1 hp r1 h1⟩
  · exact h1.elim
def dDicC : Den D := fun _ cs => .ok (.cell cs.length) (cs ++ [.dic [] []])
theorem de_dicC : DE X T W (.Dict [] [] pos) dDicC := by
  refine PE.imp pe_dnewK ?_
  rintro σ H Q ⟨I, m, cs, env, er, sr, h⟩
  exact fun p hp => rp_newC (c := .dic [] []) sr hp ⟨rfl, RpL.nil⟩ h
end
end
end DL
end

section
set_option Elab.async false
set_option linter.all false
set_option maxRecDepth 100000
set_option maxHeartbeats 4000000
namespace DL
open PySem L2
open Classical
noncomputable section
section
variable {X : Cx} {T : Tab} {W : WX} {a b c e o : Expr} {es rest : List Expr} {pos : Pos} {f g k : Den D} {p q r : Den Bool} {n : Nat}

/-! ### attributes -/
def atK (k : Nat) : List Nat → List D → Option D
  | k' :: ks, d :: ds => if k = k' then some d else atK k ks ds
  | _, _ => none
/-- what the table asks of the text's classes -/
def TabOk (K : PySem.W.Frag) (T : Tab) : Prop := ∀ c k, k ∈ T.od c → Cls K (T.ca c) ∧ NoAttr K (T.ca c) (T.nm k)
theorem atK_ok {K : PySem.W.Frag} {I : Hp} {m : List Addr} {k : Nat} (inj : ∀ i j, T.nm i = T.nm j → i = j) : ∀ {ks : List Nat} {ds : List D} {gs : List (Str × V)} {d : D}, gs.map (·.1) = ks.map T.nm → RpL T K I m ds (gs.map (·.2)) → atK k ks ds = some d →
    k ∈ ks ∧ ∃ v, gs.lookup (T.nm k) = some v ∧ Rp T K I m d v
  | [], _, _, _, _, _, h => by cases h
  | k' :: ks, [], gs, d, e, r, h => by cases h
  | k' :: ks, x :: ds, [], d, e, r, h => by simp at e
  | k' :: ks, x :: ds, (n, v) :: gs, d, e, r, h => by
    simp only [List.map_cons, List.cons.injEq] at e
    obtain ⟨v', r', e', q, r2⟩ := r.inv
    simp only [List.map_cons, List.cons.injEq] at e'
    obtain ⟨rfl, rfl⟩ := e'
    unfold atK at h
    split at h
    · rename_i hk
      subst hk
      cases h
      refine ⟨List.mem_cons_self, v, ?_, q⟩
      rw [e.1]
      simp [List.lookup]
    · rename_i hk
      obtain ⟨m1, w, h1, h2⟩ := atK_ok inj e.2 r2 h
      refine ⟨List.mem_cons_of_mem _ m1, w, ?_, h2⟩
      have hne : (T.nm k == n) = false := by
        rw [e.1]
        exact beq_eq_false_iff_ne.mpr fun z => hk (inj _ _ z)
      simp only [List.lookup, hne]
      exact h1
def getD (od : Nat → List Nat) (k : Nat) (x : D) (cs : List Cell) : Out D := match x with
  | .obj c ds => match atK k (od c) ds with
    | some d => .ok d cs
    | none => .no
  | .cell n => match cs[n]? with
    | some (.ins c ks ds) => if k ∈ od c then (match atK k ks ds with
      | some d => .ok d cs
      | none => .no) else .no
    | _ => .no
  | _ => .no
theorem de_get (TK : TabOk X.K T) (inj : ∀ i j, T.nm i = T.nm j → i = j) {od : Nat → List Nat} (hod : T.od = od) {k : Nat} {fn : Str} (hf : T.nm k = fn) (ha : DE X T W e f) (hb : attributeBase e fn X.env (eval e X.env) = eval e X.env := by rfl) : DE X T W (.Attribute e fn pos) (d1 f (getD od k)) := by
  subst hf hod
  refine PE.imp (pe_fld ha hb) ?_
  rintro σ H Q ⟨I, m, cs, env, er, sr, h⟩
  refine ⟨I, m, cs, env, er, sr, OutG.bindI h fun x cs1 v H1 I1 m1 s1 p1 sr1 r1 h1 => ?_⟩
  cases x with
  | obj c ds =>
    unfold getD at h1
    simp only at h1
    unfold Rp at r1
    obtain ⟨a, dx, gs, rfl, q1, q2, q3⟩ := r1
    cases hk : atK k (T.od c) ds with
    | none => simp only [hk] at h1; exact h1.elim
    | some d =>
      simp only [hk] at h1
      obtain ⟨mk, w, h2, h3⟩ := atK_ok inj q2 q3 hk
      obtain ⟨c1, c2⟩ := TK c k mk
      exact ⟨a, T.ca c, dx, gs, w, rfl, sr1.same _ _ q1, c1, c2, h2, h1.okI sr1 h3⟩
  | cell n =>
    unfold getD at h1
    simp only at h1
    obtain ⟨a, e1, rfl⟩ := rp_cell.mp r1
    cases hc : cs1[n]? with
    | none => simp only [hc] at h1; exact h1.elim
    | some cc =>
      cases cc with
      | ins c ks ds =>
        simp only [hc] at h1
        split at h1
        · rename_i mk
          obtain ⟨a', ob, q1, q2, q3, q4⟩ := sr1.at_ n _ hc (by intro z; cases z)
          rw [e1] at q1; cases q1
          cases ob with
          | ins C dx gs =>
            obtain ⟨rfl, q5, q6⟩ := q4
            cases hk : atK k ks ds with
            | none => simp only [hk] at h1; exact h1.elim
            | some d =>
              simp only [hk] at h1
              obtain ⟨_, w, h2, h3⟩ := atK_ok inj q5 q6 hk
              obtain ⟨c1, c2⟩ := TK c k mk
              exact ⟨a, T.ca c, dx, gs, w, rfl, q3, c1, c2, h2, h1.okI sr1 h3⟩
          | _ => exact q4.elim
        · exact h1.elim
      | _ => simp only [hc] at h1; exact h1.elim
  | _ => exact h1.elim

/-! ### items -/
def ixD (x y : D) (cs : List Cell) : Out D := match asI y with
  | some i => match x with
    | .str z => match atI z.cps.toList i with
      | some c => if fits z.length then .ok (.str ⟨#[c]⟩) cs else .no
      | none => .no
    | x => match itemsS cs x with
      | some xs => match atI xs i with
        | some d => .ok d cs
        | none => .no
      | none => .no
  | none => .no
theorem RpL.atI {K : PySem.W.Frag} {I : Hp} {m : List Addr} {ds : List D} {vs : List V} {i : Int} {d : D} (r : RpL T K I m ds vs) (h : L2.atI ds i = some d) : ∃ v, L2.atI vs i = some v ∧ Rp T K I m d v := by
  unfold L2.atI at h ⊢
  rw [← r.length]
  cases hx : ixN ds.length i with
  | none => rw [hx] at h; cases h
  | some j =>
    rw [hx] at h
    exact r.get h
theorem de_ix (ha : DE X T W a f) (hb : DE X T W b g) (hs : PlainIx b := by intro _ _; rfl) : DE X T W (.Subscript a b pos) (d2 f g ixD) := by
  refine PE.imp (pe_ix ix_seq ha hb hs) (tOp_of (fun I m cs H x y v u Q E sr rx ry h => ?_) rfl rfl)
  unfold ixD at h
  cases hy : asI y with
  | none => simp only [hy] at h; exact h.elim
  | some i =>
    have e := asI_ok hy; subst e
    have eu := rp_int.mp ry
    subst eu
    simp only [hy] at h
    by_cases hz : ∃ z, x = .str z
    · obtain ⟨z, rfl⟩ := hz
      simp only at h
      cases ha : atI z.cps.toList i with
      | none => simp only [ha] at h; exact h.elim
      | some c =>
        simp only [ha] at h
        split at h
        · rename_i hl
          exact .inr (.inr ⟨z, i, c, rp_str.mp rx, rfl, hl, ha, h.okI sr (rp_str.mpr rfl)⟩)
        · exact h.elim
    · have h' : OutG T X.K (RD T X.K) I m (match itemsS cs x with
          | some xs => match atI xs i with
            | some d => .ok d cs
            | none => .no
          | none => .no) Q E := by
        cases x <;> first | exact h | exact absurd ⟨_, rfl⟩ hz
      cases hi : itemsS cs x with
      | none => simp only [hi] at h'; exact h'.elim
      | some xs =>
        simp only [hi] at h'
        obtain ⟨p, vs, rfl, q1, q2⟩ := itemsS_ok sr rx hi
        cases ha : atI xs i with
        | none => simp only [ha] at h'; exact h'.elim
        | some d =>
          simp only [ha] at h'
          obtain ⟨w, h2, h3⟩ := q2.atI ha
          rcases q1 with q1 | q1
          · exact .inl ⟨p, vs, i, w, rfl, rfl, q1.l, h2, h'.okI sr h3⟩
          · exact .inr (.inl ⟨p, vs, i, w, rfl, rfl, q1, h2, h'.okI sr h3⟩)
/-! ### slices -/
def cutL {α : Type} (xs : List α) (lo hi : Option Int) : List α := (xs.drop (HT.sIx xs.length 0 lo)).take (HT.sIx xs.length xs.length hi - HT.sIx xs.length 0 lo)
theorem RpL.cutL {K : PySem.W.Frag} {I : Hp} {m : List Addr} {ds : List D} {vs : List V} (r : RpL T K I m ds vs) (lo hi : Option Int) : RpL T K I m (DL.cutL ds lo hi) (cutV vs lo hi) := by
  unfold DL.cutL cutV
  rw [← r.length]
  exact (r.drop).take
/-- the parts of a slice: none, or an int -/
abbrev DenO := Env → List Cell → Out (Option Int)
def oNone : DenO := fun _ cs => .ok none cs
def oSome (f : Den D) : DenO := fun env cs => (f env cs).bind fun x cs => match asI x with
  | some i => .ok (some i) cs
  | none => .no
def DO (X : Cx) (T : Tab) (W : WX) (e : Option Expr) (f : DenO) : Prop := PO X e (tG T X.K W (fun _ _ x y => x = y) f)
theorem PO.imp {e : Option Expr} {t t' : TO} (h : PO X e t) (i : ∀ σ H Q, t' σ H Q → t σ H Q) : PO X e t' := ⟨fun pins s σ H Q I q => h.run pins s σ H Q I (i σ H Q q)⟩
theorem do_none : DO X T W none oNone := PO.imp po_none fun σ H Q ⟨I, m, cs, env, er, sr, h⟩ => OutG.okI h sr rfl
theorem do_some (h : DE X T W e f) : DO X T W (some e) (oSome f) := by
  refine PO.imp (po_some h) ?_
  rintro σ H Q ⟨I, m, cs, env, er, sr, h⟩
  refine ⟨I, m, cs, env, er, sr, OutG.bindI h fun x cs1 v H1 I1 m1 s1 p1 sr1 r1 h1 => ?_⟩
  cases hx : asI x with
  | none => simp only [hx] at h1; exact h1.elim
  | some i =>
    have e := asI_ok hx; subst e
    simp only [hx] at h1
    exact ⟨i, rp_int.mp r1, h1.okI sr1 rfl⟩
def sliceD (x : D) (lo hi : Option Int) (cs : List Cell) : Out D := match x with
  | .str z => if fits z.length then .ok (.str (cutS z lo hi)) cs else .no
  | .tup xs => .ok (.tup (cutL xs lo hi)) cs
  | x => match itemsL cs x with
    | some xs => .ok (.lst (cutL xs lo hi)) cs
    | none => .no
def dSl (f : Den D) (l h : DenO) : Den D := fun env cs => (f env cs).bind fun x cs => (l env cs).bind fun lo cs => (h env cs).bind fun hi cs => sliceD x lo hi cs
theorem cutL_whole {α : Type} {xs : List α} {lo hi : Option Int} (h : HT.sIx xs.length 0 lo = 0 ∧ HT.sIx xs.length xs.length hi = xs.length) : cutL xs lo hi = xs := by
  unfold cutL
  rw [h.1, h.2]
  simp
theorem de_slice {lo hi : Option Expr} {l h : DenO} {p2 : Pos} (ha : DE X T W e f) (hl : DO X T W lo l) (hh : DO X T W hi h) : DE X T W (.Subscript e (.Slice lo hi none p2) pos) (dSl f l h) := by
  refine PE.imp (pe_slice (sl_str.or (sl_tupA.or sl_list)) ha hl hh) ?_
  rintro σ H Q ⟨I, m, cs, env, er, sr, h⟩
  refine ⟨I, m, cs, env, er, sr, OutG.bindI h fun x cs1 v H1 I1 m1 s1 p1 sr1 r1 h1 => ?_⟩
  refine ⟨I1, m1, cs1, env, er.mono s1 p1, sr1, OutG.bindI h1 fun lo' cs2 lo2 H2 I2 m2 s2 p2 sr2 r2 h2 => ?_⟩
  have e2 : lo' = lo2 := r2
  subst e2
  refine ⟨I2, m2, cs2, env, (er.mono s1 p1).mono s2 p2, sr2, OutG.bindI h2 fun hi' cs3 hi2 H3 I3 m3 s3 p3 sr3 r3 h3 => ?_⟩
  have e3 : hi' = hi2 := r3
  subst e3
  have rx := (r1.mono s2 p2).mono s3 p3
  by_cases hz : ∃ z, x = .str z
  · obtain ⟨z, rfl⟩ := hz
    unfold sliceD at h3
    simp only at h3
    split at h3
    · rename_i hl
      exact .inl ⟨z, rp_str.mp rx, hl, h3.okI sr3 (rp_str.mpr rfl)⟩
    · exact h3.elim
  · by_cases ht : ∃ z, x = .tup z
    · obtain ⟨xs, rfl⟩ := ht
      unfold sliceD at h3
      simp only at h3
      obtain ⟨p, vs, rfl, q1, q2⟩ := rp_tup.mp rx
      refine .inr (.inl ⟨p, vs, rfl, SqT.same sr3.same q1, fun hw => ?_, fun _ p hp => rp_newT sr3 hp (q2.cutL _ _) h3⟩)
      have hw' : HT.sIx xs.length 0 lo' = 0 ∧ HT.sIx xs.length xs.length hi' = xs.length := by rw [q2.length]; exact hw
      rw [cutL_whole hw'] at h3
      exact h3.okI sr3 rx
    · have h' : OutG T X.K (RD T X.K) I3 m3 (match itemsL cs3 x with
          | some xs => .ok (.lst (cutL xs lo' hi')) cs3
          | none => .no) Q (fun cls od H' => W cls od σ H') := by
        cases x <;> first | exact h3 | exact absurd ⟨_, rfl⟩ hz | exact absurd ⟨_, rfl⟩ ht
      cases hi : itemsL cs3 x with
      | none => simp only [hi] at h'; exact h'.elim
      | some xs =>
        simp only [hi] at h'
        obtain ⟨p, vs, rfl, q1, q2⟩ := itemsL_ok sr3 rx hi
        exact .inr (.inr ⟨p, vs, rfl, q1.l, fun p hp => rp_newL sr3 hp (q2.cutL _ _) h'⟩)
/-- xs[::-1] of a list -/
def revD (x : D) (cs : List Cell) : Out D := match itemsL cs x with
  | some xs => .ok (.lst xs.reverse) cs
  | none => .no
theorem de_rev {k : Nat} {p1 p2 p3 : Pos} (ha : DE X T W e f) : DE X T W (.Subscript e (.Slice none none (some (.UnaryOp .USub (.Constant (.int 1) k p1) p2)) p3) pos) (d1 f revD) := by
  refine PE.imp (pe_revL ha) ?_
  rintro σ H Q ⟨I, m, cs, env, er, sr, h⟩
  refine ⟨I, m, cs, env, er, sr, OutG.bindI h fun x cs1 v H1 I1 m1 s1 p1 sr1 r1 h1 => ?_⟩
  unfold revD at h1
  cases hi : itemsL cs1 x with
  | none => simp only [hi] at h1; exact h1.elim
  | some xs =>
    simp only [hi] at h1
    obtain ⟨p, vs, rfl, q1, q2⟩ := itemsL_ok sr1 r1 hi
    exact ⟨p, vs, rfl, q1.l, fun p hp => rp_newL sr1 hp q2.reverse h1⟩

/-! ### built-ins by their name, methods of built-in types -/
/-- what a call of a built-in promises on data -/
abbrev HkC (T : Tab) (K : PySem.W.Frag) (r : List V → Hp → VK → Prop) (k : List D → List Cell → Out D) : Prop :=
  ∀ (I : Hp) (m : List Addr) (cs : List Cell) (H : Hp) (xs : List D) (vs : List V) (Q : VK) (E : XK), SR T K I m cs H → RpL T K I m xs vs → OutG T K (RD T K) I m (k xs cs) Q E → r vs H Q
def dCall (g : Den (List D)) (k : List D → List Cell → Out D) : Den D := fun env cs => (g env cs).bind fun xs cs => k xs cs
theorem tCB_of {g : Den (List D)} {k : List D → List Cell → Out D} {r : List V → Hp → VK → Prop} (hk : HkC T X.K r k) {ta : TA} (e : ta = tG T X.K W (RL T X.K) g) : ∀ σ H Q, tG T X.K W (RD T X.K) (dCall g k) σ H Q → tCB r ta σ H Q := by
  subst e
  rintro σ H Q ⟨I, m, cs, env, er, sr, h⟩
  refine ⟨I, m, cs, env, er, sr, OutG.bindI h fun x cs1 v H1 I1 m1 s1 p1 sr1 r1 h1 => ?_⟩
  exact hk I1 m1 cs1 H1 x v Q _ sr1 r1 h1
theorem de_callB {x : Str} {id : String} {r : List V → Hp → VK → Prop} {p : Pos} {g : Den (List D)} {k : List D → List Cell → Out D} (hc : CallR X (.builtin id) r) (hk : HkC T X.K r k) (hm : X.mg x = none) (ha : DA X T W (e :: es) g)
    (hg : Gl X x := by rfl) (hv : bootBuiltins x = some (.builtin id) := by decide +kernel) (hn : x ≠ "__name__" := by decide) (hdb : (x == ("__debug__" : Str)) = false := by decide)
    (he : starEach (e :: es) X.env = (false, eval e X.env) :: starEach es X.env := by rfl) (hpl : (backTo pos (starEach es X.env)).any (·.1) = false := by rfl) : DE X T W (.Call (.Name x p) (e :: es) [] pos) (dCall g k) :=
  PE.imp (pe_callB hc hg hm hv ha hn hdb he hpl) (tCB_of hk rfl)
theorem de_callTy {x : Str} {id : String} {r : List V → Hp → VK → Prop} {p : Pos} {g : Den (List D)} {k : List D → List Cell → Out D} (hc : CallR X (.type id) r) (hk : HkC T X.K r k) (hm : X.mg x = none) (ha : DA X T W (e :: es) g)
    (hg : Gl X x := by rfl) (hv : bootBuiltins x = some (.type id) := by decide +kernel) (hn : x ≠ "__name__" := by decide) (hdb : (x == ("__debug__" : Str)) = false := by decide)
    (he : starEach (e :: es) X.env = (false, eval e X.env) :: starEach es X.env := by rfl) (hpl : (backTo pos (starEach es X.env)).any (·.1) = false := by rfl) : DE X T W (.Call (.Name x p) (e :: es) [] pos) (dCall g k) :=
  PE.imp (pe_callTy hc hg hm hv ha hn hdb he hpl) (tCB_of hk rfl)
theorem RpL.i1 {K : PySem.W.Frag} {I : Hp} {m : List Addr} {x : D} {vs : List V} (h : RpL T K I m [x] vs) : ∃ v, vs = [v] ∧ Rp T K I m x v := by
  obtain ⟨v, r, rfl, q, h'⟩ := h.inv
  have e := h'.inil
  subst e
  exact ⟨v, rfl, q⟩
theorem RpL.i2 {K : PySem.W.Frag} {I : Hp} {m : List Addr} {x y : D} {vs : List V} (h : RpL T K I m [x, y] vs) : ∃ v u, vs = [v, u] ∧ Rp T K I m x v ∧ Rp T K I m y u := by
  obtain ⟨v, r, rfl, q, h'⟩ := h.inv
  obtain ⟨u, rfl, q'⟩ := h'.i1
  exact ⟨v, u, rfl, q, q'⟩
/-- len -/
def lenD1 (x : D) (cs : List Cell) : Out D := match x with
  | .str z => if fits z.length then .ok (.int z.length) cs else .no
  | x => match itemsS cs x with
    | some ys => .ok (.int ys.length) cs
    | none => .no
def lenD (xs : List D) (cs : List Cell) : Out D := match xs with
  | [x] => lenD1 x cs
  | _ => .no
theorem hk_len {K : PySem.W.Frag} : HkC T K (fun xs H Q => (∃ p ys, xs = [.ref p] ∧ (SqL K H p ys ∨ SqT K H p ys) ∧ Q (.int ys.length) H) ∨ ∃ z, xs = [.str z] ∧ z.length ≤ sizeLine ∧ Q (.int z.length) H) lenD := by
  intro I m cs H xs vs Q E sr rx h
  match xs, rx, h with
  | [], _, h => exact h.elim
  | _ :: _ :: _, _, h => exact (by unfold lenD at h; exact h.elim)
  | [x], rx, h =>
    obtain ⟨v, rfl, r⟩ := rx.i1
    by_cases hz : ∃ z, x = .str z
    · obtain ⟨z, rfl⟩ := hz
      unfold lenD lenD1 at h
      simp only at h
      split at h
      · rename_i hl
        exact .inr ⟨z, by rw [rp_str.mp r], hl, h.okI sr (rp_int.mpr rfl)⟩
      · exact h.elim
    · have h' : OutG T K (RD T K) I m (match itemsS cs x with
          | some ys => .ok (.int ys.length) cs
          | none => .no) Q E := by
        cases x <;> first | exact h | exact absurd ⟨_, rfl⟩ hz
      cases hi : itemsS cs x with
      | none => simp only [hi] at h'; exact h'.elim
      | some ys =>
        simp only [hi] at h'
        obtain ⟨p, vs, rfl, q1, q2⟩ := itemsS_ok sr r hi
        refine .inl ⟨p, vs, rfl, q1.imp SqX.l id, ?_⟩
        rw [q2.length] at h'
        exact h'.okI sr (rp_int.mpr rfl)
theorem de_len {p : Pos} {g : Den (List D)} (hm : X.mg "len" = none) (ha : DA X T W [e] g) (hg : Gl X "len" := by rfl) (he : starEach [e] X.env = (false, eval e X.env) :: starEach [] X.env := by rfl) : DE X T W (.Call (.Name "len" p) [e] [] pos) (dCall g lenD) :=
  de_callB (call_len_seq.or call_len_str) hk_len hm ha (hg := hg) (he := he) (hpl := rfl)
/-- tuple(xs) -/
def tupleD (xs : List D) (cs : List Cell) : Out D := match xs with
  | [x] => match itemsS cs x with
    | some ys => .ok (.tup ys) cs
    | none => .no
  | _ => .no
theorem hk_tuple {K : PySem.W.Frag} : HkC T K (fun xs H Q => ∃ p ys, xs = [.ref p] ∧ ((SqL K H p ys ∧ ∀ l, H l = none → Q (.ref l) (upd H l (.tup ys))) ∨ (SqT K H p ys ∧ Q (.ref p) H))) tupleD := by
  intro I m cs H xs vs Q E sr rx h
  match xs, rx, h with
  | [], _, h => exact h.elim
  | _ :: _ :: _, _, h => exact (by unfold tupleD at h; exact h.elim)
  | [x], rx, h =>
    obtain ⟨v, rfl, r⟩ := rx.i1
    unfold tupleD at h
    simp only at h
    by_cases ht : ∃ z, x = .tup z
    · obtain ⟨ys, rfl⟩ := ht
      obtain ⟨p, vs, rfl, q1, q2⟩ := rp_tup.mp r
      exact ⟨p, vs, rfl, .inr ⟨SqT.same sr.same q1, h.okI sr r⟩⟩
    · have hS : itemsS cs x = itemsL cs x := by cases x <;> first | rfl | exact absurd ⟨_, rfl⟩ ht
      rw [hS] at h
      cases hi : itemsL cs x with
      | none => simp only [hi] at h; exact h.elim
      | some ys =>
        simp only [hi] at h
        obtain ⟨p, vs, rfl, q1, q2⟩ := itemsL_ok sr r hi
        exact ⟨p, vs, rfl, .inl ⟨q1.l, fun l hl => rp_newT sr hl q2 h⟩⟩
theorem de_tuple {p : Pos} {g : Den (List D)} (hm : X.mg "tuple" = none) (ha : DA X T W [e] g) (hg : Gl X "tuple" := by rfl) (he : starEach [e] X.env = (false, eval e X.env) :: starEach [] X.env := by rfl) : DE X T W (.Call (.Name "tuple" p) [e] [] pos) (dCall g tupleD) :=
  de_callTy call_tuple_of hk_tuple hm ha (hg := hg) (he := he) (hpl := rfl)
/-- list(xs): frozen, or a cell -/
def listD (xs : List D) (cs : List Cell) : Out D := match xs with
  | [x] => match itemsS cs x with
    | some ys => .ok (.lst ys) cs
    | none => .no
  | _ => .no
def listC (xs : List D) (cs : List Cell) : Out D := match xs with
  | [x] => match itemsS cs x with
    | some ys => .ok (.cell cs.length) (cs ++ [.lst ys])
    | none => .no
  | _ => .no
theorem hk_list {K : PySem.W.Frag} : HkC T K (fun xs H Q => ∃ p ys, xs = [.ref p] ∧ (SqL K H p ys ∨ SqT K H p ys) ∧ ∀ l, H l = none → Q (.ref l) (upd H l (.lst ys))) listD := by
  intro I m cs H xs vs Q E sr rx h
  match xs, rx, h with
  | [], _, h => exact h.elim
  | _ :: _ :: _, _, h => exact (by unfold listD at h; exact h.elim)
  | [x], rx, h =>
    obtain ⟨v, rfl, r⟩ := rx.i1
    unfold listD at h
    simp only at h
    cases hi : itemsS cs x with
    | none => simp only [hi] at h; exact h.elim
    | some ys =>
      simp only [hi] at h
      obtain ⟨p, vs, rfl, q1, q2⟩ := itemsS_ok sr r hi
      exact ⟨p, vs, rfl, q1.imp SqX.l id, fun l hl => rp_newL sr hl q2 h⟩
theorem hk_listC {K : PySem.W.Frag} : HkC T K (fun xs H Q => ∃ p ys, xs = [.ref p] ∧ (SqL K H p ys ∨ SqT K H p ys) ∧ ∀ l, H l = none → Q (.ref l) (upd H l (.lst ys))) listC := by
  intro I m cs H xs vs Q E sr rx h
  match xs, rx, h with
  | [], _, h => exact h.elim
  | _ :: _ :: _, _, h => exact (by unfold listC at h; exact h.elim)
  | [x], rx, h =>
    obtain ⟨v, rfl, r⟩ := rx.i1
    unfold listC at h
    simp only at h
    cases hi : itemsS cs x with
    | none => simp only [hi] at h; exact h.elim
    | some ys =>
      simp only [hi] at h
      obtain ⟨p, vs, rfl, q1, q2⟩ := itemsS_ok sr r hi
      exact ⟨p, vs, rfl, q1.imp SqX.l id, fun l hl => rp_newC (c := .lst ys) sr hl q2 h⟩
theorem de_list {p : Pos} {g : Den (List D)} (hm : X.mg "list" = none) (ha : DA X T W [e] g) (hg : Gl X "list" := by rfl) (he : starEach [e] X.env = (false, eval e X.env) :: starEach [] X.env := by rfl) : DE X T W (.Call (.Name "list" p) [e] [] pos) (dCall g listD) :=
  de_callTy call_list_of hk_list hm ha (hg := hg) (he := he) (hpl := rfl)
theorem de_listC {p : Pos} {g : Den (List D)} (hm : X.mg "list" = none) (ha : DA X T W [e] g) (hg : Gl X "list" := by rfl) (he : starEach [e] X.env = (false, eval e X.env) :: starEach [] X.env := by rfl) : DE X T W (.Call (.Name "list" p) [e] [] pos) (dCall g listC) :=
  de_callTy call_list_of hk_listC hm ha (hg := hg) (he := he) (hpl := rfl)
/-- abs, int -/
def absD (xs : List D) (cs : List Cell) : Out D := match xs with
  | [.int i] => .ok (.int (if i < 0 then -i else i)) cs
  | _ => .no
theorem hk_abs {K : PySem.W.Frag} : HkC T K (fun xs H Q => ∃ i, xs = [.int i] ∧ Q (.int (if i < 0 then -i else i)) H) absD := by
  intro I m cs H xs vs Q E sr rx h
  unfold absD at h
  split at h
  · obtain ⟨v, rfl, r⟩ := rx.i1
    exact ⟨_, by rw [rp_int.mp r], h.okI sr (rp_int.mpr rfl)⟩
  · exact h.elim
theorem de_abs {p : Pos} {g : Den (List D)} (hm : X.mg "abs" = none) (ha : DA X T W [e] g) (hg : Gl X "abs" := by rfl) (he : starEach [e] X.env = (false, eval e X.env) :: starEach [] X.env := by rfl) : DE X T W (.Call (.Name "abs" p) [e] [] pos) (dCall g absD) :=
  de_callB call_abs hk_abs hm ha (hg := hg) (he := he) (hpl := rfl)
def intD (xs : List D) (cs : List Cell) : Out D := match xs with
  | [.int i] => .ok (.int i) cs
  | [.bl k] => .ok (.int (if k then 1 else 0)) cs
  | _ => .no
theorem hk_int {K : PySem.W.Frag} : HkC T K (fun xs H Q => (∃ i, xs = [.int i] ∧ Q (.int i) H) ∨ ∃ k, xs = [.bl k] ∧ Q (.int (if k then 1 else 0)) H) intD := by
  intro I m cs H xs vs Q E sr rx h
  unfold intD at h
  split at h
  · obtain ⟨v, rfl, r⟩ := rx.i1
    exact .inl ⟨_, by rw [rp_int.mp r], h.okI sr (rp_int.mpr rfl)⟩
  · obtain ⟨v, rfl, r⟩ := rx.i1
    exact .inr ⟨_, by rw [rp_bl.mp r], h.okI sr (rp_int.mpr rfl)⟩
  · exact h.elim
theorem de_toint {p : Pos} {g : Den (List D)} (hm : X.mg "int" = none) (ha : DA X T W [e] g) (hg : Gl X "int" := by rfl) (he : starEach [e] X.env = (false, eval e X.env) :: starEach [] X.env := by rfl) : DE X T W (.Call (.Name "int" p) [e] [] pos) (dCall g intD) :=
  de_callTy call_int1 hk_int hm ha (hg := hg) (he := he) (hpl := rfl)
/-- max(i, j), min(i, j) -/
def max2D (xs : List D) (cs : List Cell) : Out D := match xs with
  | [.int i, .int j] => .ok (.int (if j > i then j else i)) cs
  | _ => .no
def min2D (xs : List D) (cs : List Cell) : Out D := match xs with
  | [.int i, .int j] => .ok (.int (if j < i then j else i)) cs
  | _ => .no
theorem hk_max2 {K : PySem.W.Frag} : HkC T K (fun xs H Q => ∃ i j, xs = [.int i, .int j] ∧ Q (.int (if j > i then j else i)) H) max2D := by
  intro I m cs H xs vs Q E sr rx h
  unfold max2D at h
  split at h
  · obtain ⟨v, u, rfl, r1, r2⟩ := rx.i2
    exact ⟨_, _, by rw [rp_int.mp r1, rp_int.mp r2], h.okI sr (rp_int.mpr rfl)⟩
  · exact h.elim
theorem hk_min2 {K : PySem.W.Frag} : HkC T K (fun xs H Q => ∃ i j, xs = [.int i, .int j] ∧ Q (.int (if j < i then j else i)) H) min2D := by
  intro I m cs H xs vs Q E sr rx h
  unfold min2D at h
  split at h
  · obtain ⟨v, u, rfl, r1, r2⟩ := rx.i2
    exact ⟨_, _, by rw [rp_int.mp r1, rp_int.mp r2], h.okI sr (rp_int.mpr rfl)⟩
  · exact h.elim
theorem de_max2 {p : Pos} {g : Den (List D)} (hc : X.calm = true) (hm : X.mg "max" = none) (ha : DA X T W [a, b] g) (hg : Gl X "max" := by rfl) (he : starEach [a, b] X.env = (false, eval a X.env) :: starEach [b] X.env := by rfl) (hpl : (backTo pos (starEach [b] X.env)).any (·.1) = false := by rfl) : DE X T W (.Call (.Name "max" p) [a, b] [] pos) (dCall g max2D) :=
  de_callB (call_max2 hc) hk_max2 hm ha (hg := hg) (he := he) (hpl := hpl)
theorem de_min2 {p : Pos} {g : Den (List D)} (hc : X.calm = true) (hm : X.mg "min" = none) (ha : DA X T W [a, b] g) (hg : Gl X "min" := by rfl) (he : starEach [a, b] X.env = (false, eval a X.env) :: starEach [b] X.env := by rfl) (hpl : (backTo pos (starEach [b] X.env)).any (·.1) = false := by rfl) : DE X T W (.Call (.Name "min" p) [a, b] [] pos) (dCall g min2D) :=
  de_callB (call_min2 hc) hk_min2 hm ha (hg := hg) (he := he) (hpl := hpl)
/-- all the items as ints, as truths -/
def intsD : List D → Option (List Int)
  | [] => some []
  | .int i :: r => (intsD r).map (i :: ·)
  | _ => none
def blsD : List D → Option (List Bool)
  | [] => some []
  | .bl i :: r => (blsD r).map (i :: ·)
  | _ => none
theorem intsD_ok {K : PySem.W.Frag} {I : Hp} {m : List Addr} : ∀ {ds : List D} {vs : List V} {ns : List Int}, RpL T K I m ds vs → intsD ds = some ns → vs = ns.map V.int
  | [], vs, ns, r, e => by have := r.inil; subst this; cases e; rfl
  | .int i :: ds, vs, ns, r, e => by
    obtain ⟨v, r', rfl, q, k⟩ := r.inv
    unfold intsD at e
    cases h : intsD ds with
    | none => rw [h] at e; cases e
    | some ms =>
      rw [h] at e
      cases e
      rw [intsD_ok k h, rp_int.mp q]; rfl
  | .non :: _, _, _, _, e => by cases e
  | .bl _ :: _, _, _, _, e => by cases e
  | .str _ :: _, _, _, _, e => by cases e
  | .tup _ :: _, _, _, _, e => by cases e
  | .lst _ :: _, _, _, _, e => by cases e
  | .obj _ _ :: _, _, _, _, e => by cases e
  | .dic _ _ :: _, _, _, _, e => by cases e
  | .cell _ :: _, _, _, _, e => by cases e
  | .exc _ _ _ :: _, _, _, _, e => by cases e
theorem blsD_ok {K : PySem.W.Frag} {I : Hp} {m : List Addr} : ∀ {ds : List D} {vs : List V} {ns : List Bool}, RpL T K I m ds vs → blsD ds = some ns → vs = ns.map V.bl
  | [], vs, ns, r, e => by have := r.inil; subst this; cases e; rfl
  | .bl i :: ds, vs, ns, r, e => by
    obtain ⟨v, r', rfl, q, k⟩ := r.inv
    unfold blsD at e
    cases h : blsD ds with
    | none => rw [h] at e; cases e
    | some ms =>
      rw [h] at e
      cases e
      rw [blsD_ok k h, rp_bl.mp q]; rfl
  | .non :: _, _, _, _, e => by cases e
  | .int _ :: _, _, _, _, e => by cases e
  | .str _ :: _, _, _, _, e => by cases e
  | .tup _ :: _, _, _, _, e => by cases e
  | .lst _ :: _, _, _, _, e => by cases e
  | .obj _ _ :: _, _, _, _, e => by cases e
  | .dic _ _ :: _, _, _, _, e => by cases e
  | .cell _ :: _, _, _, _, e => by cases e
  | .exc _ _ _ :: _, _, _, _, e => by cases e
def sumD (xs : List D) (cs : List Cell) : Out D := match xs with
  | [x] => match (itemsL cs x).bind intsD with
    | some ns => .ok (.int ns.sum) cs
    | none => .no
  | _ => .no
def allD (xs : List D) (cs : List Cell) : Out D := match xs with
  | [x] => match (itemsL cs x).bind blsD with
    | some ns => .ok (.bl (ns.all id)) cs
    | none => .no
  | _ => .no
def anyD (xs : List D) (cs : List Cell) : Out D := match xs with
  | [x] => match (itemsL cs x).bind blsD with
    | some ns => .ok (.bl (ns.any id)) cs
    | none => .no
  | _ => .no
theorem bind_some {α β : Type} {x : Option α} {f : α → Option β} {b : β} (h : x.bind f = some b) : ∃ a, x = some a ∧ f a = some b := by
  cases x with
  | none => cases h
  | some a => exact ⟨a, rfl, h⟩
theorem hk_sum {K : PySem.W.Frag} : HkC T K (rSum K) sumD := by
  intro I m cs H xs vs Q E sr rx h
  match xs, rx, h with
  | [], _, h => exact h.elim
  | _ :: _ :: _, _, h => exact (by unfold sumD at h; exact h.elim)
  | [x], rx, h =>
    obtain ⟨v, rfl, r⟩ := rx.i1
    unfold sumD at h
    simp only at h
    cases hi : (itemsL cs x).bind intsD with
    | none => simp only [hi] at h; exact h.elim
    | some ns =>
      simp only [hi] at h
      obtain ⟨ys, h1, h2⟩ := bind_some hi
      obtain ⟨p, vs, rfl, q1, q2⟩ := itemsL_ok sr r h1
      have e := intsD_ok q2 h2
      subst e
      exact ⟨p, ns, rfl, q1.l, h.okI sr (rp_int.mpr rfl)⟩
theorem hk_all {K : PySem.W.Frag} : HkC T K (rAll K) allD := by
  intro I m cs H xs vs Q E sr rx h
  match xs, rx, h with
  | [], _, h => exact h.elim
  | _ :: _ :: _, _, h => exact (by unfold allD at h; exact h.elim)
  | [x], rx, h =>
    obtain ⟨v, rfl, r⟩ := rx.i1
    unfold allD at h
    simp only at h
    cases hi : (itemsL cs x).bind blsD with
    | none => simp only [hi] at h; exact h.elim
    | some ns =>
      simp only [hi] at h
      obtain ⟨ys, h1, h2⟩ := bind_some hi
      obtain ⟨p, vs, rfl, q1, q2⟩ := itemsL_ok sr r h1
      have e := blsD_ok q2 h2
      subst e
      exact ⟨p, ns, rfl, q1.l, h.okI sr (rp_bl.mpr rfl)⟩
theorem hk_any {K : PySem.W.Frag} : HkC T K (rAny K) anyD := by
  intro I m cs H xs vs Q E sr rx h
  match xs, rx, h with
  | [], _, h => exact h.elim
  | _ :: _ :: _, _, h => exact (by unfold anyD at h; exact h.elim)
  | [x], rx, h =>
    obtain ⟨v, rfl, r⟩ := rx.i1
    unfold anyD at h
    simp only at h
    cases hi : (itemsL cs x).bind blsD with
    | none => simp only [hi] at h; exact h.elim
    | some ns =>
      simp only [hi] at h
      obtain ⟨ys, h1, h2⟩ := bind_some hi
      obtain ⟨p, vs, rfl, q1, q2⟩ := itemsL_ok sr r h1
      have e := blsD_ok q2 h2
      subst e
      exact ⟨p, ns, rfl, q1.l, h.okI sr (rp_bl.mpr rfl)⟩
theorem de_sum {p : Pos} {g : Den (List D)} (hc : X.calm = true) (hm : X.mg "sum" = none) (ha : DA X T W [e] g) (hg : Gl X "sum" := by rfl) (he : starEach [e] X.env = (false, eval e X.env) :: starEach [] X.env := by rfl) : DE X T W (.Call (.Name "sum" p) [e] [] pos) (dCall g sumD) :=
  de_callB (cr_sum hc) hk_sum hm ha (hg := hg) (he := he) (hpl := rfl)
theorem de_all {p : Pos} {g : Den (List D)} (hc : X.calm = true) (hm : X.mg "all" = none) (ha : DA X T W [e] g) (hg : Gl X "all" := by rfl) (he : starEach [e] X.env = (false, eval e X.env) :: starEach [] X.env := by rfl) : DE X T W (.Call (.Name "all" p) [e] [] pos) (dCall g allD) :=
  de_callB (cr_all hc) hk_all hm ha (hg := hg) (he := he) (hpl := rfl)
theorem de_any {p : Pos} {g : Den (List D)} (hc : X.calm = true) (hm : X.mg "any" = none) (ha : DA X T W [e] g) (hg : Gl X "any" := by rfl) (he : starEach [e] X.env = (false, eval e X.env) :: starEach [] X.env := by rfl) : DE X T W (.Call (.Name "any" p) [e] [] pos) (dCall g anyD) :=
  de_callB (cr_any hc) hk_any hm ha (hg := hg) (he := he) (hpl := rfl)

/-! ### methods of lists (cells) -/
def isL (cs : List Cell) (x : D) : Bool := (itemsL cs x).isSome
/-- o.m(args): o is a list when it is read -/
def dML (f : Den D) (g : Den (List D)) (k : D → List D → List Cell → Out D) : Den D := fun env cs => (f env cs).bind fun x cs => if isL cs x = true then (g env cs).bind fun xs cs => k x xs cs else .no
theorem isL_ok {K : PySem.W.Frag} {I H : Hp} {m : List Addr} {cs : List Cell} {x : D} {v : V} (sr : SR T K I m cs H) (r : Rp T K I m x v) (h : isL cs x = true) : tyV K "list" v H := by
  obtain ⟨xs, hx⟩ := Option.isSome_iff_exists.mp h
  obtain ⟨p, vs, rfl, q1, q2⟩ := itemsL_ok sr r hx
  exact .inl ⟨rfl, vs, q1.l⟩
abbrev HkM (T : Tab) (K : PySem.W.Frag) (r : V → List V → Hp → VK → Prop) (k : D → List D → List Cell → Out D) : Prop :=
  ∀ (I : Hp) (m : List Addr) (cs : List Cell) (H : Hp) (x : D) (xs : List D) (v : V) (vs : List V) (Q : VK) (E : XK), SR T K I m cs H → Rp T K I m x v → RpL T K I m xs vs → OutG T K (RD T K) I m (k x xs cs) Q E → r v vs H Q
theorem tBM_of {g : Den (List D)} {k : D → List D → List Cell → Out D} {r : V → List V → Hp → VK → Prop} (hk : HkM T X.K r k) {to : TE} {ta : TA} (e1 : to = tG T X.K W (RD T X.K) f) (e2 : ta = tG T X.K W (RL T X.K) g) :
    ∀ σ H Q, tG T X.K W (RD T X.K) (dML f g k) σ H Q → tBM X.K "list" r to ta σ H Q := by
  subst e1 e2
  rintro σ H Q ⟨I, m, cs, env, er, sr, h⟩
  refine ⟨I, m, cs, env, er, sr, OutG.bindI h fun x cs1 v H1 I1 m1 s1 p1 sr1 r1 h1 => ?_⟩
  split at h1
  · rename_i hl
    refine ⟨isL_ok sr1 r1 hl, I1, m1, cs1, env, er.mono s1 p1, sr1, OutG.bindI h1 fun xs cs2 vs H2 I2 m2 s2 p2 sr2 r2 h2 => ?_⟩
    exact hk I2 m2 cs2 H2 x xs v vs Q _ sr2 (r1.mono s2 p2) r2 h2
  · exact h1.elim
/-- a list cell, its address, its object -/
theorem cell_lst {K : PySem.W.Frag} {I H : Hp} {m : List Addr} {cs : List Cell} {n : Nat} {xs : List D} {v : V} (sr : SR T K I m cs H) (r : Rp T K I m (.cell n) v) (h : cs[n]? = some (.lst xs)) : ∃ a vs, v = .ref a ∧ m[n]? = some a ∧ H a = some (.lst vs) ∧ RpL T K I m xs vs := by
  obtain ⟨a, e1, e2⟩ := rp_cell.mp r
  obtain ⟨a', o, q1, q2, q3, q4⟩ := sr.at_ n _ h (by intro z; cases z)
  rw [e1] at q1; cases q1
  cases o with
  | lst vs => exact ⟨a, vs, e2, e1, q3, q4⟩
  | _ => exact q4.elim
def appendD (x : D) (xs : List D) (cs : List Cell) : Out D := match x, xs with
  | .cell n, [y] => match cs[n]? with
    | some (.lst ys) => if fitsL ys.length then .ok .non (cs.set n (.lst (ys ++ [y]))) else .no
    | _ => .no
  | _, _ => .no
theorem hk_append {K : PySem.W.Frag} : HkM T K rAppend appendD := by
  intro I m cs H x xs v vs Q E sr rx rxs h
  unfold appendD at h
  split at h
  · rename_i n y
    obtain ⟨w, rfl, ry⟩ := rxs.i1
    split at h
    · rename_i ys hc
      split at h
      · rename_i hl
        obtain ⟨a, us, rfl, ea, q1, q2⟩ := cell_lst sr rx hc
        have sr2 := sr.setC (o := .lst (us ++ [w])) (c := .lst (ys ++ [y])) hc (by intro z; cases z) ea (q2.append (RpL.one ry))
        exact ⟨a, us, w, rfl, rfl, q1, by rw [← q2.length]; exact hl, h.okI sr2 (rp_non.mpr rfl)⟩
      · exact h.elim
    · exact h.elim
  · exact h.elim
theorem de_append {g : Den (List D)} {apos : Pos} (ho : DE X T W o f) (ha : DA X T W [e] g) (hbase : attributeBase o "append" X.env (eval o X.env) = eval o X.env := by rfl) (hs : starEach [e] X.env = (false, eval e X.env) :: starEach [] X.env := by rfl)
    (hfew : ((backTo pos (starEach [e] X.env)).all (fun x => !x.1) && (backToKw pos (keywordEach [] X.env)).all (fun x => x.1.isSome) && decide ([e].length + ([] : List Keyword).length + (if ([] : List Keyword).isEmpty then 0 else 1) < 30)) = true := by rfl) (hline : (apos.endLine == pos.line) = true := by rfl) :
    DE X T W (.Call (.Attribute o "append" apos) [e] [] pos) (dML f g appendD) :=
  PE.imp (pe_bm PySem.F.plainAttrs_list PySem.F.slot_list_append PySem.F.type_list_append mt_append ho ha hbase hfew hline hs rfl) (tBM_of hk_append rfl rfl)
/-- xs.pop(i) -/
def popD (x : D) (xs : List D) (cs : List Cell) : Out D := match x, xs with
  | .cell n, [.int i] => match cs[n]? with
    | some (.lst ys) => if in63 i then (match seqIndex? i ys.length with
      | some j => match ys[j]? with
        | some y => .ok y (cs.set n (.lst (ys.eraseIdx j)))
        | none => .no
      | none => .no) else .no
    | _ => .no
  | _, _ => .no
theorem RpL.eraseIdx {K : PySem.W.Frag} {I : Hp} {m : List Addr} : ∀ {ds : List D} {vs : List V} {i : Nat}, RpL T K I m ds vs → RpL T K I m (ds.eraseIdx i) (vs.eraseIdx i)
  | [], vs, i, h => by have e := h.inil; subst e; simp; exact h
  | x :: ds, vs, 0, h => by
    obtain ⟨w, r, rfl, q, h'⟩ := h.inv
    exact h'
  | x :: ds, vs, i + 1, h => by
    obtain ⟨w, r, rfl, q, h'⟩ := h.inv
    exact RpL.cons q (RpL.eraseIdx h')
theorem hk_pop {K : PySem.W.Frag} : HkM T K rPopAt popD := by
  intro I m cs H x xs v vs Q E sr rx rxs h
  unfold popD at h
  split at h
  · rename_i n i
    obtain ⟨w, rfl, ry⟩ := rxs.i1
    have ew := rp_int.mp ry
    subst ew
    split at h
    · rename_i ys hc
      split at h
      · rename_i hl
        obtain ⟨a, us, rfl, ea, q1, q2⟩ := cell_lst sr rx hc
        cases hj : seqIndex? i ys.length with
        | none => simp only [hj] at h; exact h.elim
        | some j =>
          simp only [hj] at h
          cases hy : ys[j]? with
          | none => simp only [hy] at h; exact h.elim
          | some y =>
            simp only [hy] at h
            obtain ⟨z, hz, rz⟩ := q2.get hy
            have sr2 := sr.setC (o := .lst (us.eraseIdx j)) (c := .lst (ys.eraseIdx j)) hc (by intro z; cases z) ea q2.eraseIdx
            exact ⟨a, us, i, j, z, rfl, rfl, q1, hl.1, hl.2, by rw [← q2.length]; exact hj, hz, h.okI sr2 rz⟩
      · exact h.elim
    · exact h.elim
  · exact h.elim
theorem de_pop {g : Den (List D)} {apos : Pos} (ho : DE X T W o f) (ha : DA X T W [e] g) (hbase : attributeBase o "pop" X.env (eval o X.env) = eval o X.env := by rfl) (hs : starEach [e] X.env = (false, eval e X.env) :: starEach [] X.env := by rfl)
    (hfew : ((backTo pos (starEach [e] X.env)).all (fun x => !x.1) && (backToKw pos (keywordEach [] X.env)).all (fun x => x.1.isSome) && decide ([e].length + ([] : List Keyword).length + (if ([] : List Keyword).isEmpty then 0 else 1) < 30)) = true := by rfl) (hline : (apos.endLine == pos.line) = true := by rfl) :
    DE X T W (.Call (.Attribute o "pop" apos) [e] [] pos) (dML f g popD) :=
  PE.imp (pe_bm PySem.F.plainAttrs_list PySem.F.slot_list_pop PySem.F.type_list_pop mt_popAt ho ha hbase hfew hline hs rfl) (tBM_of hk_pop rfl rfl)
end
end
end DL
end

section
set_option Elab.async false
set_option linter.all false
set_option maxRecDepth 100000
set_option maxHeartbeats 4000000
namespace DL
open PySem L2
open Classical
noncomputable section

/-! ### what a statement comes to -/
inductive SO where
  | nx (env : Env) (cs : List Cell)
  | rt (d : D) (cs : List Cell)
  | bk (env : Env) (cs : List Cell)
  | ct (env : Env) (cs : List Cell)
  | ex (c : Nat) (ks : List Nat) (fs : List D) (env : Env) (cs : List Cell)
  | no
def SOk (T : Tab) (K : PySem.W.Frag) (W : WX) (I : Hp) (m : List Addr) (o : SO) (B : Ends) : Prop := match o with
  | .nx env cs => ∀ σ' H' I' m', Same I I' → m <+: m' → SR T K I' m' cs H' → ER T K I' m' env σ' → B.nx σ' H'
  | .rt d cs => ∀ v H' I' m', Same I I' → m <+: m' → SR T K I' m' cs H' → Rp T K I' m' d v → B.rt v H'
  | .bk env cs => ∀ σ' H' I' m', Same I I' → m <+: m' → SR T K I' m' cs H' → ER T K I' m' env σ' → B.bk σ' H'
  | .ct env cs => ∀ σ' H' I' m', Same I I' → m <+: m' → SR T K I' m' cs H' → ER T K I' m' env σ' → B.ct σ' H'
  | .ex c ks fs env cs => ∀ cls od σ' H' I' m', Same I I' → m <+: m' → SR T K I' m' cs H' → ER T K I' m' env σ' → ExR T K I' m' c ks fs cls od → W cls od σ' H'
  | .no => False
abbrev SDen := Env → List Cell → SO
def tS (T : Tab) (K : PySem.W.Frag) (W : WX) (g : SDen) : TS := fun B σ H => ∃ I m cs env, ER T K I m env σ ∧ SR T K I m cs H ∧ SOk T K W I m (g env cs) B
def DS (X : Cx) (T : Tab) (W : WX) (st : Stmt) (g : SDen) : Prop := PS X st (tS T X.K W g)
def DSs (X : Cx) (T : Tab) (W : WX) (st : List Stmt) (g : SDen) : Prop := PSs X st (tS T X.K W g)
def Out.bindS {α : Type} (x : Out α) (env : Env) (k : α → List Cell → SO) : SO := match x with
  | .ok a cs => k a cs
  | .exn c ks fs cs => .ex c ks fs env cs
  | .no => .no
section
variable {T : Tab} {K : PySem.W.Frag} {W : WX} {I I' H H' : Hp} {m m' : List Addr} {B : Ends}
theorem SOk.up {o : SO} (s : Same I I') (p : m <+: m') (h : SOk T K W I m o B) : SOk T K W I' m' o B := by
  cases o with
  | nx => exact fun σ' H' I2 m2 s2 p2 => h σ' H' I2 m2 (s.trans s2) (p.trans p2)
  | rt => exact fun v H' I2 m2 s2 p2 => h v H' I2 m2 (s.trans s2) (p.trans p2)
  | bk => exact fun σ' H' I2 m2 s2 p2 => h σ' H' I2 m2 (s.trans s2) (p.trans p2)
  | ct => exact fun σ' H' I2 m2 s2 p2 => h σ' H' I2 m2 (s.trans s2) (p.trans p2)
  | ex => exact fun cls od σ' H' I2 m2 s2 p2 => h cls od σ' H' I2 m2 (s.trans s2) (p.trans p2)
  | no => exact h
theorem SOk.bindE {α β : Type} {R : Hp → List Addr → α → β → Prop} {x : Out α} {env : Env} {σ : L2.St} {k : α → List Cell → SO} {Q1 : β → Hp → Prop} (h : SOk T K W I m (x.bindS env k) B) (er : ER T K I m env σ)
    (hk : ∀ a cs v H1 I1 m1, Same I I1 → m <+: m1 → SR T K I1 m1 cs H1 → R I1 m1 a v → SOk T K W I1 m1 (k a cs) B → Q1 v H1) : OutG T K R I m x Q1 (fun cls od H' => W cls od σ H') := by
  cases x with
  | ok d cs => exact fun v H' I2 m2 s2 p2 sr r => hk d cs v H' I2 m2 s2 p2 sr r (SOk.up s2 p2 h)
  | exn c ks fs cs => exact fun cls od H' I2 m2 s2 p2 sr r => h cls od σ H' I2 m2 s2 p2 sr (er.mono s2 p2) r
  | no => exact h
theorem SOk.nxI {env : Env} {cs : List Cell} {σ : L2.St} (h : SOk T K W I m (.nx env cs) B) (sr : SR T K I m cs H) (er : ER T K I m env σ) : B.nx σ H := h σ H I m (Same.refl I) (List.prefix_refl _) sr er
end
section
variable {X : Cx} {T : Tab} {W : WX} {a b c e o : Expr} {es rest : List Expr} {pos : Pos} {st : Stmt} {sts : List Stmt} {f g k : Den D} {p q r : Den Bool} {n : Nat}

/-! ### blocks -/
def sNil : SDen := fun env cs => .nx env cs
def sSeq (g1 g2 : SDen) : SDen := fun env cs => match g1 env cs with
  | .nx env cs => g2 env cs
  | o => o
theorem dss_nil : DSs X T W [] sNil := PSs.imp pss_nil fun B σ H ⟨I, m, cs, env, er, sr, h⟩ => SOk.nxI h sr er
theorem dss_one {g1 : SDen} (h : DS X T W st g1) : DSs X T W [st] g1 := PSs.imp (pss_one h) fun _ _ _ q => q
theorem dss_cons {g1 g2 : SDen} (h1 : DS X T W st g1) (h2 : DSs X T W sts g2) : DSs X T W (st :: sts) (sSeq g1 g2) := by
  refine PSs.imp (pss_cons h1 h2) ?_
  rintro B σ H ⟨I, m, cs, env, er, sr, h⟩
  refine ⟨I, m, cs, env, er, sr, ?_⟩
  unfold sSeq at h
  cases hg : g1 env cs with
  | nx env' cs' =>
    simp only [hg] at h
    exact fun σ' H' I2 m2 s2 p2 sr2 er2 => ⟨I2, m2, cs', env', er2, sr2, SOk.up s2 p2 h⟩
  | _ => simp only [hg] at h; exact h
/-- slots whose value is forgotten -/
def killE : List Nat → Env → Env
  | [], env => env
  | i :: r, env => killE r (env.set i none)
theorem ER.kill {K : PySem.W.Frag} {I : Hp} {m : List Addr} {σ : L2.St} : ∀ {ks : List Nat} {env : Env}, ER T K I m env σ → ER T K I m (killE ks env) σ
  | [], _, h => h
  | i :: r, env, h => by
    show ER T K I m (killE r (env.set i none)) σ
    exact ER.kill (ks := r) h.forget
def sPass : SDen := fun env cs => .nx env cs
theorem ds_pass : DS X T W (.Pass pos) sPass := PS.imp ps_pass fun B σ H ⟨I, m, cs, env, er, sr, h⟩ => SOk.nxI h sr er
theorem ds_break : DS X T W (.Break pos) (fun env cs => .bk env cs) := PS.imp ps_break fun B σ H ⟨I, m, cs, env, er, sr, h⟩ => h σ H I m (Same.refl I) (List.prefix_refl _) sr er
theorem ds_continue : DS X T W (.Continue pos) (fun env cs => .ct env cs) := PS.imp ps_continue fun B σ H ⟨I, m, cs, env, er, sr, h⟩ => h σ H I m (Same.refl I) (List.prefix_refl _) sr er
/-- a statement that is not reached, or of which nothing is said -/
def sNo : SDen := fun _ _ => .no
theorem ds_no : DS X T W st sNo := PS.imp ps_never fun B σ H ⟨I, m, cs, env, er, sr, h⟩ => h
def sExpr (f : Den D) : SDen := fun env cs => (f env cs).bindS env fun _ cs => .nx env cs
theorem ds_expr (h : DE X T W e f) (hs : swapsWith e none pos.line X.env = pure false := by rfl) : DS X T W (.Expr e pos) (sExpr f) := by
  refine PS.imp (ps_expr h hs) ?_
  rintro B σ H ⟨I, m, cs, env, er, sr, h⟩
  exact ⟨I, m, cs, env, er, sr, SOk.bindE h er fun d cs1 v H1 I1 m1 s1 p1 sr1 r1 h1 => SOk.nxI h1 sr1 (er.mono s1 p1)⟩
def sRet (f : Den D) : SDen := fun env cs => (f env cs).bindS env fun d cs => .rt d cs
theorem ds_ret (h : DE X T W e f) : DS X T W (.Return (some e) pos) (sRet f) := by
  refine PS.imp (ps_ret h) ?_
  rintro B σ H ⟨I, m, cs, env, er, sr, h⟩
  exact ⟨I, m, cs, env, er, sr, SOk.bindE h er fun d cs1 v H1 I1 m1 s1 p1 sr1 r1 h1 => h1 v H1 I1 m1 (Same.refl _) (List.prefix_refl _) sr1 r1⟩
def sRetN : SDen := fun _ cs => .rt .non cs
theorem ds_retN : DS X T W (.Return none pos) sRetN := PS.imp ps_retN fun B σ H ⟨I, m, cs, env, er, sr, h⟩ => h .non H I m (Same.refl I) (List.prefix_refl _) sr (rp_non.mpr rfl)
/-- a list's cell is given out frozen -/
def dFrz (f : Den D) : Den D := fun env cs => (f env cs).bind fun x cs => match x with
  | .cell n => match cs[n]? with
    | some (.lst xs) => .ok (.lst xs) (cs.set n .gone)
    | _ => .no
  | d => .ok d cs
theorem de_frz (h : DE X T W e f) : DE X T W e (dFrz f) := by
  refine PE.imp h ?_
  rintro σ H Q ⟨I, m, cs, env, er, sr, h⟩
  refine ⟨I, m, cs, env, er, sr, OutG.bindI h fun x cs1 v H1 I1 m1 s1 p1 sr1 r1 h1 => ?_⟩
  by_cases hz : ∃ z, x = .cell z
  · obtain ⟨z, rfl⟩ := hz
    simp only at h1
    split at h1
    · rename_i ys hc
      obtain ⟨a, us, rfl, ea, q1, q2⟩ := cell_lst sr1 r1 hc
      obtain ⟨sr2, s2⟩ := sr1.frz hc (by intro z; cases z) ea q1
      exact h1.ok1 s2 sr2 (rp_lst.mpr ⟨a, us, rfl, SqX.of upd_same, RpL.mono s2 (List.prefix_refl _) q2⟩)
    · exact h1.elim
  · have h' : OutG T X.K (RD T X.K) I1 m1 (.ok x cs1) Q (fun cls od H' => W cls od σ H') := by
      cases x <;> first | exact h1 | exact absurd ⟨_, rfl⟩ hz
    exact h'.okI sr1 r1
/-- a slot's list is frozen from here on -/
def frzE (i : Nat) (env : Env) (cs : List Cell) (k : Env → List Cell → SO) : SO := match env[i]? with
  | some (some (.cell n)) => match cs[n]? with
    | some (.lst xs) => k (env.set i (some (.lst xs))) (cs.set n .gone)
    | _ => .no
  | _ => k env cs
def sFrz (i : Nat) (g : SDen) : SDen := fun env cs => frzE i env cs g
theorem tS_frz {K : PySem.W.Frag} {i : Nat} {g : SDen} : ∀ B σ H, tS T K W (sFrz i g) B σ H → tS T K W g B σ H := by
  rintro B σ H ⟨I, m, cs, env, er, sr, h⟩
  unfold sFrz frzE at h
  split at h
  · rename_i n he
    split at h
    · rename_i xs hc
      obtain ⟨v, e1, r1⟩ := er.at_ i _ he
      obtain ⟨a, us, rfl, ea, q1, q2⟩ := cell_lst sr r1 hc
      obtain ⟨sr2, s2⟩ := sr.frz hc (by intro z; cases z) ea q1
      have rl : Rp T K (L2.upd I a (.lst us)) m (.lst xs) (.ref a) := rp_lst.mpr ⟨a, us, rfl, SqX.of upd_same, RpL.mono s2 (List.prefix_refl _) q2⟩
      have er2 := (er.mono s2 (List.prefix_refl _)).set (i := i) rl
      have hσ : σ.set i (some (.ref a)) = σ := by
        have hi := (List.getElem?_eq_some_iff.mp e1)
        obtain ⟨hi, hv⟩ := hi
        rw [← hv, List.set_getElem_self]
      rw [hσ] at er2
      exact ⟨_, m, _, _, er2, sr2, SOk.up s2 (List.prefix_refl _) h⟩
    · exact h.elim
  · exact ⟨I, m, cs, env, er, sr, h⟩
theorem dss_frz {i : Nat} {g1 : SDen} (h : DSs X T W sts g1) : DSs X T W sts (sFrz i g1) := PSs.imp h tS_frz
theorem ds_frz {i : Nat} {g1 : SDen} (h : DS X T W st g1) : DS X T W st (sFrz i g1) := PS.imp h tS_frz

/-! ### if -/
def sIf (p : Den Bool) (g1 g2 : SDen) : SDen := fun env cs => (p env cs).bindS env fun b cs => if b = true then g1 env cs else g2 env cs
theorem ds_if {g1 g2 : SDen} {s1 s2 : List Stmt} (hc : DT X T W c p) (h1 : DSs X T W s1 g1) (h2 : DSs X T W s2 g2) : DS X T W (.If c s1 s2 pos) (sIf p g1 g2) := by
  refine PS.imp (ps_if hc h1 h2) ?_
  rintro B σ H ⟨I, m, cs, env, er, sr, h⟩
  refine ⟨I, m, cs, env, er, sr, SOk.bindE h er fun b cs1 v H1 I1 m1 s1 p1 sr1 r1 h1 => ?_⟩
  have e : b = v := r1
  subst e
  split at h1
  · rename_i hb
    rw [if_pos hb]
    exact ⟨I1, m1, cs1, env, er.mono s1 p1, sr1, h1⟩
  · rename_i hb
    rw [if_neg hb]
    exact ⟨I1, m1, cs1, env, er.mono s1 p1, sr1, h1⟩

/-! ### stores -/
abbrev GDen := D → Env → List Cell → SO
def tGt (T : Tab) (K : PySem.W.Frag) (g : GDen) : TG := fun v σ H Q => ∃ I m cs env d, ER T K I m env σ ∧ SR T K I m cs H ∧ Rp T K I m d v ∧ (match g d env cs with
  | .nx env' cs' => ∀ σ' H' I' m', Same I I' → m <+: m' → SR T K I' m' cs' H' → ER T K I' m' env' σ' → Q σ' H'
  | _ => False)
def tGs (T : Tab) (K : PySem.W.Frag) (g : List D → Env → List Cell → SO) : TGs := fun vs σ H Q => ∃ I m cs env ds, ER T K I m env σ ∧ SR T K I m cs H ∧ RpL T K I m ds vs ∧ (match g ds env cs with
  | .nx env' cs' => ∀ σ' H' I' m', Same I I' → m <+: m' → SR T K I' m' cs' H' → ER T K I' m' env' σ' → Q σ' H'
  | _ => False)
def DG (X : Cx) (T : Tab) (tgt : Expr) (g : GDen) : Prop := PG X tgt (tGt T X.K g)
def DGs (X : Cx) (T : Tab) (tgts : List Expr) (g : List D → Env → List Cell → SO) : Prop := PGs X tgts (tGs T X.K g)
theorem PG.imp {tgt : Expr} {t t' : TG} (h : PG X tgt t) (i : ∀ v σ H Q, t' v σ H Q → t v σ H Q) : PG X tgt t' := ⟨fun pins s σ H v u Q I r q => h.run pins s σ H v u Q I r (i v σ H Q q)⟩
theorem PGs.imp {ts : List Expr} {t t' : TGs} (h : PGs X ts t) (i : ∀ v σ H Q, t' v σ H Q → t v σ H Q) : PGs X ts t' := ⟨fun pins s σ H v u Q I r q => h.run pins s σ H v u Q I r (i v σ H Q q)⟩
def gNm (i : Nat) : GDen := fun d env cs => .nx (env.set i (some d)) cs
theorem dg_name {i : Nat} {x : Str} (h : PG X (.Name x pos) (gName i)) : DG X T (.Name x pos) (gNm i) := by
  refine PG.imp h ?_
  rintro v σ H Q ⟨I, m, cs, env, d, er, sr, r, h⟩
  exact h _ H I m (Same.refl I) (List.prefix_refl _) sr (er.set r)
def gsNil : List D → Env → List Cell → SO := fun ds env cs => match ds with
  | [] => .nx env cs
  | _ => .no
def gsCons (g : GDen) (gs : List D → Env → List Cell → SO) : List D → Env → List Cell → SO := fun ds env cs => match ds with
  | d :: ds => match g d env cs with
    | .nx env cs => gs ds env cs
    | _ => .no
  | [] => .no
theorem dgs_nil : DGs X T [] gsNil := by
  refine PGs.imp pgs_nil ?_
  rintro vs σ H Q ⟨I, m, cs, env, ds, er, sr, r, h⟩
  cases ds with
  | nil => exact ⟨r.inil, h σ H I m (Same.refl I) (List.prefix_refl _) sr er⟩
  | cons d ds => exact h.elim
theorem dgs_cons {g1 : GDen} {gs : List D → Env → List Cell → SO} (h1 : DG X T e g1) (h2 : DGs X T es gs) (hs : (assignEach (e :: es) X.env).map (·.2) = assign e X.env :: (assignEach es X.env).map (·.2) := by rfl) : DGs X T (e :: es) (gsCons g1 gs) := by
  refine PGs.imp (pgs_cons h1 h2 hs) ?_
  rintro vs σ H Q ⟨I, m, cs, env, ds, er, sr, r, h⟩
  cases ds with
  | nil => exact h.elim
  | cons d ds =>
    obtain ⟨v, r', rfl, q, k⟩ := r.inv
    unfold gsCons at h
    simp only at h
    cases hg : g1 d env cs with
    | nx env' cs' =>
      simp only [hg] at h
      refine ⟨v, r', rfl, I, m, cs, env, d, er, sr, q, ?_⟩
      rw [hg]
      intro σ' H' I' m' s1 p1 sr1 er1
      refine ⟨I', m', cs', env', ds, er1, sr1, RpL.mono s1 p1 k, ?_⟩
      cases hg2 : gs ds env' cs' with
      | nx env2 cs2 =>
        simp only [hg2] at h ⊢
        exact fun σ2 H2 I2 m2 s2 p2 => h σ2 H2 I2 m2 (s1.trans s2) (p1.trans p2)
      | _ => simp only [hg2] at h
    | _ => simp only [hg] at h
def gTupD (n : Nat) (gs : List D → Env → List Cell → SO) : GDen := fun d env cs => match d with
  | .tup xs => if xs.length = n then gs xs env cs else .no
  | _ => .no
theorem dg_tup {k n : Nat} {gs : List D → Env → List Cell → SO} (hc : X.calm = true) (h : DGs X T es gs) (hn : (assignEach es X.env).length = n := by rfl) (hst : (assignEach es X.env).findIdx? (·.1) = none := by rfl) : DG X T (.Tuple es k pos) (gTupD n gs) := by
  refine PG.imp (pg_tup hc h hn hst) ?_
  rintro v σ H Q ⟨I, m, cs, env, d, er, sr, r, h⟩
  cases d with
  | tup xs =>
    obtain ⟨a, vs, rfl, q1, q2⟩ := rp_tup.mp r
    unfold gTupD at h
    simp only at h
    by_cases hl : xs.length = n
    · rw [if_pos hl] at h
      exact ⟨a, vs, rfl, SqT.same sr.same q1, by rw [← q2.length]; exact hl, I, m, cs, env, xs, er, sr, q2, h⟩
    · rw [if_neg hl] at h; exact h.elim
  | _ => exact h.elim
def gLstD (n : Nat) (gs : List D → Env → List Cell → SO) : GDen := fun d env cs => match itemsL cs d with
  | some xs => if xs.length = n then gs xs env cs else .no
  | none => .no
theorem dg_lst {k n : Nat} {gs : List D → Env → List Cell → SO} (hc : X.calm = true) (h : DGs X T es gs) (hn : (assignEach es X.env).length = n := by rfl) (hst : (assignEach es X.env).findIdx? (·.1) = none := by rfl) : DG X T (.Tuple es k pos) (gLstD n gs) := by
  refine PG.imp (pg_lst hc h hn hst) ?_
  rintro v σ H Q ⟨I, m, cs, env, d, er, sr, r, h⟩
  unfold gLstD at h
  cases hi : itemsL cs d with
  | none => simp only [hi] at h
  | some xs =>
    simp only [hi] at h
    obtain ⟨a, vs, rfl, q1, q2⟩ := itemsL_ok sr r hi
    by_cases hl : xs.length = n
    · rw [if_pos hl] at h
      exact ⟨a, vs, rfl, q1.l, by rw [← q2.length]; exact hl, I, m, cs, env, xs, er, sr, q2, h⟩
    · rw [if_neg hl] at h; exact h.elim
/-- o[i] = d, a list -/
def gIx (f g : Den D) : GDen := fun d env cs => (f env cs).bindS env fun x cs => (g env cs).bindS env fun y cs => match x, asI y with
  | .cell n, some i => match cs[n]? with
    | some (.lst xs) => match ixN xs.length i with
      | some j => .nx env (cs.set n (.lst (xs.set j d)))
      | none => .no
    | _ => .no
  | _, _ => .no
theorem dg_ix (hW : W = fun _ _ _ _ => False) (ho : DE X T W o f) (hi : DE X T W e g) (ha : ∀ v, assign (.Subscript o e pos) X.env v = (do
      let ov ← holding [v] (eval o X.env)
      let iv ← holding [v, ov] (eval e X.env)
      standAt pos
      holding [v, ov, iv] (setItem ov iv v)
      release [v, ov, iv] []) := by intro _; rfl) : DG X T (.Subscript o e pos) (gIx f g) := by
  subst hW
  refine PG.imp (pg_sub ho hi set_list ha) ?_
  rintro v σ H Q ⟨I, m, cs, env, d, er, sr, r, h⟩
  unfold gIx at h
  cases hf : f env cs with
  | no => simp [hf, Out.bindS] at h
  | exn => simp [hf, Out.bindS] at h
  | ok x cs1 =>
    rw [hf] at h
    simp only [Out.bindS] at h
    refine ⟨I, m, cs, env, er, sr, ?_⟩
    rw [hf]
    intro vo H1 I1 m1 s1 p1 sr1 r1
    refine ⟨I1, m1, cs1, env, er.mono s1 p1, sr1, ?_⟩
    cases hg : g env cs1 with
    | no => simp [hg] at h
    | exn => simp [hg] at h
    | ok y cs2 =>
      rw [hg] at h
      simp only at h
      intro vi H2 I2 m2 s2 p2 sr2 r2
      split at h
      · rename_i env' cs' hx
        split at hx
        · rename_i n i hy
          have e := asI_ok hy; subst e
          split at hx
          · rename_i xs hc
            split at hx
            · rename_i j hj
              cases hx
              obtain ⟨a, us, rfl, ea, q1, q2⟩ := cell_lst sr2 (r1.mono s2 p2) hc
              have rv := (r.mono s1 p1).mono s2 p2
              have sr3 := sr2.setC (o := .lst (us.set j v)) (c := .lst (xs.set j d)) hc (by intro z; cases z) ea (q2.set rv)
              exact ⟨a, us, i, j, rfl, rp_int.mp r2, q1, by rw [← q2.length]; exact hj, h σ _ I2 m2 (s1.trans s2) (p1.trans p2) sr3 ((er.mono s1 p1).mono s2 p2)⟩
            · cases hx
          · cases hx
        · cases hx
      · exact h.elim
/-- target = value -/
def sAsg (f : Den D) (g : GDen) : SDen := fun env cs => (f env cs).bindS env fun d cs => match g d env cs with
  | .nx env cs => .nx env cs
  | _ => .no
theorem tAsg_of {g1 : GDen} {te : TE} {tg : TG} (e1 : te = tG T X.K W (RD T X.K) f) (e2 : tg = tGt T X.K g1) : ∀ B σ H, tS T X.K W (sAsg f g1) B σ H → tAsg te tg B σ H := by
  subst e1 e2
  rintro B σ H ⟨I, m, cs, env, er, sr, h⟩
  refine ⟨I, m, cs, env, er, sr, SOk.bindE h er fun d cs1 v H1 I1 m1 s1 p1 sr1 r1 h1 => ?_⟩
  refine ⟨I1, m1, cs1, env, d, er.mono s1 p1, sr1, r1, ?_⟩
  cases hg : g1 d env cs1 with
  | nx env' cs' => simp only [hg] at h1; exact h1
  | _ => simp only [hg] at h1; exact h1.elim
theorem ds_asg {tg : Expr} {g1 : GDen} (he : DE X T W e f) (hg : DG X T tg g1) (hs : swapsWithSole [tg] e pos.line X.env = pure false := by rfl) (hw : swappedStores [tg] e X.env = pure none := by rfl)
    (h1 : (assignEach [tg] X.env).map (·.2) = [assign tg X.env] := by rfl) : DS X T W (.Assign [tg] e pos) (sAsg f g1) := PS.imp (ps_asg he hg hs hw h1) (tAsg_of rfl rfl)
/-- name = value -/
def sSet (i : Nat) (f : Den D) : SDen := fun env cs => (f env cs).bindS env fun d cs => .nx (env.set i (some d)) cs
theorem tSet_of {i : Nat} {te : TE} (e1 : te = tG T X.K W (RD T X.K) f) : ∀ B σ H, tS T X.K W (sSet i f) B σ H → tAsg te (gName i) B σ H := by
  subst e1
  rintro B σ H ⟨I, m, cs, env, er, sr, h⟩
  exact ⟨I, m, cs, env, er, sr, SOk.bindE h er fun d cs1 v H1 I1 m1 s1 p1 sr1 r1 h1 => SOk.nxI h1 sr1 ((er.mono s1 p1).set r1)⟩
theorem ds_set {i : Nat} {x : Str} {pos' : Pos} (hN : X.N.Nodup) (he : DE X T W e f) (hi : X.N[i]? = some x := by rfl) (hx : Loc X.env.scope x := by first | exact Or.inl rfl | exact Or.inr rfl) (hs : swapsWith e (some (.Name x pos')) pos.line X.env = pure false := by rfl)
    (hf : X.fn x = true ∨ X.env.scope.names.lookup x = some .local := by first | exact .inl rfl | exact .inr rfl) : DS X T W (.Assign [.Name x pos'] e pos) (sSet i f) := PS.imp (ps_set hN hi hx he hs hf) (tSet_of rfl)
/-- x, y = a, b: plain local names -/
def sPar (i j : Nat) (g : Den (List D)) : SDen := fun env cs => (g env cs).bindS env fun ds cs => match ds with
  | [d, e] => .nx ((env.set i (some d)).set j (some e)) cs
  | _ => .no
theorem ds_par {i j : Nat} {x y : Str} {px py pt : Pos} {kt k2 pt2} {g : Den (List D)} (hc : X.calm = true) (hN : X.N.Nodup) (ha : DA X T W [a, b] g) (hi : X.N[i]? = some x := by rfl) (hj : X.N[j]? = some y := by rfl) (hij : i ≠ j := by decide)
    (hx : X.env.scope.names.lookup x = some .local := by rfl) (hy : X.env.scope.names.lookup y = some .local := by rfl)
    (hw : swappedStores [.Tuple [.Name x px, .Name y py] kt pt] (.Tuple [a, b] k2 pt2) X.env = pure (some [x, y]) := by rfl)
    (hs : swapsWithSole [.Tuple [.Name x px, .Name y py] kt pt] (.Tuple [a, b] k2 pt2) pos.line X.env = pure false := by rfl) :
    DS X T W (.Assign [.Tuple [.Name x px, .Name y py] kt pt] (.Tuple [a, b] k2 pt2) pos) (sPar i j g) := by
  refine PS.imp (ps_par hc hN hi hj hij hx hy ha hw hs) ?_
  rintro B σ H ⟨I, m, cs, env, er, sr, h⟩
  refine ⟨I, m, cs, env, er, sr, SOk.bindE h er fun ds cs1 vs H1 I1 m1 s1 p1 sr1 r1 h1 => ?_⟩
  split at h1
  · obtain ⟨v, u, rfl, q1, q2⟩ := RpL.i2 r1
    exact ⟨v, u, rfl, SOk.nxI h1 sr1 (((er.mono s1 p1).set q1).set q2)⟩
  · exact h1.elim
/-- o.f = value -/
def putK (k : Nat) (d : D) : List Nat → List D → List Nat × List D
  | k' :: ks, x :: ds => if k = k' then (k' :: ks, d :: ds) else ((k' :: (putK k d ks ds).1), (x :: (putK k d ks ds).2))
  | _, _ => ([k], [d])
theorem putK_ok {K : PySem.W.Frag} {I : Hp} {m : List Addr} {k : Nat} {d : D} {v : V} (inj : ∀ i j, T.nm i = T.nm j → i = j) (rv : Rp T K I m d v) : ∀ {ks : List Nat} {ds : List D} {gs : List (Str × V)}, gs.map (·.1) = ks.map T.nm → RpL T K I m ds (gs.map (·.2)) →
    (putF (T.nm k) v gs).map (·.1) = (putK k d ks ds).1.map T.nm ∧ RpL T K I m (putK k d ks ds).2 ((putF (T.nm k) v gs).map (·.2))
  | [], ds, [], e, r => by
    have : ds = [] := by
      have l := r.length
      cases ds with
      | nil => rfl
      | cons _ _ => simp at l
    subst this
    exact ⟨rfl, RpL.one rv⟩
  | [], _, _ :: _, e, _ => by simp at e
  | _ :: _, _, [], e, _ => by simp at e
  | k' :: ks, [], (n, w) :: gs, e, r => by
    have := r.length
    simp at this
  | k' :: ks, x :: ds, (n, w) :: gs, e, r => by
    simp only [List.map_cons, List.cons.injEq] at e
    obtain ⟨v', r', e', q, r2⟩ := r.inv
    simp only [List.map_cons, List.cons.injEq] at e'
    obtain ⟨rfl, rfl⟩ := e'
    obtain ⟨e1, e2⟩ := e
    subst e1
    by_cases hk : k = k'
    · subst hk
      have h1 : putF (T.nm k) v ((T.nm k, w) :: gs) = (T.nm k, v) :: gs := by unfold putF; rw [if_pos rfl]
      rw [h1]
      unfold putK
      rw [if_pos rfl]
      exact ⟨by simp [e2], RpL.cons rv r2⟩
    · have hne : ¬ T.nm k' = T.nm k := fun z => hk (inj _ _ z).symm
      have h1 : putF (T.nm k) v ((T.nm k', w) :: gs) = (T.nm k', w) :: putF (T.nm k) v gs := by
        rw [putF]
        rw [if_neg hne]
      rw [h1]
      unfold putK
      rw [if_neg hk]
      obtain ⟨h2, h3⟩ := putK_ok inj rv e2 r2
      exact ⟨by simp [h2], RpL.cons q h3⟩
def sFldD (od : Nat → List Nat) (k : Nat) (fo fv : Den D) : SDen := fun env cs => (fv env cs).bindS env fun d cs => (fo env cs).bindS env fun x cs => match x with
  | .cell n => match cs[n]? with
    | some (.ins c ks ds) => if k ∈ od c ∧ few ks.length then .nx env (cs.set n (.ins c (putK k d ks ds).1 (putK k d ks ds).2)) else .no
    | _ => .no
  | _ => .no
theorem ds_fld (TK : TabOk X.K T) (inj : ∀ i j, T.nm i = T.nm j → i = j) {od : Nat → List Nat} (hod : T.od = od) {k : Nat} {fn : Str} {pos' : Pos} (hf : T.nm k = fn) (ho : DE X T W o f) (hv : DE X T W e g) (hs : swapsWith e (some (.Attribute o fn pos')) pos.line X.env = pure false := by rfl) :
    DS X T W (.Assign [.Attribute o fn pos'] e pos) (sFldD od k f g) := by
  subst hf hod
  refine PS.imp (ps_fld ho hv hs) ?_
  rintro B σ H ⟨I, m, cs, env, er, sr, h⟩
  refine ⟨I, m, cs, env, er, sr, SOk.bindE h er fun d cs1 v H1 I1 m1 s1 p1 sr1 r1 h1 => ?_⟩
  refine ⟨I1, m1, cs1, env, er.mono s1 p1, sr1, SOk.bindE h1 (er.mono s1 p1) fun x cs2 w H2 I2 m2 s2 p2 sr2 r2 h2 => ?_⟩
  split at h2
  · rename_i n
    split at h2
    · rename_i c ks ds hc
      split at h2
      · rename_i hk
        obtain ⟨a, e1, rfl⟩ := rp_cell.mp r2
        obtain ⟨a', ob, q1, q2, q3, q4⟩ := sr2.at_ n _ hc (by intro z; cases z)
        rw [e1] at q1; cases q1
        cases ob with
        | ins C dx gs =>
          obtain ⟨rfl, q5, q6⟩ := q4
          obtain ⟨c1, c2⟩ := TK c k hk.1
          obtain ⟨p1', p2'⟩ := putK_ok (k := k) inj (r1.mono s2 p2) q5 q6
          have lg : gs.length < 1000 := by
            have := congrArg List.length q5
            simp at this
            have hk2 : ks.length < 1000 := hk.2
            omega
          have sr3 := sr2.setC (o := .ins (T.ca c) dx (putF (T.nm k) v gs)) (c := .ins c (putK k d ks ds).1 (putK k d ks ds).2) hc (by intro z; cases z) e1 ⟨rfl, p1', p2'⟩
          exact ⟨a, T.ca c, dx, gs, rfl, q3, c1, c2, lg, SOk.nxI h2 sr3 ((er.mono s1 p1).mono s2 p2)⟩
        | _ => exact q4.elim
      · exact h2.elim
    · exact h2.elim
  · exact h2.elim
end
end
end DL
end

section
set_option Elab.async false
set_option linter.all false
set_option maxRecDepth 100000
set_option maxHeartbeats 4000000
namespace DL
open PySem L2
open Classical
noncomputable section

/-! ### what a loop walks: items known at its start; chk: the walked thing stands as it was -/
structure ItV where
  xs : List D
  chk : List Cell → Prop
def RI (T : Tab) (K : PySem.W.Frag) (I : Hp) (m : List Addr) (it : ItV) (J : It) : Prop :=
  ∀ I' m' cs H, Same I I' → m <+: m' → SR T K I' m' cs H → it.chk cs →
    (∀ i d, it.xs[i]? = some d → J.go i H ∧ ∀ x H', J.yld i H x H' → ∃ I2, Same I' I2 ∧ SR T K I2 m' cs H' ∧ Rp T K I2 m' d x) ∧ J.stop it.xs.length H
def DI (X : Cx) (T : Tab) (W : WX) (tg e : Expr) (f : Den ItV) : Prop := PI X tg e (tG T X.K W (RI T X.K) f)
theorem PI.imp {X : Cx} {tg e : Expr} {t t' : TI} (h : PI X tg e t) (i : ∀ σ H Q, t' σ H Q → t σ H Q) : PI X tg e t' := ⟨fun pins s σ H R I q => h.run pins s σ H R I (i σ H R q)⟩
theorem RI.mono {T : Tab} {K : PySem.W.Frag} {I I' : Hp} {m m' : List Addr} {it : ItV} {J : It} (s : Same I I') (p : m <+: m') (h : RI T K I m it J) : RI T K I' m' it J :=
  fun I2 m2 cs H s2 p2 => h I2 m2 cs H (s.trans s2) (p.trans p2)
def forL (chk : List Cell → Prop) (g : GDen) (b : SDen) : List D → SDen
  | [] => fun env cs => if chk cs then .nx env cs else .no
  | x :: r => fun env cs => if chk cs then (match g x env cs with
      | .nx env cs => (match b env cs with
        | .nx env cs => forL chk g b r env cs
        | .ct env cs => forL chk g b r env cs
        | .bk env cs => .nx env cs
        | o => o)
      | _ => .no) else .no
def sFor (f : Den ItV) (g : GDen) (b : SDen) : SDen := fun env cs => (f env cs).bindS env fun it cs => forL it.chk g b it.xs env cs
section
variable {X : Cx} {T : Tab} {W : WX} {tg iter : Expr} {body : List Stmt} {f : Den ItV} {g : GDen} {b : SDen} {pos : Pos}
theorem tFor_of {tb : TS} {wi : TI} {tgt : TG} (e1 : wi = tG T X.K W (RI T X.K) f) (e2 : tgt = tGt T X.K g) (e3 : tb = tS T X.K W b) : ∀ B σ H, tS T X.K W (sFor f g b) B σ H → tFor wi tgt tb B σ H := by
  subst e1 e2 e3
  rintro B σ H ⟨I, m, cs, env, er, sr, h⟩
  refine ⟨I, m, cs, env, er, sr, SOk.bindE h er fun it cs1 J H1 I1 m1 s1 p1 sr1 r1 h1 => ?_⟩
  refine ⟨fun i n σ H => n = it.xs.length - i ∧ i ≤ it.xs.length ∧ ∃ I m cs env, ER T X.K I m env σ ∧ SR T X.K I m cs H ∧ RI T X.K I m it J ∧ SOk T X.K W I m (forL it.chk g b (it.xs.drop i) env cs) B, ⟨it.xs.length, by simp, Nat.zero_le _, I1, m1, cs1, env, er.mono s1 p1, sr1, r1, by simpa using h1⟩, ?_⟩
  rintro i n σ H ⟨rfl, hi, I, m, cs, env, er, sr, r, h⟩
  by_cases hlt : i < it.xs.length
  · have ed : it.xs.drop i = it.xs[i] :: it.xs.drop (i + 1) := by simp
    rw [ed] at h
    unfold forL at h
    by_cases hc : it.chk cs
    · rw [if_pos hc] at h
      obtain ⟨q1, q2⟩ := r I m cs H (Same.refl I) (List.prefix_refl _) sr hc
      obtain ⟨go, ys⟩ := q1 i it.xs[i] (by simp [hlt])
      refine .inr ⟨go, fun σ' H' => ∃ I m cs env, ER T X.K I m env σ' ∧ SR T X.K I m cs H' ∧ RI T X.K I m it J ∧ SOk T X.K W I m (forL it.chk g b (it.xs.drop (i + 1)) env cs) B, fun σ' H' p' => ⟨it.xs.length - (i + 1), by omega, rfl, hlt, p'⟩, fun x H' y => ?_⟩
      obtain ⟨I2, s2, sr2, r2⟩ := ys x H' y
      refine ⟨I2, m, cs, env, it.xs[i], er.mono s2 (List.prefix_refl _), sr2, r2, ?_⟩
      cases hg : g it.xs[i] env cs with
      | nx env' cs' =>
        simp only [hg] at h ⊢
        intro σ3 H3 I3 m3 s3 p3 sr3 er3
        refine ⟨I3, m3, cs', env', er3, sr3, ?_⟩
        have r3 := (r.mono s2 (List.prefix_refl _)).mono s3 p3
        have h := SOk.up (s2.trans s3) p3 h
        cases hb : b env' cs' with
        | nx env4 cs4 =>
          simp only [hb] at h
          exact fun σ4 H4 I4 m4 s4 p4 sr4 er4 => ⟨I4, m4, cs4, env4, er4, sr4, r3.mono s4 p4, SOk.up s4 p4 h⟩
        | ct env4 cs4 =>
          simp only [hb] at h
          exact fun σ4 H4 I4 m4 s4 p4 sr4 er4 => ⟨I4, m4, cs4, env4, er4, sr4, r3.mono s4 p4, SOk.up s4 p4 h⟩
        | bk env4 cs4 =>
          simp only [hb] at h
          exact h
        | rt d4 cs4 =>
          simp only [hb] at h
          exact h
        | ex c ks fs env4 cs4 =>
          simp only [hb] at h
          exact h
        | no =>
          simp only [hb] at h
          exact h
      | _ => simp only [hg] at h; exact h.elim
    · rw [if_neg hc] at h; exact h.elim
  · have e : i = it.xs.length := by omega
    have ed : it.xs.drop i = [] := by rw [e]; simp
    rw [ed] at h
    unfold forL at h
    by_cases hc : it.chk cs
    · rw [if_pos hc] at h
      refine .inl ⟨?_, SOk.nxI h sr er⟩
      rw [e]
      exact (r I m cs H (Same.refl I) (List.prefix_refl _) sr hc).2
    · rw [if_neg hc] at h; exact h.elim
theorem ds_for (hp : PassesOwn (model X.prog X.w) X.A X.env X.xe) (hc : X.calm = true) (hi : DI X T W tg iter f) (hg : DG X T tg g) (hb : DSs X T W body b)
    (hs : ∀ x, foldedSetIterable iter X.env x = pure x := by intro _; rfl) : DS X T W (.For tg iter body [] pos) (sFor f g b) := PS.imp (ps_for hp hc hi hg hb hs) (tFor_of rfl rfl rfl)

/-! ### while -/
def whileD (p : Den Bool) (b : SDen) : Nat → SDen
  | 0 => fun _ _ => .no
  | n + 1 => fun env cs => (p env cs).bindS env fun k cs => if k = true then (match b env cs with
      | .nx env cs => whileD p b n env cs
      | .ct env cs => whileD p b n env cs
      | .bk env cs => .nx env cs
      | o => o) else .nx env cs
def sWhile (p : Den Bool) (b : SDen) : SDen := fun env cs => if h : ∃ n, whileD p b n env cs ≠ .no then whileD p b h.choose env cs else .no
theorem whileD_mono {p : Den Bool} : ∀ {n k : Nat} {env : Env} {cs : List Cell}, n ≤ k → whileD p b n env cs ≠ .no → whileD p b k env cs = whileD p b n env cs
  | 0, _, _, _, _, h => absurd rfl h
  | n + 1, 0, _, _, l, _ => absurd l (by omega)
  | n + 1, k + 1, env, cs, l, h => by
    unfold whileD at h ⊢
    cases hp : p env cs with
    | no => rfl
    | exn => rfl
    | ok k1 cs1 =>
      simp only [hp, Out.bindS] at h ⊢
      by_cases hk : k1 = true
      · rw [if_pos hk] at h
        rw [if_pos hk, if_pos hk]
        cases hb : b env cs1 with
        | nx env4 cs4 =>
          simp only [hb] at h ⊢
          exact whileD_mono (by omega) h
        | ct env4 cs4 =>
          simp only [hb] at h ⊢
          exact whileD_mono (by omega) h
        | _ => rfl
      · rw [if_neg hk, if_neg hk]
theorem sWhile_of {p : Den Bool} {env : Env} {cs : List Cell} {o : SO} (n : Nat) (h : whileD p b n env cs = o) (hn : o ≠ .no) : sWhile p b env cs = o := by
  have hx : ∃ n, whileD p b n env cs ≠ .no := ⟨n, by rw [h]; exact hn⟩
  unfold sWhile
  rw [dif_pos hx]
  rcases Nat.le_total n hx.choose with l | l
  · rw [whileD_mono l (by rw [h]; exact hn), h]
  · rw [← whileD_mono l hx.choose_spec, h]
theorem ds_while {c : Expr} {p : Den Bool} (hp : PassesOwn (model X.prog X.w) X.A X.env X.xe) (hc : DT X T W c p) (hb : DSs X T W body b) : DS X T W (.While c body [] pos) (sWhile p b) := by
  refine PS.imp (ps_while hp hc hb) ?_
  rintro B σ H ⟨I, m, cs, env, er, sr, h⟩
  unfold sWhile at h
  by_cases hx : ∃ n, whileD p b n env cs ≠ .no
  · rw [dif_pos hx] at h
    refine ⟨fun n σ H => ∃ I m cs env, ER T X.K I m env σ ∧ SR T X.K I m cs H ∧ SOk T X.K W I m (whileD p b n env cs) B, ⟨_, I, m, cs, env, er, sr, h⟩, ?_⟩
    rintro n σ H ⟨I, m, cs, env, er, sr, h⟩
    cases n with
    | zero => exact h.elim
    | succ n =>
      unfold whileD at h
      refine ⟨I, m, cs, env, er, sr, SOk.bindE h er fun k cs1 v H1 I1 m1 s1 p1 sr1 r1 h1 => ?_⟩
      have e : k = v := r1
      subst e
      by_cases hk : k = true
      · rw [if_pos hk] at h1
        rw [if_pos hk]
        refine ⟨fun σ' H' => ∃ I m cs env, ER T X.K I m env σ' ∧ SR T X.K I m cs H' ∧ SOk T X.K W I m (whileD p b n env cs) B, fun σ' H' p' => ⟨n, by omega, p'⟩, I1, m1, cs1, env, er.mono s1 p1, sr1, ?_⟩
        cases hb : b env cs1 with
        | nx env4 cs4 =>
          simp only [hb] at h1
          exact fun σ4 H4 I4 m4 s4 p4 sr4 er4 => ⟨I4, m4, cs4, env4, er4, sr4, SOk.up s4 p4 h1⟩
        | ct env4 cs4 =>
          simp only [hb] at h1
          exact fun σ4 H4 I4 m4 s4 p4 sr4 er4 => ⟨I4, m4, cs4, env4, er4, sr4, SOk.up s4 p4 h1⟩
        | bk env4 cs4 => simp only [hb] at h1; exact h1
        | rt d4 cs4 => simp only [hb] at h1; exact h1
        | ex c ks fs env4 cs4 => simp only [hb] at h1; exact h1
        | no => simp only [hb] at h1; exact h1
      · rw [if_neg hk] at h1
        rw [if_neg hk]
        exact SOk.nxI h1 sr1 (er.mono s1 p1)
  · rw [dif_neg hx] at h; exact h.elim
end

/-! ### what is walked -/
section
variable {X : Cx} {T : Tab} {W : WX} {tg e a b c : Expr} {f : Den D} {g : Den (List D)} {pos p : Pos}
def noChk : List Cell → Prop := fun _ => True
/-- a list -/
def itL (f : Den D) : Den ItV := fun env cs => (f env cs).bind fun x cs => match x with
  | .lst xs => .ok ⟨xs, noChk⟩ cs
  | .cell n => match cs[n]? with
    | some (.lst xs) => .ok ⟨xs, fun cs => cs[n]? = some (.lst xs)⟩ cs
    | _ => .no
  | _ => .no
theorem di_list (h : DE X T W e f) : DI X T W tg e (itL f) := by
  refine PI.imp (pi_list h) ?_
  rintro σ H Q ⟨I, m, cs, env, er, sr, h⟩
  refine ⟨I, m, cs, env, er, sr, OutG.bindI h fun x cs1 v H1 I1 m1 s1 p1 sr1 r1 h1 => ?_⟩
  cases x with
  | lst xs =>
    obtain ⟨a, us, rfl, q1, q2⟩ := rp_lst.mp r1
    refine ⟨a, rfl, ⟨us, (q1.same sr1.same).l⟩, h1.okI sr1 ?_⟩
    intro I' m' cs' H' s2 p2 sr2 _
    have qq := ((q1.same s2).same sr2.same)
    have qr := RpL.mono s2 p2 q2
    refine ⟨fun i d hd => ?_, us, qq.l, by rw [q2.length]; exact Nat.le_refl _⟩
    obtain ⟨v, e1, r2⟩ := qr.get hd
    refine ⟨⟨us, v, qq.l, e1⟩, fun x H2 y => ?_⟩
    obtain ⟨rfl, y⟩ := y
    have e2 := y us qq.l
    rw [e1] at e2; cases e2
    exact ⟨I', Same.refl _, sr2, r2⟩
  | cell n =>
    simp only at h1
    split at h1
    · rename_i xs hc
      obtain ⟨a, us, rfl, ea, q1, q2⟩ := cell_lst sr1 r1 hc
      refine ⟨a, rfl, ⟨us, .inl (.inl q1)⟩, h1.okI sr1 ?_⟩
      intro I' m' cs' H' s2 p2 sr2 hk
      obtain ⟨a2, us2, e2, ea2, q3, q4⟩ := cell_lst sr2 (Rp.mono s2 p2 r1) hk
      cases e2
      have qq : SqL X.K H' a us2 := .inl (.inl q3)
      refine ⟨fun i d hd => ?_, us2, qq, by rw [q4.length]; exact Nat.le_refl _⟩
      obtain ⟨v, e1, r2⟩ := q4.get hd
      refine ⟨⟨us2, v, qq, e1⟩, fun x H2 y => ?_⟩
      obtain ⟨rfl, y⟩ := y
      have e2 := y us2 qq
      rw [e1] at e2; cases e2
      exact ⟨I', Same.refl _, sr2, r2⟩
    · exact h1.elim
  | _ => exact h1.elim
/-- a tuple -/
def itT (f : Den D) : Den ItV := fun env cs => (f env cs).bind fun x cs => match x with
  | .tup xs => .ok ⟨xs, noChk⟩ cs
  | _ => .no
theorem di_tup (h : DE X T W e f) : DI X T W tg e (itT f) := by
  refine PI.imp (pi_tup h) ?_
  rintro σ H Q ⟨I, m, cs, env, er, sr, h⟩
  refine ⟨I, m, cs, env, er, sr, OutG.bindI h fun x cs1 v H1 I1 m1 s1 p1 sr1 r1 h1 => ?_⟩
  cases x with
  | tup xs =>
    obtain ⟨a, us, rfl, q1, q2⟩ := rp_tup.mp r1
    refine ⟨a, rfl, ⟨us, SqT.same sr1.same q1⟩, h1.okI sr1 ?_⟩
    intro I' m' cs' H' s2 p2 sr2 _
    have qq := SqT.same sr2.same (SqT.same s2 q1)
    have qr := RpL.mono s2 p2 q2
    refine ⟨fun i d hd => ?_, us, qq, by rw [q2.length]; exact Nat.le_refl _⟩
    obtain ⟨v, e1, r2⟩ := qr.get hd
    refine ⟨⟨us, v, qq, e1⟩, fun x H2 y => ?_⟩
    obtain ⟨rfl, y⟩ := y
    have e2 := y us qq
    rw [e1] at e2; cases e2
    exact ⟨I', Same.refl _, sr2, r2⟩
  | _ => exact h1.elim
/-- the numbers of a range -/
def rngL (lo : Int) (n : Nat) : List D := (List.range n).map fun (i : Nat) => D.int (lo + (i : Int))
theorem rngL_length {lo : Int} {n : Nat} : (rngL lo n).length = n := by unfold rngL; simp
theorem RI.rng {K : PySem.W.Frag} {I : Hp} {m : List Addr} {lo : Int} {n : Nat} : RI T K I m ⟨rngL lo n, noChk⟩ (Itr lo n) := by
  intro I' m' cs' H' s2 p2 sr2 _
  refine ⟨fun i d hd => ?_, by show n ≤ (rngL lo n).length; rw [rngL_length]; exact Nat.le_refl _⟩
  have hi : i < n := by
    have := (List.getElem?_eq_some_iff.mp hd).1
    rw [rngL_length] at this; exact this
  unfold rngL at hd
  simp [hi] at hd
  subst hd
  refine ⟨hi, fun x H2 y => ?_⟩
  obtain ⟨rfl, rfl⟩ := y
  exact ⟨I', Same.refl _, sr2, rp_int.mpr rfl⟩
def itR1 (g : Den (List D)) : Den ItV := fun env cs => (g env cs).bind fun ds cs => match ds with
  | [.int j] => if in62 j then .ok ⟨rngL 0 j.toNat, noChk⟩ cs else .no
  | _ => .no
theorem di_range1 (hg : Gl X "range") (hm : X.mg "range" = none) (ha : DA X T W [a] g) (hs : starEach [a] X.env = [(false, eval a X.env)] := by rfl) : DI X T W tg (.Call (.Name "range" p) [a] [] pos) (itR1 g) := by
  refine PI.imp (pi_range1 hg hm ha hs) ?_
  rintro σ H Q ⟨I, m, cs, env, er, sr, h⟩
  refine ⟨I, m, cs, env, er, sr, OutG.bindI h fun x cs1 v H1 I1 m1 s1 p1 sr1 r1 h1 => ?_⟩
  split at h1
  · rename_i j
    split at h1
    · rename_i hj
      obtain ⟨v1, rfl, q⟩ := RpL.i1 r1
      have hl : -(2 ^ 62) ≤ j ∧ j < 2 ^ 62 := hj
      exact ⟨j, by rw [rp_int.mp q], hl.1, hl.2, h1.okI sr1 RI.rng⟩
    · exact h1.elim
  · exact h1.elim
def itR2 (g : Den (List D)) : Den ItV := fun env cs => (g env cs).bind fun ds cs => match ds with
  | [.int i, .int j] => if in62 i ∧ in62 j then .ok ⟨rngL i (j - i).toNat, noChk⟩ cs else .no
  | _ => .no
theorem di_range2 (hg : Gl X "range") (hm : X.mg "range" = none) (ha : DA X T W [a, b] g) (hs : starEach [a, b] X.env = [(false, eval a X.env), (false, eval b X.env)] := by rfl) (hs2 : starEach [b] X.env = [(false, eval b X.env)] := by rfl) :
    DI X T W tg (.Call (.Name "range" p) [a, b] [] pos) (itR2 g) := by
  refine PI.imp (pi_range2 hg hm ha hs hs2) ?_
  rintro σ H Q ⟨I, m, cs, env, er, sr, h⟩
  refine ⟨I, m, cs, env, er, sr, OutG.bindI h fun x cs1 v H1 I1 m1 s1 p1 sr1 r1 h1 => ?_⟩
  split at h1
  · rename_i i j
    split at h1
    · rename_i hj
      obtain ⟨v1, v2, rfl, q1, q2⟩ := RpL.i2 r1
      have hl : -(2 ^ 62) ≤ i ∧ i < 2 ^ 62 := hj.1
      have hl2 : -(2 ^ 62) ≤ j ∧ j < 2 ^ 62 := hj.2
      exact ⟨i, j, by rw [rp_int.mp q1, rp_int.mp q2], ⟨hl.1, hl.2, hl2.1, hl2.2⟩, h1.okI sr1 RI.rng⟩
    · exact h1.elim
  · exact h1.elim
end
end
end DL
end

section
set_option Elab.async false
set_option linter.all false
set_option maxRecDepth 100000
set_option maxHeartbeats 4000000
namespace DL
open PySem L2
open Classical
noncomputable section

/-! ### cells let go -/
section
variable {T : Tab} {K : PySem.W.Frag} {I I' H H' : Hp} {m m' : List Addr}
mutual
theorem Rp.below : ∀ {d : D} {v : V}, Rp T K I m d v → D.lt m.length d = true
  | .non, _, _ => rfl
  | .bl _, _, _ => rfl
  | .int _, _, _ => rfl
  | .str _, _, _ => rfl
  | .tup ds, v, h => by
    unfold Rp at h; unfold D.lt
    obtain ⟨a, vs, e, q, r⟩ := h
    exact RpL.below r
  | .lst ds, v, h => by
    unfold Rp at h; unfold D.lt
    obtain ⟨a, vs, e, q, r⟩ := h
    exact RpL.below r
  | .obj c ds, v, h => by
    unfold Rp at h; unfold D.lt
    obtain ⟨a, dx, gs, e, q, k, r⟩ := h
    exact RpL.below r
  | .dic ks ds, v, h => by
    unfold Rp at h; unfold D.lt
    obtain ⟨a, gs, e, q, k, r⟩ := h
    exact RpL.below r
  | .cell k, v, h => by
    unfold Rp at h; unfold D.lt
    obtain ⟨a, e, q⟩ := h
    exact decide_eq_true (List.getElem?_eq_some_iff.mp e).1
  | .exc c ks ds, v, h => by
    unfold Rp at h; unfold D.lt
    obtain ⟨a, od, e, q, r⟩ := h
    rcases r with r | ⟨d', gs, r1, r2, r3, r4⟩
    · rw [r.2.2]; rfl
    · exact RpL.below r4
theorem RpL.below : ∀ {ds : List D} {vs : List V}, RpL T K I m ds vs → D.ltL m.length ds = true
  | [], _, _ => rfl
  | d :: ds, vs, h => by
    obtain ⟨v, r, rfl, q, k⟩ := h.inv
    unfold D.ltL
    rw [Rp.below q, RpL.below k]; rfl
end

theorem CellR.below {c : Cell} {o : HO} (h : CellR T K I m c o) : c.lt m.length = true := by
  cases c <;> cases o <;> first | exact h.elim | exact RpL.below h | exact RpL.below h.2.2 | exact RpL.below h.2
end
def trimOk (cs0 cs : List Cell) : Prop := ∀ (i : Nat) (c : Cell), i < cs0.length → cs[i]? = some c → cs0[i]? = some c ∨ c.lt cs0.length = true
def trim (cs0 cs : List Cell) (ok : Bool) : List Cell := if ok = true ∧ trimOk cs0 cs then cs.take cs0.length else cs
theorem trim_len {cs0 cs : List Cell} {b : Bool} (h : cs.length = cs0.length) : trim cs0 cs b = cs := by
  unfold trim; split
  · rw [← h]; simp
  · rfl
theorem trim_self {cs : List Cell} {b : Bool} : trim cs cs b = cs := trim_len rfl
theorem trim_app {cs e : List Cell} : trim cs (cs ++ e) true = cs := by
  unfold trim
  rw [if_pos ⟨rfl, fun i c hi e => .inl (by rw [List.getElem?_append_left hi] at e; exact e)⟩]
  simp
theorem trim_gen {cs0 cs e : List Cell} (hl : cs.length = cs0.length) (h : ∀ (i : Nat) (c : Cell), cs[i]? = some c → cs0[i]? = some c ∨ Cell.lt cs0.length c = true) : trim cs0 (cs ++ e) true = cs := by
  have ok : trimOk cs0 (cs ++ e) := fun i x hi q => by
    rw [List.getElem?_append_left (by omega)] at q
    exact h i x q
  unfold trim
  rw [if_pos ⟨rfl, ok⟩, List.take_left' hl]
theorem trim_set {cs e : List Cell} {n : Nat} {c : Cell} (hc : c.lt cs.length = true) : trim cs (cs.set n c ++ e) true = cs.set n c := by
  refine trim_gen (by simp) fun i x q => ?_
  by_cases hn : n = i
  · subst hn
    by_cases hi : n < cs.length
    · rw [List.getElem?_set_self hi] at q; cases q
      exact .inr hc
    · rw [List.getElem?_eq_none (by simpa using hi)] at q; cases q
  · rw [List.getElem?_set_ne hn] at q
    exact .inl q
section
variable {T : Tab} {K : PySem.W.Frag} {I0 I H0 H : Hp} {m0 m : List Addr} {cs0 cs : List Cell}
theorem SR.trim (s0 : SR T K I0 m0 cs0 H0) (s : SR T K I m cs H) (p : m0 <+: m) (ok : trimOk cs0 cs) : SR T K I m0 (cs.take cs0.length) H ∧ m.take cs0.length = m0 := by
  have em : m.take cs0.length = m0 := by
    obtain ⟨r, rfl⟩ := p
    rw [← s0.len]; simp
  refine ⟨?_, em⟩
  rw [← em]
  refine s.cut (List.all_eq_true.mpr fun c hc => ?_)
  obtain ⟨i, hi, e⟩ := List.getElem_of_mem hc
  have hi' : i < cs0.length := by
    rw [List.length_take] at hi; omega
  have e' : cs[i]? = some c := by
    have : (cs.take cs0.length)[i]? = some c := by rw [List.getElem?_eq_getElem hi, e]
    rw [List.getElem?_take_of_lt hi'] at this
    exact this
  rcases ok i c hi' e' with q | q
  · by_cases hg : c = .gone
    · subst hg; rfl
    · obtain ⟨a, o, _, _, _, r⟩ := s0.at_ i c q hg
      rw [← s0.len]
      exact r.below
  · exact q
end
/-! ### defs -/
abbrev FDen := List D → List Cell → Out D
def finS (cs0 : List Cell) : SO → Out D
  | .rt d cs => .ok d (trim cs0 cs (d.lt cs0.length))
  | .nx _ cs => .ok .non (trim cs0 cs true)
  | .ex c ks fs _ cs => .exn c ks fs (trim cs0 cs (D.ltL cs0.length fs))
  | _ => .no
def env0 (N : Nat) (ds : List D) : Env := ds.map some ++ List.replicate (N - ds.length) none
def mkF (N np : Nat) (b : SDen) : FDen := fun ds cs => if ds.length = np then finS cs (b (env0 N ds) cs) else .no
def spD (T : Tab) (K : PySem.W.Frag) (np : Nat) (den : FDen) : Sp := fun vs H Q E => vs.length = np ∧ ∃ I m cs ds, SR T K I m cs H ∧ RpL T K I m ds vs ∧ OutG T K (RD T K) I m (den ds cs) Q E
/-- a def by its denotation -/
structure DF (P : Program) (w : World) (K : PySem.W.Frag) (mg : PySem.Str → Option Value) (base : Heap) (T : Tab) (k : Nat) (f : Addr) (np : Nat) (den : FDen) : Prop where
  ex : ∃ fd ps, ps.length = np ∧ FnOk P w K mg base (L2.CX P w) k f fd ps (spD T K np den) ∧ Binds K fd ps []
  kp : PySem.W.keepIn K (.ref f) = true
  len : ∀ ds cs, ds.length ≠ np → den ds cs = .no
section
variable {P : Program} {w : World} {K : PySem.W.Frag} {mg : PySem.Str → Option Value} {base : Heap} {T : Tab}
theorem RpL.at_ {I : Hp} {m : List Addr} {ds : List D} {vs : List V} {i : Nat} {d : D} (h : RpL T K I m ds vs) (e : ds[i]? = some d) : ∃ v, vs[i]? = some v ∧ Rp T K I m d v := h.get e
theorem er_start {I : Hp} {m : List Addr} {N : List PySem.Str} {ds : List D} {vs : List V} (h : RpL T K I m ds vs) (hl : vs.length ≤ N.length) : ER T K I m (env0 N.length ds) (L2.start N vs) := by
  have l := h.length
  refine ⟨by unfold env0 L2.start; simp; omega, fun i d e => ?_⟩
  unfold env0 at e
  unfold L2.start
  by_cases hi : i < ds.length
  · rw [List.getElem?_append_left (by simpa using hi), List.getElem?_map] at e
    cases q : ds[i]? with
    | none => rw [q] at e; cases e
    | some d' =>
      rw [q] at e
      simp only [Option.map_some, Option.some.injEq] at e
      subst e
      obtain ⟨v, e1, r⟩ := h.get q
      refine ⟨v, ?_, r⟩
      rw [List.getElem?_append_left (by simp; omega), List.getElem?_map, e1]; rfl
  · rw [List.getElem?_append_right (by simpa using hi), List.getElem?_replicate] at e
    split at e <;> cases e
theorem sok_fin {I H : Hp} {m : List Addr} {cs : List Cell} {o : SO} {Q : VK} {E : XK} (sr : SR T K I m cs H) (h : OutG T K (RD T K) I m (finS cs o) Q E) :
    SOk T K (fun cls d _ H => E cls d H) I m o { nx := fun _ H' => Q .non H', rt := Q } := by
  cases o with
  | nx env cs1 =>
    intro σ' H' I' m' s p sr' er
    change OutG T K (RD T K) I m (.ok .non (if true = true ∧ trimOk cs cs1 then cs1.take cs.length else cs1)) Q E at h
    by_cases ok : true = true ∧ trimOk cs cs1
    · rw [if_pos ok] at h
      obtain ⟨sr2, em⟩ := SR.trim sr sr' p ok.2
      exact h .non H' I' m s (List.prefix_refl _) sr2 (rp_non.mpr rfl)
    · rw [if_neg ok] at h
      exact h .non H' I' m' s p sr' (rp_non.mpr rfl)
  | rt d cs1 =>
    intro v H' I' m' s p sr' r
    change OutG T K (RD T K) I m (.ok d (if d.lt cs.length = true ∧ trimOk cs cs1 then cs1.take cs.length else cs1)) Q E at h
    by_cases ok : d.lt cs.length = true ∧ trimOk cs cs1
    · rw [if_pos ok] at h
      obtain ⟨sr2, em⟩ := SR.trim sr sr' p ok.2
      have r2 := Rp.cut (n := cs.length) ok.1 r
      rw [em] at r2
      exact h v H' I' m s (List.prefix_refl _) sr2 r2
    · rw [if_neg ok] at h
      exact h v H' I' m' s p sr' r
  | bk => exact h.elim
  | ct => exact h.elim
  | ex c ks fs env cs1 =>
    intro cls od σ' H' I' m' s p sr' er r
    change OutG T K (RD T K) I m (.exn c ks fs (if D.ltL cs.length fs = true ∧ trimOk cs cs1 then cs1.take cs.length else cs1)) Q E at h
    by_cases ok : D.ltL cs.length fs = true ∧ trimOk cs cs1
    · rw [if_pos ok] at h
      obtain ⟨sr2, em⟩ := SR.trim sr sr' p ok.2
      refine h cls od H' I' m s (List.prefix_refl _) sr2 ?_
      refine ⟨r.1, ?_⟩
      rcases r.2 with z | ⟨d, gs, r1, r2, r3, r4⟩
      · exact .inl z
      · have r5 := RpL.cut (n := cs.length) ok.1 r4
        rw [em] at r5
        exact .inr ⟨d, gs, r1, r2, r3, r5⟩
    · rw [if_neg ok] at h
      exact h cls od H' I' m' s p sr' r
  | no => exact h.elim
theorem df_mk {x qual : PySem.Str} {params : Arguments} {body : List Stmt} {scope : Scope} {f : Addr} {N ps : List PySem.Str} {n np k : Nat} {b : SDen} (F : ∃ fd, FunD K x qual params body scope [] [] f fd) (S : FnScope N ps scope) (hn : N.length = n := by rfl) (hp : ps.length = np := by rfl)
    (hb : ∀ (kV doc pm : Value) (an : Option Addr) (cdv ct : Value) (us : List Value), us.length = ps.length → bindArgs (PySem.W.fnOf x qual params body scope .none kV doc pm an cdv ct) ⟨us, []⟩ = pure (ps.zip us))
    (hbody : ∀ (cdv : Value) (A : Around) (outer : List PySem.Env) (s : Shared) (H : Hp) (E : XK), Room k (A.deeper (PyProof.Rows.envOfC qual scope s.heap.objs.size f cdv)) →
      DSs (cxOf (L2.CX P w) P w K mg base N qual scope f cdv A outer s H E) T (fun cls d _ H => E cls d H) body b) : DF P w K mg base T (k + 1) f np (mkF n np b) := by
  subst hn hp
  obtain ⟨fd, F⟩ := F
  have hpl : ps.length ≤ N.length := by have := congrArg List.length S.pre; rw [List.length_take] at this; omega
  refine ⟨⟨fd, ps, rfl, F.ok S (fun vs H Q E h => h.1) (fun cdv A outer s H vs Q E hr h => ⟨_, hbody cdv A outer s H E hr, ?_⟩), F.bindsN hb⟩, F.kp, fun ds cs hn => if_neg hn⟩
  obtain ⟨hl, I, m, cs, ds, sr, r, h⟩ := h
  refine ⟨I, m, cs, env0 N.length ds, er_start r (by omega), sr, ?_⟩
  unfold mkF at h
  rw [if_pos (by rw [r.length]; exact hl)] at h
  exact sok_fin sr h
end
theorem DF.argn {P : Program} {w : World} {K : PySem.W.Frag} {mg : PySem.Str → Option Value} {base : Heap} {T : Tab} {k np : Nat} {f : Addr} {den : FDen} (c : DF P w K mg base T k f np den) {I : Hp} {m : List Addr} {ds : List D} {vs : List V} {cs : List Cell} {Q : VK} {E : XK}
    (r : RpL T K I m ds vs) (h : OutG T K (RD T K) I m (den ds cs) Q E) : vs.length = np := by
  by_cases hl : ds.length = np
  · rw [← r.length]; exact hl
  · rw [c.len ds cs hl] at h; exact h.elim
/-! ### calls -/
section
variable {X : Cx} {T : Tab} {W : WX} {k j np : Nat} {x m : PySem.Str} {f : Addr} {den : FDen} {e o : Expr} {es : List Expr} {g : Den (List D)} {fo : Den D} {p pos apos : Pos}
def dFn (den : FDen) (g : Den (List D)) : Den D := fun env cs => (g env cs).bind fun ds cs => den ds cs
theorem de_call (c : DF X.prog X.w X.K X.mg X.base T k f np den) (hm : X.mg x = some (.ref f)) (hr : Room j X.A) (tk : Takes X W) (ha : DA X T W (e :: es) g) (hk : k ≤ j := by decide) (hg : Gl X x := by rfl)
    (hdb : (x == ("__debug__" : PySem.Str)) = false := by decide) (he : starEach (e :: es) X.env = (false, eval e X.env) :: starEach es X.env := by rfl) (hpl : (backTo pos (starEach es X.env)).any (·.1) = false := by rfl) :
    DE X T W (.Call (.Name x p) (e :: es) [] pos) (dFn den g) := by
  obtain ⟨fd, ps, hl, F, hb⟩ := c.ex
  refine PE.imp (pe_callS (E := WE W) F (hr.mono hk) hg hm c.kp hb (passAt tk) ha hdb he hpl) ?_
  rintro σ H Q ⟨I, m, cs, env, er, sr, h⟩
  exact ⟨I, m, cs, env, er, sr, OutG.bindI h fun ds cs1 vs H1 I1 m1 s1 p1 sr1 r1 h1 => ⟨c.argn r1 h1, I1, m1, cs1, ds, sr1, r1, h1⟩⟩
end
end
end DL
end

section
set_option Elab.async false
set_option linter.all false
set_option maxRecDepth 100000
set_option maxHeartbeats 4000000
namespace L2
open PySem PySem.Spec PyProof.Rows
section
variable {X : Cx} {CX : CXT} {k : Nat} {f C : Addr} {fd : FuncData} {ps : List Str} {sp : Sp} {E : St → XK} {x m : Str} {p pos apos : Pos} {e o : Expr} {es : List Expr} {ta : TE} {t : TA}
theorem pe_callS0 (F : FnOk X.prog X.w X.K X.mg X.base CX k f fd ps sp) (hr : Room k X.A) (hg : Gl X x) (hm : X.mg x = some (.ref f)) (hk : PySem.W.keepIn X.K (.ref f) = true) (hb : Binds X.K fd ps []) (hx : ∀ σ, PassesAt CX X σ (E σ))
    (hdb : (x == ("__debug__" : Str)) = false := by decide) : PE X (.Call (.Name x p) [] [] pos) (tCallS sp E tNil) := by
  refine ⟨fun pins s σ H Q I h => ?_⟩
  refine wpAny_Call_Name_kw (ld_glob I hg hm ?_ hdb)
  exact PySem.W.callWith_K0 I.kIn hk (run_fnS (us := []) F hr hb (hx σ) I .nil h)
/-- o.m(..), the class found as it runs -/
def tMethQ (X : Cx) (CX : CXT) (k : Nat) (m : Str) (E : St → XK) (ta : TE) (t : TA) : TE := fun σ H Q => ta σ H fun x H1 => ∃ (a C dx : Addr) (fs : List (Str × V)) (f : Addr) (fd : FuncData) (ps : List Str) (sp : Sp), x = .ref a ∧ H1 a = some (.ins C dx fs) ∧ fs.lookup m = none ∧
  Cls X.K C ∧ Meth X.K C m f ∧ FnOk X.prog X.w X.K X.mg X.base CX k f fd ps sp ∧ Binds X.K fd ps [] ∧ t σ H1 fun vs H2 => sp (x :: vs) H2 Q (E σ)
theorem pe_methQ {pl : Sem Bool} (he : PE X o ta) (hr : Room k X.A) (hx : ∀ σ, PassesAt CX X σ (E σ)) (ha : PA X (e :: es) t)
    (hst : starEach (e :: es) X.env = (false, eval e X.env) :: starEach es X.env := by rfl) (hpl : (backTo pos (starEach es X.env)).any (·.1) = false := by rfl)
    (ht : eval (.Call (.Attribute o m apos) (e :: es) [] pos) X.env = (do
      let ov ← eval o X.env
      standAt apos.atName
      let (f, first) ← holding [ov] (getMethod ov m pl)
      callWith pos f first (backTo pos (starEach (e :: es) X.env)) (backToKw pos (keywordEach [] X.env))) := by rfl) :
    PE X (.Call (.Attribute o m apos) (e :: es) [] pos) (tMethQ X CX k m E ta t) := by
  refine ⟨fun pins s σ H Q I h => ?_⟩
  refine PySem.W.methodCall_KW (pl := pl) (thn (he.run pins s σ H _ I h) fun u s1 ⟨x, H1, I1, rx, a, C, dx, fs, f, fd, ps, sp, ex, ea, l, c, hm, F, hb, q⟩ => ?_) ht
  subst ex
  obtain rfl : u = Value.ref a := rx
  refine getmeth_ok I1 ea c hm l ?_
  refine PySem.W.callWith_K (first := [.ref a]) (h₀ := X.base) I.ok.mod.kin hm.kp (thn (ha.run pos pins s1 σ H1 _ I1 q) fun us s2 ⟨vs, H2, I2, r, q2⟩ => ⟨I2.kIn, ?_⟩) hst hpl
  exact run_fnS (us := .ref a :: us) (vs := .ref a :: vs) F hr hb (hx σ) I2 (.cons rfl r) q2
theorem pe_methQ0 {pl : Sem Bool} (he : PE X o ta) (hr : Room k X.A) (hx : ∀ σ, PassesAt CX X σ (E σ))
    (ht : eval (.Call (.Attribute o m apos) [] [] pos) X.env = (do
      let ov ← eval o X.env
      standAt apos.atName
      let (f, first) ← holding [ov] (getMethod ov m pl)
      callWith pos f first (backTo pos (starEach [] X.env)) (backToKw pos (keywordEach [] X.env))) := by rfl) :
    PE X (.Call (.Attribute o m apos) [] [] pos) (tMethQ X CX k m E ta tNil) := by
  refine ⟨fun pins s σ H Q I h => ?_⟩
  refine PySem.W.methodCall_KW (pl := pl) (thn (he.run pins s σ H _ I h) fun u s1 ⟨x, H1, I1, rx, a, C, dx, fs, f, fd, ps, sp, ex, ea, l, c, hm, F, hb, q⟩ => ?_) ht
  subst ex
  obtain rfl : u = Value.ref a := rx
  refine getmeth_ok I1 ea c hm l ?_
  exact PySem.W.callWith_K0 (first := [.ref a]) I1.kIn hm.kp (run_fnS (us := [.ref a]) (vs := [.ref a]) F hr hb (hx σ) I1 (.cons rfl .nil) q)
/-- C(..) -/
theorem run_makeS {pins : List (Addr × Obj)} {σ : St} {H : Hp} {s : Shared} {Q : VK} {us : List Value} {vs : List V} {E : XK} (M : Mk X.K C f) (F : FnOk X.prog X.w X.K X.mg X.base CX k f fd ps sp) (hr : Room (k + 1) X.A) (hb : Binds X.K fd ps [])
    (hx : PassesAt CX X σ E) (I : Inv X pins σ H s) (r : Vals vs us)
    (h : ∀ x dx, H x = none → H dx = none → dx ≠ x → sp (.ref x :: vs) (upd (upd H dx (.own x)) x (.ins C dx [])) (fun v H2 => v = .non ∧ Q (.ref x) H2) E) :
    wpAny (model X.prog X.w) X.A (call (.ref C) us) (EP X pins σ Q) X.xe s := by
  have hq := h (s.heap.objs.size + 1) s.heap.objs.size (I.hok.fresh (Nat.le_succ _)) (I.hok.fresh (Nat.le_refl _)) (Nat.ne_of_lt (Nat.lt_succ_self _))
  have I2 := Inv.made (C := C) I
  have r2 : Vals (V.ref (s.heap.objs.size + 1) :: vs) (Value.ref (s.heap.objs.size + 1) :: us) := .cons rfl r
  have hl : (Value.ref (s.heap.objs.size + 1) :: us).length = ps.length := by
    have e := r2.length
    rw [F.len _ _ _ _ hq] at e
    exact e.symm
  have hb2 := hb _ (Value.ref (s.heap.objs.size + 1) :: us) I2.kIn (by rw [List.append_nil]; exact hl)
  rw [List.append_nil] at hb2
  refine wpAny_call (make_map (f := f) I.kIn M.makes M.init (beq_iff_eq.mp M.fn) (codeAny_mono (F.run _ X.stack _ _ ⟨Value.ref (s.heap.objs.size + 1) :: us, []⟩ (Value.ref (s.heap.objs.size + 1) :: us) _ _ E (hr.make C us [])
    (I2.env0.make C us []) hb2 r2 hq) fun r s' hq' => ?_))
  cases r with
  | error e => exact hx pins _ _ e s' I2 hq'
  | ok fl =>
    cases fl with
    | ret u =>
      obtain ⟨v, H', I3, rv, ev, q3⟩ := I2.after hq'
      subst ev
      exact ⟨rv, ⟨V.ref (s.heap.objs.size + 1), H', I3, rfl, q3⟩⟩
    | next => exact False.elim hq'
    | brk => exact False.elim hq'
    | cont => exact False.elim hq'
def tMakeS (C : Addr) (sp : Sp) (E : St → XK) (t : TA) : TE := fun σ H Q => t σ H fun vs H1 => ∀ x dx, H1 x = none → H1 dx = none → dx ≠ x →
  sp (.ref x :: vs) (upd (upd H1 dx (.own x)) x (.ins C dx [])) (fun v H2 => v = .non ∧ Q (.ref x) H2) (E σ)
theorem pe_makeS (M : Mk X.K C f) (F : FnOk X.prog X.w X.K X.mg X.base CX k f fd ps sp) (hr : Room (k + 1) X.A) (hg : Gl X x) (hm : X.mg x = some (.ref C)) (hb : Binds X.K fd ps []) (hx : ∀ σ, PassesAt CX X σ (E σ))
    (ha : PA X (e :: es) t) (hdb : (x == ("__debug__" : Str)) = false := by decide) (he : starEach (e :: es) X.env = (false, eval e X.env) :: starEach es X.env := by rfl) (hpl : (backTo pos (starEach es X.env)).any (·.1) = false := by rfl) :
    PE X (.Call (.Name x p) (e :: es) [] pos) (tMakeS C sp E t) := by
  refine ⟨fun pins s σ H Q I h => ?_⟩
  refine wpAny_Call_Name_kw (ld_glob I hg hm ?_ hdb)
  refine PySem.W.callWith_K (h₀ := X.base) I.ok.mod.kin M.kp (thn (ha.run pos pins s σ H _ I h) fun us s1 ⟨vs, H1, I1, r, q⟩ => ⟨I1.kIn, ?_⟩) he hpl
  exact run_makeS M F hr hb (hx σ) I1 r q
/-- C(), a class that has no __init__ but object's -/
structure Mk0 (K : PySem.W.Frag) (C : Addr) : Prop where
  makes : PySem.W.makesIn K C = true
  init : PySem.W.findIn K (.ref C) "__init__" = some (some (.builtin "object.__init__"))
  kp : PySem.W.keepIn K (.ref C) = true
def tMake0 (C : Addr) : TE := fun σ H Q => ∀ x dx, H x = none → H dx = none → dx ≠ x → Q (.ref x) (upd (upd H dx (.own x)) x (.ins C dx []))
theorem run_make0 {pins : List (Addr × Obj)} {σ : St} {H : Hp} {s : Shared} {Q : VK} (M : Mk0 X.K C) (I : Inv X pins σ H s) (h : tMake0 C σ H Q) : wpAny (model X.prog X.w) X.A (call (.ref C) []) (EP X pins σ Q) X.xe s := by
  have hq := h (s.heap.objs.size + 1) s.heap.objs.size (I.hok.fresh (Nat.le_succ _)) (I.hok.fresh (Nat.le_refl _)) (Nat.ne_of_lt (Nat.lt_succ_self _))
  have I2 := Inv.made (C := C) I
  have Y := PySem.W.makes_of (M := model X.prog X.w) I.kIn M.makes
  have e2 : ((s.heap.push PySem.W.emptyDict).push (PySem.W.instObj C s.heap.objs.size)).get? (s.heap.objs.size + 1) = some (PySem.W.instObj C s.heap.objs.size) := by
    have := Heap.get?_push_size (s.heap.push PySem.W.emptyDict) (o := PySem.W.instObj C s.heap.objs.size) rfl
    rwa [Heap.size_push] at this
  have t1 : PySem.W.Looks (model X.prog X.w) ((s.heap.push PySem.W.emptyDict).push (PySem.W.instObj C s.heap.objs.size)) (typeOf (.ref (s.heap.objs.size + 1))) (.ref C) := (PySem.W.Looks.ld e2).andThen .now
  have t2 : PySem.W.Looks (model X.prog X.w) ((s.heap.push PySem.W.emptyDict).push (PySem.W.instObj C s.heap.objs.size)) (isInstance (.ref (s.heap.objs.size + 1)) (.type "object")) true :=
    t1.andThen (Y.top.keeps fun b o e => Heap.get?_push_of_some _ (Heap.get?_push_of_some _ e))
  refine wpAny_call (make_map0 I.kIn M.makes M.init (fun self => PySem.W.Looks.of_pure (PySem.W.oi_bind self)) ?_)
  refine codeAny_call_builtin PySem.W.oi_plain PySem.W.entry_oi (@PySem.W.check_slot (model X.prog X.w) _ _ _ "object.__init__" "object" "__init__" (.ref (s.heap.objs.size + 1)) [] [] _ PySem.W.oi_kind PySem.W.oi_split t2 (PySem.W.oi_args (.ref (s.heap.objs.size + 1))) ?_)
  rw [PySem.W.oi_run]
  exact wpAny_pure (And.intro rfl ⟨.ref (s.heap.objs.size + 1), _, I2, rfl, hq⟩)
theorem pe_make00 (M : Mk0 X.K C) (hg : Gl X x) (hm : X.mg x = some (.ref C)) (hdb : (x == ("__debug__" : Str)) = false := by decide) : PE X (.Call (.Name x p) [] [] pos) (tMake0 C) := by
  refine ⟨fun pins s σ H Q I h => ?_⟩
  refine wpAny_Call_Name_kw (ld_glob I hg hm ?_ hdb)
  exact PySem.W.callWith_K0 I.kIn M.kp (run_make0 M I h)
end
end L2
namespace DL
open PySem L2
open Classical
noncomputable section
section
variable {X : Cx} {T : Tab} {W : WX} {k j np c : Nat} {x m : PySem.Str} {f : Addr} {den : FDen} {e o : Expr} {es : List Expr} {g : Den (List D)} {fo : Den D} {p pos apos : Pos}
theorem de_call0 (c : DF X.prog X.w X.K X.mg X.base T k f np den) (hm : X.mg x = some (.ref f)) (hr : Room j X.A) (tk : Takes X W) (hk : k ≤ j := by decide) (hg : Gl X x := by rfl)
    (hdb : (x == ("__debug__" : PySem.Str)) = false := by decide) : DE X T W (.Call (.Name x p) [] [] pos) (fun _ cs => den [] cs) := by
  obtain ⟨fd, ps, hl, F, hb⟩ := c.ex
  refine PE.imp (pe_callS0 (E := WE W) F (hr.mono hk) hg hm c.kp hb (passAt tk) hdb) ?_
  rintro σ H Q ⟨I, m, cs, env, er, sr, h⟩
  exact ⟨c.argn RpL.nil h, I, m, cs, [], sr, RpL.nil, h⟩
/-! ### methods -/
/-- the class of an object, and no attribute hides the method -/
def clsOf (od : Nat → List Nat) (cs : List Cell) (x : D) : Option Nat := match x with
  | .obj c _ => some c
  | .cell n => match cs[n]? with
    | some (.ins c ks _) => if ks.all (fun k => decide (k ∈ od c)) = true then some c else none
    | _ => none
  | _ => none
theorem lookup_none {T : Tab} {ks : List Nat} {gs : List (PySem.Str × V)} {m : PySem.Str} (e : gs.map (·.1) = ks.map T.nm) (h : ∀ i ∈ ks, T.nm i ≠ m) : gs.lookup m = none := by
  induction gs generalizing ks with
  | nil => rfl
  | cons g gs ih =>
    cases ks with
    | nil => simp at e
    | cons k ks =>
      simp only [List.map_cons, List.cons.injEq] at e
      obtain ⟨e1, e2⟩ := e
      rw [List.lookup_cons]
      have hne : (m == g.1) = false := by
        have h0 := h k List.mem_cons_self
        rw [← e1] at h0
        simpa using fun z => h0 (by first | exact z.symm | exact z)
      rw [hne]
      exact ih e2 fun i hi => h i (List.mem_cons_of_mem _ hi)
theorem clsOf_ok {K : PySem.W.Frag} {I H : Hp} {mm : List Addr} {cs : List Cell} {x : D} {v : V} {m : PySem.Str} (sr : SR T K I mm cs H) (r : Rp T K I mm x v) (h : clsOf T.od cs x = some c) (hm : ∀ i ∈ T.od c, T.nm i ≠ m) :
    ∃ (a dx : Addr) (fs : List (PySem.Str × V)), v = .ref a ∧ H a = some (.ins (T.ca c) dx fs) ∧ fs.lookup m = none := by
  unfold clsOf at h
  split at h
  · cases h
    unfold Rp at r
    obtain ⟨a, dx, gs, rfl, q, k, r⟩ := r
    exact ⟨a, dx, gs, rfl, sr.same _ _ q, lookup_none k hm⟩
  · rename_i n
    split at h
    · rename_i c' ks ds hc
      split at h
      · rename_i hk
        cases h
        obtain ⟨a, e1, rfl⟩ := rp_cell.mp r
        obtain ⟨a', ob, q1, q2, q3, q4⟩ := sr.at_ n _ hc (by intro z; cases z)
        rw [e1] at q1; cases q1
        cases ob with
        | ins C dx gs =>
          obtain ⟨rfl, q5, q6⟩ := q4
          exact ⟨a, dx, gs, rfl, q3, lookup_none q5 fun i hi => hm i (by simpa using List.all_eq_true.mp hk i hi)⟩
        | _ => exact q4.elim
      · cases h
    · cases h
  · cases h
/-- which def the method is, by class -/
abbrev Disp := Nat → Option FDen
structure DM (X : Cx) (T : Tab) (k : Nat) (m : PySem.Str) (np : Nat) (disp : Disp) : Prop where
  at_ : ∀ c den, disp c = some den → (∀ i ∈ T.od c, T.nm i ≠ m) ∧ Cls X.K (T.ca c) ∧ ∃ f, Meth X.K (T.ca c) m f ∧ DF X.prog X.w X.K X.mg X.base T k f np den
def dMth (od : Nat → List Nat) (disp : Disp) (fo : Den D) (g : Den (List D)) : Den D := fun env cs => (fo env cs).bind fun x cs => match clsOf od cs x with
  | some c => (match disp c with
    | some den => (g env cs).bind fun ds cs => den (x :: ds) cs
    | none => .no)
  | none => .no
theorem tMethQ_of {od : Nat → List Nat} (hod : T.od = od) {disp : Disp} (M : DM X T k m np disp) {ta : TE} {t : TA} (e1 : ta = tG T X.K W (RD T X.K) fo) (e2 : t = tG T X.K W (RL T X.K) g) :
    ∀ σ H Q, tG T X.K W (RD T X.K) (dMth od disp fo g) σ H Q → tMethQ X (L2.CX X.prog X.w) k m (WE W) ta t σ H Q := by
  subst e1 e2 hod
  rintro σ H Q ⟨I, mm, cs, env, er, sr, h⟩
  refine ⟨I, mm, cs, env, er, sr, OutG.bindI h fun x cs1 v H1 I1 m1 s1 p1 sr1 r1 h1 => ?_⟩
  split at h1
  · rename_i c hc
    split at h1
    · rename_i den hd
      obtain ⟨hn, C, f, Me, F⟩ := M.at_ c den hd
      obtain ⟨a, dx, fs, rfl, ea, hl⟩ := clsOf_ok sr1 r1 hc hn
      obtain ⟨fd, ps, hl2, Fn, hb⟩ := F.ex
      refine ⟨a, T.ca c, dx, fs, f, fd, ps, _, rfl, ea, hl, C, Me, Fn, hb, I1, m1, cs1, env, er.mono s1 p1, sr1, OutG.bindI h1 fun ds cs2 vs H2 I2 m2 s2 p2 sr2 r2 h2 => ?_⟩
      have r3 := RpL.cons (r1.mono s2 p2) r2
      exact ⟨F.argn r3 h2, I2, m2, cs2, x :: ds, sr2, r3, h2⟩
    · exact h1.elim
  · exact h1.elim
theorem de_meth {od : Nat → List Nat} (hod : T.od = od) {disp : Disp} {pl : Sem Bool} (M : DM X T k m np disp) (hr : Room j X.A) (tk : Takes X W) (ho : DE X T W o fo) (ha : DA X T W (e :: es) g) (hk : k ≤ j := by decide)
    (hst : starEach (e :: es) X.env = (false, eval e X.env) :: starEach es X.env := by rfl) (hpl : (backTo pos (starEach es X.env)).any (·.1) = false := by rfl)
    (ht : eval (.Call (.Attribute o m apos) (e :: es) [] pos) X.env = (do
      let ov ← eval o X.env
      standAt apos.atName
      let (f, first) ← holding [ov] (getMethod ov m pl)
      callWith pos f first (backTo pos (starEach (e :: es) X.env)) (backToKw pos (keywordEach [] X.env))) := by rfl) :
    DE X T W (.Call (.Attribute o m apos) (e :: es) [] pos) (dMth od disp fo g) :=
  PE.imp (pe_methQ (pl := pl) (CX := L2.CX X.prog X.w) ho (hr.mono hk) (passAt tk) ha hst hpl ht) (tMethQ_of hod M rfl rfl)
theorem de_meth0 {od : Nat → List Nat} (hod : T.od = od) {disp : Disp} {pl : Sem Bool} (M : DM X T k m np disp) (hr : Room j X.A) (tk : Takes X W) (ho : DE X T W o fo) (hk : k ≤ j := by decide)
    (ht : eval (.Call (.Attribute o m apos) [] [] pos) X.env = (do
      let ov ← eval o X.env
      standAt apos.atName
      let (f, first) ← holding [ov] (getMethod ov m pl)
      callWith pos f first (backTo pos (starEach [] X.env)) (backToKw pos (keywordEach [] X.env))) := by rfl) :
    DE X T W (.Call (.Attribute o m apos) [] [] pos) (dMth od disp fo dNil) := by
  refine PE.imp (pe_methQ0 (pl := pl) (CX := L2.CX X.prog X.w) ho (hr.mono hk) (passAt tk) ht) ?_
  intro σ H Q h
  have h2 := tMethQ_of (W := W) (fo := fo) (g := dNil) hod M rfl rfl σ H Q h
  obtain ⟨I, mm, cs, env, er, sr, h2⟩ := h2
  refine ⟨I, mm, cs, env, er, sr, ?_⟩
  revert h2
  cases fo env cs with
  | no => exact id
  | exn => exact id
  | ok d cs =>
    intro h2 v H' I' m' s p sr' r'
    obtain ⟨a, C, dx, fs, f, fd, ps, sp, q1, q2, q3, q4, q5, q6, q7, I2, m2, cs2, env2, er2, sr2, h3⟩ := h2 v H' I' m' s p sr' r'
    exact ⟨a, C, dx, fs, f, fd, ps, sp, q1, q2, q3, q4, q5, q6, q7, h3 [] H' I2 m2 (Same.refl _) (List.prefix_refl _) sr2 RpL.nil⟩

/-! ### instances made -/
/-- C(..), frozen behind its __init__ -/
def mkO (od : Nat → List Nat) (c : Nat) (den : FDen) : FDen := fun ds cs => match den (.cell cs.length :: ds) (cs ++ [.ins c [] []]) with
  | .ok .non cs' => (match cs'[cs.length]? with
    | some (.ins c' ks fs) => if c' = c ∧ ks = od c then .ok (.obj c fs) (trim cs (cs'.set cs.length .gone) (D.ltL cs.length fs)) else .no
    | _ => .no)
  | .exn c ks fs cs' => .exn c ks fs (trim cs cs' (D.ltL cs.length fs))
  | _ => .no
/-- C(..), a cell -/
def mkC (c : Nat) (den : FDen) : FDen := fun ds cs => match den (.cell cs.length :: ds) (cs ++ [.ins c [] []]) with
  | .ok .non cs' => .ok (.cell cs.length) cs'
  | .exn c ks fs cs' => .exn c ks fs (trim cs cs' (D.ltL cs.length fs))
  | _ => .no
theorem ExR.cut {K : PySem.W.Frag} {I : Hp} {m : List Addr} {c : Nat} {ks : List Nat} {fs : List D} {cls : Value} {od : Option Addr} {n : Nat} (l : D.ltL n fs = true) (r : ExR T K I m c ks fs cls od) : ExR T K I (m.take n) c ks fs cls od := by
  refine ⟨r.1, ?_⟩
  rcases r.2 with z | ⟨d, gs, r1, r2, r3, r4⟩
  · exact .inl z
  · exact .inr ⟨d, gs, r1, r2, r3, RpL.cut l r4⟩
/-- an exception's end with cells let go -/
theorem exn_trim {α β : Type} {K : PySem.W.Frag} {R : Hp → List Addr → α → β → Prop} {I0 I H0 H : Hp} {m0 m : List Addr} {cs0 cs : List Cell} {c : Nat} {ks : List Nat} {fs : List D} {cls : Value} {od : Option Addr} {Q : β → Hp → Prop} {E : XK}
    (sr0 : SR T K I0 m0 cs0 H0) (h : OutG T K R I0 m0 (.exn c ks fs (trim cs0 cs (D.ltL cs0.length fs)) : Out α) Q E) (s : Same I0 I) (p : m0 <+: m) (sr : SR T K I m cs H) (r : ExR T K I m c ks fs cls od) : E cls od H := by
  unfold trim at h
  by_cases ok : D.ltL cs0.length fs = true ∧ trimOk cs0 cs
  · rw [if_pos ok] at h
    obtain ⟨sr2, em⟩ := SR.trim sr0 sr p ok.2
    have r2 := ExR.cut (n := cs0.length) ok.1 r
    rw [em] at r2
    exact h cls od H I m0 s (List.prefix_refl _) sr2 r2
  · rw [if_neg ok] at h
    exact h cls od H I m s p sr r
theorem ok_trim {β : Type} {K : PySem.W.Frag} {I0 I H0 H : Hp} {m0 m : List Addr} {cs0 cs : List Cell} {d : D} {v : V} {Q : V → Hp → Prop} {E : XK} {b : Bool}
    (sr0 : SR T K I0 m0 cs0 H0) (h : OutG T K (RD T K) I0 m0 (.ok d (trim cs0 cs b)) Q E) (hb : b = true → d.lt cs0.length = true) (s : Same I0 I) (p : m0 <+: m) (sr : SR T K I m cs H) (r : Rp T K I m d v) : Q v H := by
  unfold trim at h
  by_cases ok : b = true ∧ trimOk cs0 cs
  · rw [if_pos ok] at h
    obtain ⟨sr2, em⟩ := SR.trim sr0 sr p ok.2
    have r2 := Rp.cut (n := cs0.length) (hb ok.1) r
    rw [em] at r2
    exact h v H I m0 s (List.prefix_refl _) sr2 r2
  · rw [if_neg ok] at h
    exact h v H I m s p sr r
structure DK (X : Cx) (T : Tab) (k c np : Nat) (den : FDen) : Prop where
  ini : ∃ f, Mk X.K (T.ca c) f ∧ DF X.prog X.w X.K X.mg X.base T k f (np + 1) den
theorem mk_start {K : PySem.W.Frag} {I H : Hp} {m : List Addr} {cs : List Cell} {x dx : Addr} (sr : SR T K I m cs H) (hx : H x = none) (hd : H dx = none) (hne : dx ≠ x) :
    SR T K (upd I dx (.own x)) (m ++ [x]) (cs ++ [.ins c [] []]) (upd (upd H dx (.own x)) x (.ins (T.ca c) dx [])) ∧ Same I (upd I dx (.own x)) ∧ Rp T K (upd I dx (.own x)) (m ++ [x]) (.cell cs.length) (.ref x) := by
  obtain ⟨sr1, s1⟩ := sr.newI (o := .own x) hd
  have sr2 := sr1.newC (o := .ins (T.ca c) dx []) (c := .ins c [] []) (p := x) (by rw [upd_ne (Ne.symm hne)]; exact hx) ⟨rfl, rfl, RpL.nil⟩
  exact ⟨sr2, s1, rp_cell.mpr ⟨x, by rw [← sr.len]; simp, rfl⟩⟩
theorem tMakeS_of {den den' : FDen} {C : Addr} {np' : Nat} (hC : C = T.ca c) (hl : ∀ ds cs, ds.length ≠ np' → den ds cs = .no)
    (key : ∀ (I H : Hp) (mm : List Addr) (cs : List Cell) (ds : List D) (vs : List V) (Q : VK) (E : XK), SR T X.K I mm cs H → RpL T X.K I mm ds vs → OutG T X.K (RD T X.K) I mm (den' ds cs) Q E →
      ∀ x dx, H x = none → H dx = none → dx ≠ x → OutG T X.K (RD T X.K) (upd I dx (.own x)) (mm ++ [x]) (den (.cell cs.length :: ds) (cs ++ [.ins c [] []])) (fun v H2 => v = .non ∧ Q (.ref x) H2) E)
    {t : TA} (e2 : t = tG T X.K W (RL T X.K) g) : ∀ σ H Q, tG T X.K W (RD T X.K) (dFn den' g) σ H Q → tMakeS C (spD T X.K np' den) (WE W) t σ H Q := by
  subst e2 hC
  rintro σ H Q ⟨I, mm, cs, env, er, sr, h⟩
  refine ⟨I, mm, cs, env, er, sr, OutG.bindI h fun ds cs1 vs H1 I1 m1 s1 p1 sr1 r1 h1 => ?_⟩
  intro x dx hx hd hne
  have h2 := key I1 H1 m1 cs1 ds vs Q _ sr1 r1 h1 x dx hx hd hne
  obtain ⟨sr2, s2, rx⟩ := mk_start (c := c) sr1 hx hd hne
  have r3 := RpL.cons rx (RpL.mono s2 (List.prefix_append _ _) r1)
  refine ⟨?_, _, _, _, _, sr2, r3, h2⟩
  by_cases hz : (D.cell cs1.length :: ds).length = np'
  · rw [← r3.length]; exact hz
  · rw [hl _ _ hz] at h2; exact h2.elim
theorem mkO_key {od : Nat → List Nat} (hod : T.od = od) {den : FDen} : ∀ (I H : Hp) (mm : List Addr) (cs : List Cell) (ds : List D) (vs : List V) (Q : VK) (E : XK), SR T X.K I mm cs H → RpL T X.K I mm ds vs → OutG T X.K (RD T X.K) I mm (mkO od c den ds cs) Q E →
      ∀ x dx, H x = none → H dx = none → dx ≠ x → OutG T X.K (RD T X.K) (upd I dx (.own x)) (mm ++ [x]) (den (.cell cs.length :: ds) (cs ++ [.ins c [] []])) (fun v H2 => v = .non ∧ Q (.ref x) H2) E := by
  subst hod
  intro I H mm cs ds vs Q E sr r h x dx hx hd hne
  obtain ⟨sr2, s2, rx⟩ := mk_start (c := c) sr hx hd hne
  unfold mkO at h
  cases hden : den (.cell cs.length :: ds) (cs ++ [.ins c [] []]) with
  | no => rw [hden] at h; exact h.elim
  | exn c' ks fs cs' =>
    rw [hden] at h
    exact fun cls od' H' I' m' s p sr' r' => exn_trim (α := D) sr h (s2.trans s) ((List.prefix_append _ _).trans p) sr' r'
  | ok d cs' =>
    rw [hden] at h
    intro v H' I' m' s p sr' r'
    cases d with
    | non =>
      refine ⟨rp_non.mp r', ?_⟩
      simp only at h
      split at h
      · rename_i c' ks fs hc
        split at h
        · rename_i hcc
          obtain ⟨rfl, rfl⟩ := hcc
          have rx' := Rp.mono s p rx
          obtain ⟨a, e1, e2⟩ := rp_cell.mp rx'
          cases e2
          obtain ⟨a', ob, q1, q2, q3, q4⟩ := sr'.at_ _ _ hc (by intro z; cases z)
          rw [e1] at q1; cases q1
          cases ob with
          | ins C dx' gs =>
            obtain ⟨rfl, q5, q6⟩ := q4
            obtain ⟨sr3, s3⟩ := sr'.frz hc (by intro z; cases z) e1 q3
            refine ok_trim (β := V) sr h (fun z => by unfold D.lt; exact z) ((s2.trans s).trans s3) ((List.prefix_append _ _).trans p) sr3 ?_
            unfold Rp
            exact ⟨x, dx', gs, rfl, upd_same, q5, RpL.mono s3 (List.prefix_refl _) q6⟩
          | _ => exact q4.elim
        · exact h.elim
      · exact h.elim
    | _ => exact h.elim
theorem mkC_key {den : FDen} : ∀ (I H : Hp) (mm : List Addr) (cs : List Cell) (ds : List D) (vs : List V) (Q : VK) (E : XK), SR T X.K I mm cs H → RpL T X.K I mm ds vs → OutG T X.K (RD T X.K) I mm (mkC c den ds cs) Q E →
      ∀ x dx, H x = none → H dx = none → dx ≠ x → OutG T X.K (RD T X.K) (upd I dx (.own x)) (mm ++ [x]) (den (.cell cs.length :: ds) (cs ++ [.ins c [] []])) (fun v H2 => v = .non ∧ Q (.ref x) H2) E := by
  intro I H mm cs ds vs Q E sr r h x dx hx hd hne
  obtain ⟨sr2, s2, rx⟩ := mk_start (c := c) sr hx hd hne
  unfold mkC at h
  cases hden : den (.cell cs.length :: ds) (cs ++ [.ins c [] []]) with
  | no => rw [hden] at h; exact h.elim
  | exn c' ks fs cs' =>
    rw [hden] at h
    exact fun cls od' H' I' m' s p sr' r' => exn_trim (α := D) sr h (s2.trans s) ((List.prefix_append _ _).trans p) sr' r'
  | ok d cs' =>
    rw [hden] at h
    intro v H' I' m' s p sr' r'
    cases d with
    | non => exact ⟨rp_non.mp r', h (.ref x) H' I' m' (s2.trans s) ((List.prefix_append _ _).trans p) sr' (Rp.mono s p rx)⟩
    | _ => exact h.elim
theorem de_mkO {od : Nat → List Nat} (hod : T.od = od) (M : DK X T k c np den) (hm : X.mg x = some (.ref (T.ca c))) (hr : Room j X.A) (tk : Takes X W) (ha : DA X T W (e :: es) g) (hk : k + 1 ≤ j := by decide) (hg : Gl X x := by rfl)
    (hdb : (x == ("__debug__" : PySem.Str)) = false := by decide) (he : starEach (e :: es) X.env = (false, eval e X.env) :: starEach es X.env := by rfl) (hpl : (backTo pos (starEach es X.env)).any (·.1) = false := by rfl) :
    DE X T W (.Call (.Name x p) (e :: es) [] pos) (dFn (mkO od c den) g) := by
  obtain ⟨f, M, F⟩ := M.ini
  obtain ⟨fd, ps, hl, Fn, hb⟩ := F.ex
  exact PE.imp (pe_makeS (E := WE W) M Fn (hr.mono hk) hg hm hb (passAt tk) ha hdb he hpl) (tMakeS_of rfl F.len (mkO_key hod) rfl)
theorem de_mkC (M : DK X T k c np den) (hm : X.mg x = some (.ref (T.ca c))) (hr : Room j X.A) (tk : Takes X W) (ha : DA X T W (e :: es) g) (hk : k + 1 ≤ j := by decide) (hg : Gl X x := by rfl)
    (hdb : (x == ("__debug__" : PySem.Str)) = false := by decide) (he : starEach (e :: es) X.env = (false, eval e X.env) :: starEach es X.env := by rfl) (hpl : (backTo pos (starEach es X.env)).any (·.1) = false := by rfl) :
    DE X T W (.Call (.Name x p) (e :: es) [] pos) (dFn (mkC c den) g) := by
  obtain ⟨f, M, F⟩ := M.ini
  obtain ⟨fd, ps, hl, Fn, hb⟩ := F.ex
  exact PE.imp (pe_makeS (E := WE W) M Fn (hr.mono hk) hg hm hb (passAt tk) ha hdb he hpl) (tMakeS_of rfl F.len mkC_key rfl)
/-- C() of a class without attributes -/
theorem de_mk0 (M : Mk0 X.K (T.ca c)) (hod : T.od c = []) (hm : X.mg x = some (.ref (T.ca c))) (hg : Gl X x := by rfl) (hdb : (x == ("__debug__" : PySem.Str)) = false := by decide) :
    DE X T W (.Call (.Name x p) [] [] pos) (fun _ cs => .ok (.obj c []) cs) := by
  refine PE.imp (pe_make00 M hg hm hdb) ?_
  rintro σ H Q ⟨I, m, cs, env, er, sr, h⟩
  intro x dx hx hd hne
  obtain ⟨sr1, s1⟩ := sr.newI (o := .own x) hd
  obtain ⟨sr2, s2⟩ := sr1.newI (o := .ins (T.ca c) dx []) (p := x) (by rw [upd_ne (Ne.symm hne)]; exact hx)
  refine h.ok1 (s1.trans s2) sr2 ?_
  unfold Rp
  exact ⟨x, dx, [], rfl, upd_same, by rw [hod]; rfl, RpL.nil⟩
end
end
end DL
end

section
set_option Elab.async false
set_option linter.all false
set_option maxRecDepth 100000
set_option maxHeartbeats 4000000
namespace DL
open PySem L2
open Classical
noncomputable section
/-! ### list comprehensions -/
abbrev W0 : WX := fun _ _ _ _ => False
theorem takes_no {X : Cx} : Takes X W0 := fun _ _ ⟨_, _, _, _, _, _, _, _, _, _, _, _, _, _, _, _, w⟩ => w.elim
/-- stores that touch the slots vs alone -/
def tGk (T : Tab) (K : PySem.W.Frag) (vs : List Nat) (g : GDen) : TG := fun v σ H Q => ∃ I m cs env d, ER T K I m env σ ∧ SR T K I m cs H ∧ Rp T K I m d v ∧ (match g d env cs with
  | .nx env' cs' => ∀ σ' H' I' m', Same I I' → m <+: m' → SR T K I' m' cs' H' → ER T K I' m' env' σ' → wipe σ' vs = wipe σ vs → Q σ' H'
  | _ => False)
def tGks (T : Tab) (K : PySem.W.Frag) (vs : List Nat) (g : List D → Env → List Cell → SO) : TGs := fun us σ H Q => ∃ I m cs env ds, ER T K I m env σ ∧ SR T K I m cs H ∧ RpL T K I m ds us ∧ (match g ds env cs with
  | .nx env' cs' => ∀ σ' H' I' m', Same I I' → m <+: m' → SR T K I' m' cs' H' → ER T K I' m' env' σ' → wipe σ' vs = wipe σ vs → Q σ' H'
  | _ => False)
def DGk (X : Cx) (T : Tab) (vs : List Nat) (tgt : Expr) (g : GDen) : Prop := PG X tgt (tGk T X.K vs g)
def DGks (X : Cx) (T : Tab) (vs : List Nat) (tgts : List Expr) (g : List D → Env → List Cell → SO) : Prop := PGs X tgts (tGks T X.K vs g)
theorem set_comm_none {σ : St} {i j : Nat} {a b : Option V} (h : i ≠ j) : (σ.set i a).set j b = (σ.set j b).set i a := List.set_comm _ _ h
theorem wipe_set {i : Nat} {a : Option V} {σ : St} : ∀ {vs : List Nat}, i ∈ vs → wipe (σ.set i a) vs = wipe σ vs
  | v :: vs, h => by
    unfold wipe
    by_cases hv : i ∈ vs
    · rw [wipe_set hv]
    · have e : v = i := by
        rcases List.mem_cons.mp h with q | q
        · exact q.symm
        · exact absurd q hv
      subst e
      have gen : ∀ {vs : List Nat}, v ∉ vs → wipe (σ.set v a) vs = (wipe σ vs).set v a := fun {vs} hn => by
        induction vs with
        | nil => rfl
        | cons w ws ih =>
          unfold wipe
          rw [ih (fun z => hn (List.mem_cons_of_mem _ z))]
          exact set_comm_none (fun z => hn (z ▸ List.mem_cons_self))
      rw [gen hv, List.set_set]
  | [], h => by cases h
section
variable {X : Cx} {T : Tab} {W : WX} {tg e iter elt c : Expr} {es : List Expr} {f h : Den D} {pos : Pos} {vs : List Nat}
theorem dgk_name {i : Nat} {x : PySem.Str} (hg : PG X (.Name x pos) (gName i)) (hi : i ∈ vs := by decide) : DGk X T vs (.Name x pos) (gNm i) := by
  refine PG.imp hg ?_
  rintro v σ H Q ⟨I, m, cs, env, d, er, sr, r, h⟩
  exact h _ H I m (Same.refl I) (List.prefix_refl _) sr (er.set r) (wipe_set hi)
theorem dgks_nil : DGks X T vs [] gsNil := by
  refine PGs.imp pgs_nil ?_
  rintro us σ H Q ⟨I, m, cs, env, ds, er, sr, r, h⟩
  cases ds with
  | nil => exact ⟨r.inil, h σ H I m (Same.refl I) (List.prefix_refl _) sr er rfl⟩
  | cons d ds => exact h.elim
theorem dgks_cons {g1 : GDen} {gs : List D → Env → List Cell → SO} (h1 : DGk X T vs e g1) (h2 : DGks X T vs es gs) (hs : (assignEach (e :: es) X.env).map (·.2) = assign e X.env :: (assignEach es X.env).map (·.2) := by rfl) : DGks X T vs (e :: es) (gsCons g1 gs) := by
  refine PGs.imp (pgs_cons h1 h2 hs) ?_
  rintro us σ H Q ⟨I, m, cs, env, ds, er, sr, r, h⟩
  cases ds with
  | nil => exact h.elim
  | cons d ds =>
    obtain ⟨v, r', rfl, q, k⟩ := r.inv
    unfold gsCons at h
    simp only at h
    cases hg : g1 d env cs with
    | nx env' cs' =>
      simp only [hg] at h
      refine ⟨v, r', rfl, I, m, cs, env, d, er, sr, q, ?_⟩
      rw [hg]
      intro σ' H' I' m' s1 p1 sr1 er1 w1
      refine ⟨I', m', cs', env', ds, er1, sr1, RpL.mono s1 p1 k, ?_⟩
      cases hg2 : gs ds env' cs' with
      | nx env2 cs2 =>
        simp only [hg2] at h ⊢
        exact fun σ2 H2 I2 m2 s2 p2 sr2 er2 w2 => h σ2 H2 I2 m2 (s1.trans s2) (p1.trans p2) sr2 er2 (w2.trans w1)
      | _ => simp only [hg2] at h
    | _ => simp only [hg] at h
theorem dgk_tup {k n : Nat} {gs : List D → Env → List Cell → SO} (hc : X.calm = true) (h : DGks X T vs es gs) (hn : (assignEach es X.env).length = n := by rfl) (hst : (assignEach es X.env).findIdx? (·.1) = none := by rfl) : DGk X T vs (.Tuple es k pos) (gTupD n gs) := by
  refine PG.imp (pg_tup hc h hn hst) ?_
  rintro v σ H Q ⟨I, m, cs, env, d, er, sr, r, h⟩
  cases d with
  | tup xs =>
    obtain ⟨a, us, rfl, q1, q2⟩ := rp_tup.mp r
    unfold gTupD at h
    simp only at h
    by_cases hl : xs.length = n
    · rw [if_pos hl] at h
      exact ⟨a, us, rfl, SqT.same sr.same q1, by rw [← q2.length]; exact hl, I, m, cs, env, xs, er, sr, q2, h⟩
    · rw [if_neg hl] at h; exact h.elim
  | _ => exact h.elim
def DTs (X : Cx) (T : Tab) (W : WX) (ifs : List Expr) (p : Den Bool) : Prop := PTs X ifs (tG T X.K W RB p)
theorem PTs.imp {ifs : List Expr} {t t' : TT} (h : PTs X ifs t) (i : ∀ σ H Q, t' σ H Q → t σ H Q) : PTs X ifs t' := ⟨fun pins s σ H Q I q => h.run pins s σ H Q I (i σ H Q q)⟩
def pYes : Den Bool := fun _ cs => .ok true cs
theorem dts_nil : DTs X T W [] pYes := by
  refine PTs.imp pts_nil ?_
  rintro σ H Q ⟨I, m, cs, env, er, sr, h⟩
  exact h.okI sr rfl
theorem dts_one {p : Den Bool} (hc : DT X T W c p) : DTs X T W [c] p := pts_one hc
/-- the slots of the block's own names forgotten -/
def wipeE (env : Env) : List Nat → Env
  | [] => env
  | v :: vs => (wipeE env vs).set v none
theorem ER.wipe {K : PySem.W.Frag} {I : Hp} {m : List Addr} {env : Env} {σ : St} (er : ER T K I m env σ) : ∀ {vs : List Nat}, ER T K I m (wipeE env vs) (L2.wipe σ vs)
  | [] => er
  | v :: vs => by unfold wipeE L2.wipe; exact (ER.wipe er).setN
def lcL (chk : List Cell → Prop) (g : GDen) (p : Den Bool) (h : Den D) (n : Nat) (env : Env) : List D → List Cell → Out Unit
  | [] => fun cs => if chk cs then .ok () cs else .no
  | x :: r => fun cs => if chk cs then (match g x env cs with
      | .nx env' cs => (match p env' cs with
        | .ok b cs => if b = true then (match h env' cs with
            | .ok d cs' => (match (trim cs cs' (d.lt cs.length))[n]? with
              | some (.lst acc) => if fitsL acc.length then lcL chk g p h n env r ((trim cs cs' (d.lt cs.length)).set n (.lst (acc ++ [d]))) else .no
              | _ => .no)
            | _ => .no) else lcL chk g p h n env r cs
        | _ => .no)
      | _ => .no) else .no
/-- [h for g in f if p], a cell -/
def dLcC (vs : List Nat) (f : Den ItV) (g : GDen) (p : Den Bool) (h : Den D) : Den D := fun env cs => (f env cs).bind fun it cs1 => match lcL it.chk g p h cs1.length (wipeE env vs) it.xs (cs1 ++ [.lst []]) with
  | .ok _ cs' => .ok (.cell cs1.length) cs'
  | _ => .no
theorem OutG.noexn {α β : Type} {K : PySem.W.Frag} {R : Hp → List Addr → α → β → Prop} {I : Hp} {m : List Addr} {x : Out α} {Q : β → Hp → Prop} (h : match x with
  | .ok a cs => ∀ v H' I' m', Same I I' → m <+: m' → SR T K I' m' cs H' → R I' m' a v → Q v H'
  | _ => False) {E : XK} : OutG T K R I m x Q E := by
  cases x with
  | ok a cs => exact h
  | _ => exact h.elim
theorem tLc_of {f : Den ItV} {g : GDen} {p : Den Bool} {wi : TI} {tgt : TG} {tt : TT} {te : TE} (e1 : wi = tG T X.K W (RI T X.K) f) (e2 : tgt = tGk T X.K vs g) (e3 : tt = tG T X.K W0 RB p) (e4 : te = tG T X.K W0 (RD T X.K) h) :
    ∀ σ H Q, tG T X.K W (RD T X.K) (dLcC vs f g p h) σ H Q → tLc wi tgt tt te vs σ H Q := by
  subst e1 e2 e3 e4
  rintro σ H Q ⟨I, m, cs, env, er, sr, hh⟩
  refine ⟨I, m, cs, env, er, sr, OutG.bindI hh fun it cs1 J H1 I1 m1 s1 p1 sr1 r1 h1 => ?_⟩
  intro Dl hD
  have er1 := er.mono s1 p1
  have sr2 := sr1.newC (o := .lst []) (c := .lst []) hD (show CellR T X.K I1 m1 (.lst []) (.lst []) from (RpL.nil : RpL T X.K I1 m1 [] []))
  have key : ∀ z : Out Unit, OutG T X.K (RD T X.K) I1 m1 (match z with
    | .ok _ cs' => .ok (.cell cs1.length) cs'
    | _ => .no) Q (fun cls od H' => W cls od σ H') → ∃ cs', z = .ok () cs' ∧ ∀ v H' I' m', Same I1 I' → m1 <+: m' → SR T X.K I' m' cs' H' → Rp T X.K I' m' (.cell cs1.length) v → Q v H' := fun z hz => by
    cases z with
    | ok u cs' => exact ⟨cs', rfl, hz⟩
    | _ => exact hz.elim
  obtain ⟨csF, eF, hF⟩ := key _ h1
  refine ⟨fun i n H => n = it.xs.length - i ∧ i ≤ it.xs.length ∧ ∃ I2 m2 cs2, Same I1 I2 ∧ (m1 ++ [Dl]) <+: m2 ∧ SR T X.K I2 m2 cs2 H ∧ lcL it.chk g p h cs1.length (wipeE env vs) (it.xs.drop i) cs2 = .ok () csF,
    ⟨it.xs.length, by simp, Nat.zero_le _, I1, m1 ++ [Dl], _, Same.refl _, List.prefix_refl _, sr2, by simpa using eF⟩, ?_⟩
  rintro i n H ⟨rfl, hi, I2, m2, cs2, s2, p2, sr2, e2⟩
  have p12 : m1 <+: m2 := (List.prefix_append _ _).trans p2
  have atD : m2[cs1.length]? = some Dl := pre_get p2 (by rw [← sr1.len]; simp)
  by_cases hlt : i < it.xs.length
  · have ed : it.xs.drop i = it.xs[i] :: it.xs.drop (i + 1) := by simp
    rw [ed] at e2
    unfold lcL at e2
    by_cases hc : it.chk cs2
    · rw [if_pos hc] at e2
      obtain ⟨q1, q2⟩ := r1 I2 m2 cs2 H s2 p12 sr2 hc
      obtain ⟨go, ys⟩ := q1 i it.xs[i] (by simp [hlt])
      refine .inr ⟨go, fun H' => ∃ I2 m2 cs2, Same I1 I2 ∧ (m1 ++ [Dl]) <+: m2 ∧ SR T X.K I2 m2 cs2 H' ∧ lcL it.chk g p h cs1.length (wipeE env vs) (it.xs.drop (i + 1)) cs2 = .ok () csF, fun H' p' => ⟨it.xs.length - (i + 1), by omega, rfl, hlt, p'⟩, fun x H' y => ?_⟩
      obtain ⟨I3, s3, sr3, r3⟩ := ys x H' y
      refine ⟨I3, m2, cs2, wipeE env vs, it.xs[i], ((er1.mono s2 p12).mono s3 (List.prefix_refl _)).wipe, sr3, r3, ?_⟩
      cases hg : g it.xs[i] (wipeE env vs) cs2 with
      | nx env' cs4 =>
        simp only [hg] at e2 ⊢
        intro σ4 H4 I4 m4 s4 p4 sr4 er4 w4
        refine ⟨?_, I4, m4, cs4, env', er4, sr4, ?_⟩
        · have : L2.wipe (L2.wipe σ vs) vs = L2.wipe σ vs := by
            have gen : ∀ (ws us : List Nat) (τ : St), (∀ v ∈ ws, v ∈ us) → L2.wipe (L2.wipe τ ws) us = L2.wipe τ us := fun ws => by
              induction ws with
              | nil => exact fun us τ _ => rfl
              | cons w ws ih =>
                intro us τ hsub
                show L2.wipe ((L2.wipe τ ws).set w none) us = _
                rw [wipe_set (hsub w List.mem_cons_self), ih us τ fun v hv => hsub v (List.mem_cons_of_mem _ hv)]
            exact gen vs vs σ fun _ h => h
          rw [w4, this]
        · refine OutG.noexn ?_
          cases hp : p env' cs4 with
          | ok b cs5 =>
            simp only [hp] at e2 ⊢
            intro b' H5 I5 m5 s5 p5 sr5 eb
            have eb : b = b' := eb
            subst eb
            have er5 := er4.mono s5 p5
            by_cases hb : b = true
            · rw [if_pos hb] at e2
              rw [if_pos hb]
              refine ⟨I5, m5, cs5, env', er5, sr5, OutG.noexn ?_⟩
              cases hh : h env' cs5 with
              | ok d cs6 =>
                simp only [hh] at e2 ⊢
                intro v H6 I6 m6 s6 p6 sr6 r6
                -- cells let go
                have tr : ∃ m7, m5 <+: m7 ∧ SR T X.K I6 m7 (trim cs5 cs6 (d.lt cs5.length)) H6 ∧ Rp T X.K I6 m7 d v := by
                  unfold trim
                  by_cases ok : d.lt cs5.length = true ∧ trimOk cs5 cs6
                  · rw [if_pos ok]
                    obtain ⟨sr7, em⟩ := SR.trim sr5 sr6 p6 ok.2
                    have r7 := Rp.cut (n := cs5.length) ok.1 r6
                    rw [em] at r7
                    exact ⟨m5, List.prefix_refl _, sr7, r7⟩
                  · rw [if_neg ok]
                    exact ⟨m6, p6, sr6, r6⟩
                obtain ⟨m7, p7, sr7, r7⟩ := tr
                have atD7 : m7[cs1.length]? = some Dl := pre_get (p4.trans (p5.trans p7)) atD
                generalize trim cs5 cs6 (d.lt cs5.length) = cs7 at e2 sr7
                cases hn : cs7[cs1.length]? with
                | none => simp only [hn] at e2; cases e2
                | some cl =>
                  cases cl with
                  | lst acc =>
                    simp only [hn] at e2
                    by_cases hl : fitsL acc.length
                    · rw [if_pos hl] at e2
                      obtain ⟨a', ob, z1, z2, z3, z4⟩ := sr7.at_ _ _ hn (by intro z; cases z)
                      rw [atD7] at z1; cases z1
                      cases ob with
                      | lst us =>
                        have z4 : RpL T X.K I6 m7 acc us := z4
                        refine ⟨us, z3, by rw [← z4.length]; exact hl, I6, m7, _, s2.trans (s3.trans (s4.trans (s5.trans s6))), p2.trans (p4.trans (p5.trans p7)), ?_, e2⟩
                        exact sr7.setC hn (by intro z; cases z) atD7 (z4.append (RpL.one r7))
                      | _ => exact z4.elim
                    · rw [if_neg hl] at e2; cases e2
                  | _ => simp only [hn] at e2; cases e2
              | _ => simp only [hh] at e2; cases e2
            · rw [if_neg hb] at e2
              rw [if_neg hb]
              exact ⟨I5, m5, cs5, s2.trans (s3.trans (s4.trans s5)), p2.trans (p4.trans p5), sr5, e2⟩
          | _ => simp only [hp] at e2; cases e2
      | _ => simp only [hg] at e2; cases e2
    · rw [if_neg hc] at e2; cases e2
  · have e : i = it.xs.length := by omega
    have ed : it.xs.drop i = [] := by rw [e]; simp
    rw [ed] at e2
    unfold lcL at e2
    by_cases hc : it.chk cs2
    · rw [if_pos hc] at e2
      cases e2
      refine .inl ⟨?_, hF (.ref Dl) H I2 m2 s2 p12 sr2 (rp_cell.mpr ⟨Dl, atD, rfl⟩)⟩
      rw [e]
      exact (r1 I2 m2 _ H s2 p12 sr2 hc).2
    · rw [if_neg hc] at e2; cases e2
def blkB (N : List PySem.Str) (sc scope : Scope) (own : List (PySem.Str × Nat)) : Bool :=
  decide (scope.kind = .function) && scope.names.all (fun y => decide (scope.names.lookup y.1 = some y.2)) && own.all (fun p => decide (N[p.2]? = some p.1)) &&
  scope.names.all (fun y => !decide (y.2 = .free) || decide (sc.names.lookup y.1 = some .cell) || decide (sc.names.lookup y.1 = some .free)) &&
  scope.names.all (fun y => !(decide (y.2 = .local) || decide (y.2 = .cell)) || decide (y.1 ∈ own.map (·.1)) || decide (y.1 ∉ N))
theorem blk_by {N : List PySem.Str} {sc scope : Scope} {own : List (PySem.Str × Nat)} (h : blkB N sc scope own = true) : BlkOk N sc scope own := by
  unfold blkB at h
  simp only [Bool.and_eq_true, decide_eq_true_eq, List.all_eq_true, Bool.or_eq_true, Bool.not_eq_true', decide_eq_false_iff_not, Bool.or_eq_false_iff] at h
  obtain ⟨⟨⟨⟨h1, h2⟩, h3⟩, h4⟩, h5⟩ := h
  refine ⟨h1, h2, h3, fun y hy e => ?_, fun y hy e => ?_⟩
  · rcases h4 y hy with (q | q) | q
    · exact absurd e q
    · exact .inl q
    · exact .inr q
  · rcases h5 y hy with (q | q) | q
    · rcases e with e | e
      · exact absurd e q.1
      · exact absurd e q.2
    · exact .inl q
    · exact .inr q
theorem de_lcC {ifs : List Expr} {scope : Scope} {own : List (PySem.Str × Nat)} {f : Den ItV} {g : GDen} {p : Den Bool} (hc : X.calm = true) (hN : X.N.Nodup) (hi : DI X T W tg iter f) (ok : BlkOk X.N X.env.scope scope own)
    (hg : ∀ (s : Shared) (H : Hp) (C : Addr) (cl : List (PySem.Str × Addr)) (fp : List Addr), DGk (X.blk s H scope (compEnvC scope cl C X.env) fp) T (own.map (·.2)) tg g) (ht : ∀ (s : Shared) (H : Hp) (C : Addr) (cl : List (PySem.Str × Addr)) (fp : List Addr), DTs (X.blk s H scope (compEnvC scope cl C X.env) fp) T W0 ifs p)
    (he : ∀ (s : Shared) (H : Hp) (C : Addr) (cl : List (PySem.Str × Addr)) (fp : List Addr), DE (X.blk s H scope (compEnvC scope cl C X.env) fp) T W0 elt h) (hs : ∀ x, foldedSetIterable iter X.env x = pure x := by intro _; rfl) :
    DE X T W (.ListComp elt [⟨tg, iter, ifs, 0⟩] scope pos) (dLcC (own.map (·.2)) f g p h) :=
  PE.imp (pe_lc (g := tGk T X.K (own.map (fun x : PySem.Str × Nat => x.2)) g) (tt := tG T X.K W0 RB p) (te := tG T X.K W0 (RD T X.K) h) hc hN hi ok hg ht he hs) (tLc_of rfl rfl rfl rfl)
theorem ds_setLcC {i : Nat} {y : PySem.Str} {py spos : Pos} {ifs : List Expr} {scope : Scope} {own : List (PySem.Str × Nat)} {f : Den ItV} {g : GDen} {p : Den Bool} (hc : X.calm = true) (hN : X.N.Nodup) (hi : DI X T W tg iter f) (ok : BlkOk X.N X.env.scope scope own)
    (hg : ∀ (s : Shared) (H : Hp) (C : Addr) (cl : List (PySem.Str × Addr)) (fp : List Addr), DGk (X.blk s H scope (compEnvC scope cl C X.env) fp) T (own.map (·.2)) tg g) (ht : ∀ (s : Shared) (H : Hp) (C : Addr) (cl : List (PySem.Str × Addr)) (fp : List Addr), DTs (X.blk s H scope (compEnvC scope cl C X.env) fp) T W0 ifs p)
    (he : ∀ (s : Shared) (H : Hp) (C : Addr) (cl : List (PySem.Str × Addr)) (fp : List Addr), DE (X.blk s H scope (compEnvC scope cl C X.env) fp) T W0 elt h) (hy : X.N[i]? = some y := by rfl) (hyl : X.env.scope.names.lookup y = some .local := by rfl)
    (hsw : swapsWith (.ListComp elt [⟨tg, iter, ifs, 0⟩] scope pos) (some (.Name y py)) spos.line X.env = pure true := by rfl) (hs : ∀ x, foldedSetIterable iter X.env x = pure x := by intro _; rfl) :
    DS X T W (.Assign [.Name y py] (.ListComp elt [⟨tg, iter, ifs, 0⟩] scope pos) spos) (sSet i (dLcC (own.map (·.2)) f g p h)) := by
  refine PS.imp (ps_setLc (g := tGk T X.K (own.map (fun x : PySem.Str × Nat => x.2)) g) (tt := tG T X.K W0 RB p) (te := tG T X.K W0 (RD T X.K) h) hc hN hy hyl hsw hi ok hg ht he hs) ?_
  intro B σ H hB
  obtain ⟨I, m, cs, env, er, sr, hB⟩ := hB
  refine tLc_of rfl rfl rfl rfl σ H _ ⟨I, m, cs, env, er, sr, ?_⟩
  exact SOk.bindE hB er fun d cs1 v H1 I1 m1 s1 p1 sr1 r1 h1 => SOk.nxI h1 sr1 ((er.mono s1 p1).set r1)
/-- what was made on the way and is not held is let go -/
def dTr (f : Den D) : Den D := fun env cs => match f env cs with
  | .ok d cs' => .ok d (trim cs cs' (d.lt cs.length))
  | .exn c ks fs cs' => .exn c ks fs (trim cs cs' (D.ltL cs.length fs))
  | .no => .no
theorem tG_tr {K : PySem.W.Frag} {f : Den D} : ∀ σ H Q, tG T K W (RD T K) (dTr f) σ H Q → tG T K W (RD T K) f σ H Q := by
  rintro σ H Q ⟨I, m, cs, env, er, sr, h⟩
  refine ⟨I, m, cs, env, er, sr, ?_⟩
  unfold dTr at h
  cases hf : f env cs with
  | no => simp only [hf] at h; exact h
  | ok d cs' =>
    simp only [hf] at h
    exact fun v H' I' m' s p sr' r => ok_trim (β := V) sr h (fun z => z) s p sr' r
  | exn c ks fs cs' =>
    simp only [hf] at h
    exact fun cls od H' I' m' s p sr' r => exn_trim (α := D) sr h s p sr' r
theorem de_tr (he : DE X T W e f) : DE X T W e (dTr f) := PE.imp he tG_tr
theorem tG_frz {K : PySem.W.Frag} {f : Den D} : ∀ σ H Q, tG T K W (RD T K) (dFrz f) σ H Q → tG T K W (RD T K) f σ H Q := by
  rintro σ H Q ⟨I, m, cs, env, er, sr, h⟩
  refine ⟨I, m, cs, env, er, sr, OutG.bindI h fun x cs1 v H1 I1 m1 s1 p1 sr1 r1 h1 => ?_⟩
  by_cases hz : ∃ z, x = .cell z
  · obtain ⟨z, rfl⟩ := hz
    simp only at h1
    split at h1
    · rename_i ys hc
      obtain ⟨a, us, rfl, ea, q1, q2⟩ := cell_lst sr1 r1 hc
      obtain ⟨sr2, s2⟩ := sr1.frz hc (by intro z; cases z) ea q1
      exact h1.ok1 s2 sr2 (rp_lst.mpr ⟨a, us, rfl, SqX.of upd_same, RpL.mono s2 (List.prefix_refl _) q2⟩)
    · exact h1.elim
  · have h' : OutG T K (RD T K) I1 m1 (.ok x cs1) Q (fun cls od H' => W cls od σ H') := by
      cases x <;> first | exact h1 | exact absurd ⟨_, rfl⟩ hz
    exact h'.okI sr1 r1
/-- [..], frozen, nothing left behind -/
def dLc (vs : List Nat) (f : Den ItV) (g : GDen) (p : Den Bool) (h : Den D) : Den D := dTr (dFrz (dLcC vs f g p h))
theorem de_lc {F : Den D} (he : DE X T W e F) : DE X T W e (dTr (dFrz F)) := PE.imp he fun σ H Q q => tG_frz σ H Q (tG_tr σ H Q q)
theorem ds_setLc {i : Nat} {y : PySem.Str} {py spos : Pos} {ifs : List Expr} {scope : Scope} {own : List (PySem.Str × Nat)} {f : Den ItV} {g : GDen} {p : Den Bool} (hc : X.calm = true) (hN : X.N.Nodup) (hi : DI X T W tg iter f) (ok : BlkOk X.N X.env.scope scope own)
    (hg : ∀ (s : Shared) (H : Hp) (C : Addr) (cl : List (PySem.Str × Addr)) (fp : List Addr), DGk (X.blk s H scope (compEnvC scope cl C X.env) fp) T (own.map (·.2)) tg g) (ht : ∀ (s : Shared) (H : Hp) (C : Addr) (cl : List (PySem.Str × Addr)) (fp : List Addr), DTs (X.blk s H scope (compEnvC scope cl C X.env) fp) T W0 ifs p)
    (he : ∀ (s : Shared) (H : Hp) (C : Addr) (cl : List (PySem.Str × Addr)) (fp : List Addr), DE (X.blk s H scope (compEnvC scope cl C X.env) fp) T W0 elt h) (hy : X.N[i]? = some y := by rfl) (hyl : X.env.scope.names.lookup y = some .local := by rfl)
    (hsw : swapsWith (.ListComp elt [⟨tg, iter, ifs, 0⟩] scope pos) (some (.Name y py)) spos.line X.env = pure true := by rfl) (hs : ∀ x, foldedSetIterable iter X.env x = pure x := by intro _; rfl) :
    DS X T W (.Assign [.Name y py] (.ListComp elt [⟨tg, iter, ifs, 0⟩] scope pos) spos) (sSet i (dTr (dFrz (dLcC (own.map (·.2)) f g p h)))) := by
  refine PS.imp (ps_setLc (g := tGk T X.K (own.map (fun x : PySem.Str × Nat => x.2)) g) (tt := tG T X.K W0 RB p) (te := tG T X.K W0 (RD T X.K) h) hc hN hy hyl hsw hi ok hg ht he hs) ?_
  intro B σ H hB
  obtain ⟨I, m, cs, env, er, sr, hB⟩ := hB
  refine tLc_of rfl rfl rfl rfl σ H _ (tG_frz σ H _ (tG_tr σ H _ ⟨I, m, cs, env, er, sr, ?_⟩))
  exact SOk.bindE hB er fun d cs1 v H1 I1 m1 s1 p1 sr1 r1 h1 => SOk.nxI h1 sr1 ((er.mono s1 p1).set r1)
end
end
end DL
end

section
set_option Elab.async false
set_option linter.all false
set_option maxRecDepth 100000
set_option maxHeartbeats 4000000
namespace DL
open PySem L2
open Classical
/-! ### more facts of the top -/
inductive Fb where
  | mk0 (x : PySem.Str)
  | meq (x m y : PySem.Str)
  | isx (x : PySem.Str)
  | kit (x y : PySem.Str) (b : Bool)
  | kitN (y : PySem.Str)
  | own (x : PySem.Str) (f : PySem.Str × Option PySem.Str)
  | nf (x y : PySem.Str)
  | slf (x : PySem.Str)
def Fb.ok (K : PySem.W.Frag) : Fb → Bool
  | .mk0 x => PySem.W.makesIn K (He.ga K x) && (He.eqO (PySem.W.findIn K (.ref (He.ga K x)) "__init__") (some (some (.builtin "object.__init__"))) && PySem.W.keepIn K (.ref (He.ga K x)))
  | .meq x m y => decide (He.ma K (He.ga K x) m = He.ma K (He.ga K y) m)
  | .isx x => (He.Fa.cls x).ok K && (He.eqO (PySem.W.findIn K (.ref (He.ga K x)) "__class__") (some (some (.builtin "object.__class__"))) && (He.eqO (PySem.W.specialIn K (.builtin "object.__class__") "__get__") (some (some (.builtin "getset_descriptor.__get__"))) &&
      (decide (PySem.W.takesIn K (.builtin "object.__class__") = some true) && decide (PySem.W.mroIn K (He.ga K x) (.type "object") = some true))))
  | .kit x y b => decide (PySem.W.kitOne K (.ref (He.ga K x)) (.ref (He.ga K y)) = some b)
  | .kitN y => decide (PySem.W.kitOne K (.type "NoneType") (.ref (He.ga K y)) = some false)
  | .own x f => He.eqO (PySem.W.findIn K (.ref (He.ga K x)) "__eq__") (some (some (.ref (He.fAd K f)))) && (He.eqO (PySem.W.findIn K (.ref (He.ga K x)) "__ne__") (some (some (.builtin "object.__ne__"))) &&
      (PySem.W.isFn K (.ref (He.fAd K f)) && decide (PySem.W.mroIn K (He.ga K x) (.type "object") = some true)))
  | .nf x y => PySem.W.notFirst K (He.ga K x) (.ref (He.ga K y))
  | .slf x => PySem.W.selfFirst K (He.ga K x)
abbrev AlM : Type := He.AlD × Bool
def obsM (fa : List He.Fa) (fn : List He.DefD) (fb : List Fb) (K : PySem.W.Frag) : AlM := (He.obsD fa fn K, fb.all fun f => f.ok K)
def SaysM (fa : List He.Fa) (fn : List He.DefD) (fb : List Fb) (K : PySem.W.Frag) : Prop := obsM fa fn fb K = (He.valD fn, true)
def obsMG (n : Nat) (fa : List He.Fa) (fn : List He.DefD) (fb : List Fb) (g : Addr → Option Obj) : AlM := obsM fa fn fb (He.frG g (He.asD g n))
def hookM (n : Nat) (fa : List He.Fa) (fn : List He.DefD) (fb : List Fb) : PySem.W.Hook where
  α := AlM
  obs := fun s => obsMG n fa fn fb s.heap.get?
  val := fun _ => (He.valD fn, true)
  says := fun _ h => ∃ K : PySem.W.Frag, K.In h ∧ SaysM fa fn fb K
  of := fun _ _ e => ⟨_, He.frG_in, e⟩
  keeps := fun _ _ _ ⟨K, hK, c⟩ k => ⟨K, PySem.W.Frag.In.keeps hK k, c⟩
theorem obsMG_eq {n : Nat} {fa : List He.Fa} {fn : List He.DefD} {fb : List Fb} {g : Addr → Option Obj} {s : Shared} (h : ∀ a, g a = s.heap.get? a) : obsMG n fa fn fb g = (hookM n fa fn fb).obs s := by
  have e : g = s.heap.get? := funext h
  rw [e] <;> rfl
/-- what the walk knows -/
structure Kn (fa : List He.Fa) (fn : List He.DefD) (fb : List Fb) (K : PySem.W.Frag) (mg : PySem.Str → Option Value) : Prop where
  ns : ∃ h : Heap, K.In h ∧ h.Ns mainGlobals mg
  d : He.SaysD fa fn K
  b : (fb.all fun f => f.ok K) = true
section
variable {fa : List He.Fa} {fn : List He.DefD} {fb : List Fb} {K : PySem.W.Frag} {mg : PySem.Str → Option Value}
theorem Kn.of {h : Heap} (X : K.In h) (G : h.Ns mainGlobals mg) (c : SaysM fa fn fb K) : Kn fa fn fb K mg :=
  ⟨⟨h, X, G⟩, congrArg (fun z : AlM => z.1) c, congrArg (fun z : AlM => z.2) c⟩
theorem Kn.glo (z : Kn fa fn fb K mg) (i : Nat) {x : PySem.Str} (h : fa[i]? = some (.glo x) := by rfl) : mg x = some (.ref (He.ga K x)) := let ⟨_, X, G⟩ := z.ns; He.glo_ok X G (z.d.fact i h)
theorem Kn.free (z : Kn fa fn fb K mg) (i : Nat) {x : PySem.Str} (h : fa[i]? = some (.free x) := by rfl) : mg x = none := let ⟨_, X, G⟩ := z.ns; He.free_ok X G (z.d.fact i h)
theorem Kn.int (z : Kn fa fn fb K mg) (i : Nat) {x : PySem.Str} {n : Int} (h : fa[i]? = some (.int x n) := by rfl) : ∃ t, mg x = some (.int n t) := let ⟨_, X, G⟩ := z.ns; He.int_ok X G (z.d.fact i h)
theorem Kn.str (z : Kn fa fn fb K mg) (i : Nat) {x y : PySem.Str} (h : fa[i]? = some (.str x y) := by rfl) : ∃ t, mg x = some (.str y t) := let ⟨_, X, G⟩ := z.ns; He.str_ok X G (z.d.fact i h)
theorem Kn.cls (z : Kn fa fn fb K mg) (i : Nat) {x : PySem.Str} (h : fa[i]? = some (.cls x) := by rfl) : Cls K (He.ga K x) := He.cls_ok (z.d.fact i h)
theorem Kn.noat (z : Kn fa fn fb K mg) (i : Nat) {x f : PySem.Str} (h : fa[i]? = some (.noat x f) := by rfl) : NoAttr K (He.ga K x) f := He.noat_ok (z.d.fact i h)
theorem Kn.meth (z : Kn fa fn fb K mg) (i : Nat) {x m : PySem.Str} (h : fa[i]? = some (.meth x m) := by rfl) : Meth K (He.ga K x) m (He.ma K (He.ga K x) m) := He.meth_ok (z.d.fact i h)
theorem Kn.mkr (z : Kn fa fn fb K mg) (i : Nat) {x : PySem.Str} (h : fa[i]? = some (.mkr x) := by rfl) : Mk K (He.ga K x) (He.ma K (He.ga K x) "__init__") := He.mkr_ok (z.d.fact i h)
theorem Kn.fb_ (z : Kn fa fn fb K mg) (i : Nat) {f : Fb} (h : fb[i]? = some f) : f.ok K = true := List.all_eq_true.mp z.b f (List.mem_of_getElem? h)
theorem Kn.mk0 (z : Kn fa fn fb K mg) (i : Nat) {x : PySem.Str} (h : fb[i]? = some (.mk0 x) := by rfl) : Mk0 K (He.ga K x) := by
  obtain ⟨h1, h2⟩ := He.ba (z.fb_ i h)
  obtain ⟨h3, h4⟩ := He.ba h2
  exact ⟨h1, He.eqO_ok h3, h4⟩
theorem Kn.meq (z : Kn fa fn fb K mg) (i : Nat) {x m y : PySem.Str} (h : fb[i]? = some (.meq x m y) := by rfl) : He.ma K (He.ga K x) m = He.ma K (He.ga K y) m := of_decide_eq_true (z.fb_ i h)
/-- a def that stands -/
theorem Kn.fd (z : Kn fa fn fb K mg) (i : Nat) {d : He.DefD} (h : fn[i]? = some d) (h1 : d.dfl = []) (h2 : d.kwd = []) : ∃ fd, FunD K d.name d.qual d.params d.body d.scope [] [] (He.fAd K d.at_) fd := by
  obtain ⟨fd, F⟩ := z.d.def_ i h
  unfold He.DefD.dvs He.DefD.kws at F
  rw [h1, h2] at F
  exact ⟨fd, F⟩
end
/-! ### attribute names -/
def nmOf (L : List PySem.Str) (i : Nat) : PySem.Str := match L[i]? with
  | some x => x
  | none => ⟨Array.replicate (i + 100) 122⟩
theorem nmOf_inj {L : List PySem.Str} (h : (decide L.Nodup && L.all fun x => decide (x.cps.size < 100)) = true) : ∀ i j, nmOf L i = nmOf L j → i = j := by
  intro i j e
  simp only [Bool.and_eq_true, decide_eq_true_eq, List.all_eq_true] at h
  obtain ⟨nd, sm⟩ := h
  unfold nmOf at e
  cases hi : L[i]? with
  | some x =>
    cases hj : L[j]? with
    | some y =>
      rw [hi, hj] at e
      simp only at e
      subst e
      exact (List.getElem?_inj (List.getElem?_eq_some_iff.mp hi).1 nd).mp (hi.trans hj.symm)
    | none =>
      rw [hi, hj] at e
      simp only at e
      have := sm x (List.mem_of_getElem? hi)
      rw [e] at this
      simp at this
      omega
  | none =>
    cases hj : L[j]? with
    | some y =>
      rw [hi, hj] at e
      simp only at e
      have := sm y (List.mem_of_getElem? hj)
      rw [← e] at this
      simp at this
      omega
    | none =>
      rw [hi, hj] at e
      simp only at e
      have := congrArg (fun z : PySem.Str => z.cps.size) e
      simp at this
      exact this
/-! ### methods by class -/
theorem dm_of {X : Cx} {T : Tab} {k np : Nat} {m : PySem.Str} {L : List (Nat × FDen)}
    (h : ∀ p ∈ L, (∀ i ∈ T.od p.1, T.nm i ≠ m) ∧ Cls X.K (T.ca p.1) ∧ ∃ f, Meth X.K (T.ca p.1) m f ∧ DF X.prog X.w X.K X.mg X.base T k f np p.2) : DM X T k m np (fun c => L.lookup c) := by
  refine ⟨fun c den e => ?_⟩
  have hm : (c, den) ∈ L := by
    clear h
    induction L with
    | nil => simp at e
    | cons q r ih =>
      rw [List.lookup_cons] at e
      cases hq : c == q.1 with
      | true =>
        rw [hq] at e
        cases e
        have : c = q.1 := eq_of_beq hq
        subst this
        exact List.mem_cons_self
      | false =>
        rw [hq] at e
        exact List.mem_cons_of_mem _ (ih e)
  exact h _ hm
theorem DF.mono {P : Program} {w : World} {K : PySem.W.Frag} {mg : PySem.Str → Option Value} {base : Heap} {T : Tab} {k j np : Nat} {f : Addr} {den : FDen} (c : DF P w K mg base T k f np den) (h : k ≤ j) : DF P w K mg base T j f np den := by
  obtain ⟨⟨fd, ps, hl, F, hb⟩, kp, len⟩ := c
  exact ⟨⟨fd, ps, hl, F.mono h, hb⟩, kp, len⟩
/-! ### the law's end -/
theorem walk_ofX {l : PySem.W.OpenLaw} {n k : Nat} {q : Program} {loose : List PySem.Str} {XP : (PySem.Str → Option Value) → Heap → Prop} {YP : World → Heap → Prop} {d : DefRec} {x : PySem.Str}
    (hn : l.most = some n) (hn2 : n ≤ sizeLine) (hdf : d.params.defaults = []) (hr : Room k callerA)
    (F : ∀ (w : World) (mg : PySem.Str → Option Value) (fa : Addr) (h : Heap), YP w h → h.Ns mainGlobals mg → mg d.name = some (.ref fa) →
      ∃ (K : PySem.W.Frag) (fd : FuncData) (sp : Sp), K.In h ∧ (∀ (s : Shared) (u : Value), BindsTo s fd ⟨[u], []⟩ [(x, u)]) ∧
        (∀ (H : Hp) (a : Addr) (ns : List Int), ns.length ≤ n → (∀ z ∈ ns, Builtin.Int.intBits z ≤ 1048576) → SqX K H a (ns.map V.int) → sp [.ref a] H (fun v _ => v = .bl true) fun _ _ _ => False) ∧
        ∀ base : Heap, K.In base → base.Ns mainGlobals mg → FnOk l.prog w K mg base (L2.CX l.prog w) k fa fd [x] sp) :
    PySem.W.WalkO q loose XP YP l.row.toRowW d [] (fun f vs => PySem.call f vs) := by
  refine Att.attach_callB hn hdf fun w s₀ s₁ mg mb fa o pm cd doc a vs ns G Y ho hd hcd hmg hobj hints hlen hbits hg => ?_
  obtain ⟨K, fd, sp, KX, hb, hsp, hF⟩ := F w mg fa _ Y G.T.g hmg
  refine law_call KX G.T.g G.T.b G.T.builtins G.T.nolimit hg hobj hints (Nat.le_trans hlen hn2) hr hF hb (fun H hO hS => hsp H a ns hlen hbits ?_) fun H e s' hc => ?_
  · rcases hS with h | ⟨o', its, n', h1, h2, h3, h4, h5, h6⟩
    · exact .inl h
    · have e := KX a o' h1
      rw [hobj] at e
      cases e
      have h4' : Data.seq vs.toArray 0 = Data.seq its n' := h4
      cases h4'
      exact .inr ⟨vs.toArray, _, h1, h5, h6⟩
  · obtain ⟨_, _, _, _, _, _, _, _, _, _, _, _, z⟩ := hc
    exact z
/-- the promise of the law's def, from its denotation -/
theorem law_sp {T : Tab} {K : PySem.W.Frag} {den : FDen} {H : Hp} {a : Addr} {ns : List Int} (hS : SqX K H a (ns.map V.int)) (h : ∃ cs, den [.lst (ns.map D.int)] [] = .ok (.bl true) cs) : spD T K 1 den [.ref a] H (fun v _ => v = .bl true) fun _ _ _ => False := by
  obtain ⟨cs, e⟩ := h
  have r : RpL T K H [] (ns.map D.int) (ns.map V.int) := by
    clear e hS
    induction ns with
    | nil => exact RpL.nil
    | cons i r ih => exact RpL.cons (rp_int.mpr rfl) ih
  refine ⟨rfl, H, [], [], [.lst (ns.map D.int)], ⟨Same.refl H, rfl, fun n c e => by simp at e, fun n n' c c' a e => by simp at e⟩, RpL.one (rp_lst.mpr ⟨a, _, rfl, hS, r⟩), ?_⟩
  rw [e]
  exact fun v H' I' m' _ _ _ r => rp_bl.mp r
end DL
end

section
set_option Elab.async false
set_option linter.all false
set_option maxRecDepth 100000
set_option maxHeartbeats 4000000
namespace DL
open PySem L2
/-! ### == of data without objects -/
mutual
def toP : D → PyData
  | .non => .none
  | .bl b => .bool b
  | .int i => .int i
  | .str s => .str s
  | .tup xs => .tuple (toPL xs)
  | .lst xs => .list (toPL xs)
  | _ => .none
def toPL : List D → List PyData
  | [] => []
  | x :: xs => toP x :: toPL xs
end
mutual
theorem toP_ok : ∀ (d : D) (n : Nat), d.okE false n = true → (toP d).plain = true ∧ (toP d).depth ≤ n
  | .non, n, _ => ⟨rfl, Nat.zero_le _⟩
  | .bl _, n, _ => ⟨rfl, Nat.zero_le _⟩
  | .int _, n, _ => ⟨rfl, Nat.zero_le _⟩
  | .str _, n, _ => ⟨rfl, Nat.zero_le _⟩
  | .tup xs, n + 1, h => by
    obtain ⟨h1, h2⟩ := toPL_ok xs n (by unfold D.okE at h; exact h)
    exact ⟨by unfold toP PyData.plain; exact h1, by unfold toP PyData.depth; omega⟩
  | .lst xs, n + 1, h => by
    obtain ⟨h1, h2⟩ := toPL_ok xs n (by unfold D.okE at h; exact h)
    exact ⟨by unfold toP PyData.plain; exact h1, by unfold toP PyData.depth; omega⟩
  | .tup xs, 0, h => by unfold D.okE at h; cases h
  | .lst xs, 0, h => by unfold D.okE at h; cases h
  | .obj _ xs, 0, h => by unfold D.okE at h; cases h
  | .obj _ xs, 1, h => by unfold D.okE at h; cases h
  | .obj _ xs, n + 2, h => by unfold D.okE at h; simp at h
  | .dic _ _, n, h => by unfold D.okE at h; cases h
  | .cell _, n, h => by unfold D.okE at h; cases h
  | .exc _ _ _, n, h => by unfold D.okE at h; cases h
theorem toPL_ok : ∀ (ds : List D) (n : Nat), D.okL false ds n = true → PyData.plainAll (toPL ds) = true ∧ PyData.depthAll (toPL ds) ≤ n
  | [], n, _ => ⟨rfl, Nat.zero_le _⟩
  | d :: ds, n, h => by
    unfold D.okL at h
    obtain ⟨h1, h2⟩ := Bool.and_eq_true_iff.mp h
    obtain ⟨a1, a2⟩ := toP_ok d n h1
    obtain ⟨b1, b2⟩ := toPL_ok ds n h2
    exact ⟨by unfold toPL PyData.plainAll; rw [a1, b1]; rfl, by unfold toPL PyData.depthAll; omega⟩
end
mutual
theorem toP_eqv : ∀ (a b : D) (n : Nat) (r : Bool), a.okE false n = true → b.okE false n = true → eqD a b = some r → PyData.eqv (toP a) (toP b) = r
  | .non, b, n, r, h1, h2, e => by
    cases b <;> simp [eqD, D.okE] at e h2 <;> (subst e; rfl)
  | .bl _, b, n, r, h1, h2, e => by
    cases b <;> simp [eqD, D.okE] at e h2 <;> (subst e; rfl)
  | .int _, b, n, r, h1, h2, e => by
    cases b <;> simp [eqD, D.okE] at e h2 <;> (subst e; rfl)
  | .str _, b, n, r, h1, h2, e => by
    cases b <;> simp [eqD, D.okE] at e h2 <;> (subst e; rfl)
  | .tup xs, b, n, r, h1, h2, e => by
    cases b with
    | tup ys =>
      cases n with
      | zero => unfold D.okE at h1; cases h1
      | succ n =>
        unfold D.okE at h1 h2
        unfold eqD at e
        unfold toP PyData.eqv
        exact toPL_eqv xs ys n r h1 h2 e
    | _ => first
      | (unfold eqD at e; cases e; rfl)
      | (unfold eqD at e; cases e)
  | .lst xs, b, n, r, h1, h2, e => by
    cases b with
    | lst ys =>
      cases n with
      | zero => unfold D.okE at h1; cases h1
      | succ n =>
        unfold D.okE at h1 h2
        unfold eqD at e
        unfold toP PyData.eqv
        exact toPL_eqv xs ys n r h1 h2 e
    | _ => first
      | (unfold eqD at e; cases e; rfl)
      | (unfold eqD at e; cases e)
  | .obj _ xs, b, n, r, h1, h2, e => by
    rcases n with _ | _ | n <;> simp [D.okE] at h1
  | .dic _ _, b, n, r, h1, h2, e => by simp [D.okE] at h1
  | .cell _, b, n, r, h1, h2, e => by simp [D.okE] at h1
  | .exc _ _ _, b, n, r, h1, h2, e => by simp [D.okE] at h1
theorem toPL_eqv : ∀ (xs ys : List D) (n : Nat) (r : Bool), D.okL false xs n = true → D.okL false ys n = true → eqL xs ys = some r → PyData.eqvAll (toPL xs) (toPL ys) = r
  | [], [], n, r, _, _, e => by unfold eqL at e; cases e; rfl
  | [], _ :: _, n, r, _, _, e => by unfold eqL at e; cases e; rfl
  | _ :: _, [], n, r, _, _, e => by unfold eqL at e; cases e; rfl
  | x :: xs, y :: ys, n, r, h1, h2, e => by
    unfold D.okL at h1 h2
    obtain ⟨a1, a2⟩ := Bool.and_eq_true_iff.mp h1
    obtain ⟨b1, b2⟩ := Bool.and_eq_true_iff.mp h2
    unfold eqL at e
    cases q1 : eqD x y with
    | none => simp [q1] at e
    | some r1 =>
      cases q2 : eqL xs ys with
      | none => simp [q1, q2] at e
      | some r2 =>
        simp only [q1, q2, Option.some.injEq] at e
        unfold toPL PyData.eqvAll
        rw [toP_eqv x y n r1 a1 b1 q1, toPL_eqv xs ys n r2 a2 b2 q2]
        exact e
end
section
variable {X : Cx} {T : Tab}
mutual
theorem reads_ok {pins : List (Addr × Obj)} {σ : St} {H : Hp} {s : Shared} {I : Hp} {m : List Addr} (J : Inv X pins σ H s) (si : Same I H) : ∀ (d : D) (n : Nat) (x : V) (v : Value), d.okE false n = true → Rp T X.K I m d x → RelV x v → ∃ as, Reads s.heap v (toP d) as
  | .non, n, x, v, _, r, rv => by
    cases rp_non.mp r
    cases rv
    exact ⟨_, .none⟩
  | .bl b, n, x, v, _, r, rv => by
    cases rp_bl.mp r
    cases rv
    exact ⟨_, .bool b⟩
  | .int i, n, x, v, _, r, rv => by
    cases rp_int.mp r
    obtain ⟨t, rfl⟩ := rv
    exact ⟨_, .int i t⟩
  | .str z, n, x, v, _, r, rv => by
    cases rp_str.mp r
    obtain ⟨t, rfl⟩ := rv
    exact ⟨_, .str z t⟩
  | .tup xs, n + 1, x, v, h, r, rv => by
    obtain ⟨a, vs, rfl, q, k⟩ := rp_tup.mp r
    cases rv
    obtain ⟨its, rr, ⟨o, e1, e2, n', e3⟩, z⟩ := J.tuple (SqT.same si q)
    obtain ⟨as, ra⟩ := readsL_ok J si xs n vs its (by unfold D.okE at h; exact h) k rr
    exact ⟨_, .tuple e1 e2 e3 (by simpa using ra)⟩
  | .lst xs, n + 1, x, v, h, r, rv => by
    obtain ⟨a, vs, rfl, q, k⟩ := rp_lst.mp r
    cases rv
    obtain ⟨z, its, n', rr, hl, e⟩ := (q.same si).lst J
    obtain ⟨as, ra⟩ := readsL_ok J si xs n vs its (by unfold D.okE at h; exact h) k rr
    exact ⟨_, .list e rfl rfl (by simpa using ra)⟩
  | .tup xs, 0, _, _, h, _, _ => by unfold D.okE at h; cases h
  | .lst xs, 0, _, _, h, _, _ => by unfold D.okE at h; cases h
  | .obj _ xs, 0, _, _, h, _, _ => by unfold D.okE at h; cases h
  | .obj _ xs, 1, _, _, h, _, _ => by unfold D.okE at h; cases h
  | .obj _ xs, n + 2, _, _, h, _, _ => by unfold D.okE at h; simp at h
  | .dic _ _, n, _, _, h, _, _ => by unfold D.okE at h; cases h
  | .cell _, n, _, _, h, _, _ => by unfold D.okE at h; cases h
  | .exc _ _ _, n, _, _, h, _, _ => by unfold D.okE at h; cases h
theorem readsL_ok {pins : List (Addr × Obj)} {σ : St} {H : Hp} {s : Shared} {I : Hp} {m : List Addr} (J : Inv X pins σ H s) (si : Same I H) : ∀ (ds : List D) (n : Nat) (xs : List V) (vs : List Value), D.okL false ds n = true → RpL T X.K I m ds xs → Vals xs vs → ∃ as, ReadsAll s.heap vs (toPL ds) as
  | [], n, xs, vs, _, r, rv => by
    cases r.inil
    cases rv
    exact ⟨_, .nil⟩
  | d :: ds, n, xs, vs, h, r, rv => by
    obtain ⟨x, r', rfl, q, k⟩ := r.inv
    cases rv with
    | cons r1 r2 =>
      unfold D.okL at h
      obtain ⟨h1, h2⟩ := Bool.and_eq_true_iff.mp h
      obtain ⟨as, a⟩ := reads_ok J si d n x _ h1 q r1
      obtain ⟨bs, b⟩ := readsL_ok J si ds n r' _ h2 k r2
      exact ⟨_, .cons a b⟩
end
theorem eqB0 {n h : Nat} (hh : h ≤ 60) : EqB X T n false h := by
  refine ⟨?_, ?_, ?_, ?_⟩
  · intro A pins s σ H x y v u I m a b r sb J si ra rb rv ru ha hb e
    obtain ⟨as, r1⟩ := reads_ok J si a h x v ha ra rv
    obtain ⟨bs, r2⟩ := reads_ok J si b h y u hb rb ru
    obtain ⟨p1, d1⟩ := toP_ok a h ha
    obtain ⟨p2, d2⟩ := toP_ok b h hb
    have un := sb.room.un
    exact SeqAt.eqAt_plain _ _ A s v u as bs r1 r2 p1 p2 (by omega) X.prog X.w X.xe _ ⟨toP_eqv a b h r ha hb e, H, J, Ext.rfl'⟩
  · intro A pins s σ H x y v u I m a b r sb J si ra rb rv ru ha hb e
    obtain ⟨as, r1⟩ := reads_ok J si a h x v ha ra rv
    obtain ⟨bs, r2⟩ := reads_ok J si b h y u hb rb ru
    obtain ⟨p1, d1⟩ := toP_ok a h ha
    obtain ⟨p2, d2⟩ := toP_ok b h hb
    have un := sb.room.un
    exact SeqAt.rcAt_plain r1 r2 p1 p2 (by omega) X.prog X.w X.xe _ ⟨by rw [toP_eqv a b h r ha hb e], H, J, Ext.rfl'⟩
  · intro A pins s σ H x y v u I m a b r sb J si ra rb rv ru ha hb e
    obtain ⟨as, r1⟩ := reads_ok J si a h x v ha ra rv
    obtain ⟨bs, r2⟩ := reads_ok J si b h y u hb rb ru
    obtain ⟨p1, d1⟩ := toP_ok a h ha
    obtain ⟨p2, d2⟩ := toP_ok b h hb
    have un := sb.room.un
    exact SeqAt.rcNe_plain r1 r2 p1 p2 (by omega) X.prog X.w X.xe _ ⟨by rw [toP_eqv a b h r ha hb e], H, J, Ext.rfl'⟩
  · intro A pins s σ H x y v u I m a bs r p ys sb J si ra ey q rb rv ru ha hb er
    subst ey
    obtain ⟨as, r1⟩ := reads_ok J si a h x v ha ra rv
    obtain ⟨p1, d1⟩ := toP_ok a h ha
    have un := sb.room.un
    have hall : D.okL false bs h = true := by
      clear er q rb
      induction bs with
      | nil => rfl
      | cons b bs ih =>
        unfold D.okL
        rw [(hb b List.mem_cons_self).1, ih fun b' h' => hb b' (List.mem_cons_of_mem _ h')]
        rfl
    obtain ⟨p2, d2⟩ := toPL_ok bs h hall
    have hany : ((toPL bs).any fun z => PyData.eqv z (toP a)) = r := by
      subst er
      clear q rb hall p2 d2
      induction bs with
      | nil => rfl
      | cons b bs ih =>
        obtain ⟨b1, r', b2⟩ := hb b List.mem_cons_self
        unfold toPL
        rw [List.any_cons, List.any_cons, ih fun b' h' => hb b' (List.mem_cons_of_mem _ h'), toP_eqv b a h r' b1 ha b2, b2]
        cases r' <;> rfl
    cases ru
    rcases q with q | q
    · obtain ⟨z, its, n', rr, hl, e⟩ := q.lst J
      obtain ⟨cs, r2⟩ := readsL_ok J si bs h ys its hall rb rr
      have rc : Reads s.heap (.ref p) (.list (toPL bs)) (p :: cs) := .list e rfl rfl (by simpa using r2)
      exact ⟨SeqAt.in_list_data rc r1 p2 p1 (by omega) ⟨by rw [hany], H, J, Ext.rfl'⟩, SeqAt.notIn_list_data rc r1 p2 p1 (by omega) ⟨by rw [hany], H, J, Ext.rfl'⟩⟩
    · obtain ⟨its, rr, ⟨o, e1, e2, n', e3⟩, z⟩ := J.tuple q
      obtain ⟨cs, r2⟩ := readsL_ok J si bs h ys its hall rb rr
      have rc : Reads s.heap (.ref p) (.tuple (toPL bs)) cs := .tuple e1 e2 e3 (by simpa using r2)
      exact ⟨SeqAt.in_tuple_data rc r1 p2 p1 (by omega) ⟨by rw [hany], H, J, Ext.rfl'⟩, SeqAt.notIn_tuple_data rc r1 p2 p1 (by omega) ⟨by rw [hany], H, J, Ext.rfl'⟩⟩
end
end DL
end

section
set_option Elab.async false
set_option linter.all false
set_option maxRecDepth 100000
set_option maxHeartbeats 4000000
namespace DL
open PySem L2
open Classical
noncomputable section
section
variable {X : Cx} {T : Tab} {W : WX} {tg e a b c : Expr} {f : Den D} {g : Den (List D)} {pos p : Pos}
/-- a text, sign by sign -/
def signsD (z : PySem.Str) : List D := z.cps.toList.map fun c => D.str ⟨#[c]⟩
def itS (f : Den D) : Den ItV := fun env cs => (f env cs).bind fun x cs => match x with
  | .str z => .ok ⟨signsD z, noChk⟩ cs
  | _ => .no
theorem di_str (h : DE X T W e f) : DI X T W tg e (itS f) := by
  refine PI.imp (pi_str h) ?_
  rintro σ H Q ⟨I, m, cs, env, er, sr, h⟩
  refine ⟨I, m, cs, env, er, sr, OutG.bindI h fun x cs1 v H1 I1 m1 s1 p1 sr1 r1 h1 => ?_⟩
  cases x with
  | str z =>
    refine ⟨z, rp_str.mp r1, h1.okI sr1 ?_⟩
    intro I' m' cs' H' s2 p2 sr2 _
    refine ⟨fun i d hd => ?_, ?_⟩
    · unfold signsD at hd
      rw [List.getElem?_map] at hd
      cases hc : z.cps.toList[i]? with
      | none => rw [hc] at hd; cases hd
      | some c =>
        rw [hc] at hd
        simp only [Option.map_some, Option.some.injEq] at hd
        subst hd
        have hi : i < z.cps.size := by
          have := (List.getElem?_eq_some_iff.mp hc).1
          simpa using this
        refine ⟨hi, fun x H2 y => ?_⟩
        obtain ⟨rfl, c', hc', rfl⟩ := y
        have e2 : z.cps.toList[i]? = z.cps[i]? := by simp
        rw [e2, hc'] at hc
        cases hc
        exact ⟨I', Same.refl _, sr2, rp_str.mpr rfl⟩
    · show z.cps.size ≤ (signsD z).length
      unfold signsD
      simp
  | _ => exact h1.elim
/-- enumerate of a list -/
def enumD (i : Nat) : List D → List D
  | [] => []
  | x :: r => .tup [.int (i : Int), x] :: enumD (i + 1) r
theorem enumD_get : ∀ {xs : List D} {i k : Nat} {d : D}, (enumD k xs)[i]? = some d → ∃ x, xs[i]? = some x ∧ d = .tup [.int ((k + i : Nat) : Int), x]
  | [], i, k, d, h => by simp [enumD] at h
  | x :: r, 0, k, d, h => by
    simp [enumD] at h
    exact ⟨x, rfl, h.symm⟩
  | x :: r, i + 1, k, d, h => by
    simp only [enumD, List.getElem?_cons_succ] at h
    obtain ⟨y, h1, h2⟩ := enumD_get h
    refine ⟨y, by simpa using h1, ?_⟩
    rw [h2]
    have e : k + 1 + i = k + (i + 1) := by omega
    rw [e]
theorem enumD_len : ∀ {xs : List D} {k : Nat}, (enumD k xs).length = xs.length
  | [], k => rfl
  | x :: r, k => by simp [enumD, enumD_len]
def itEn (g : Den (List D)) : Den ItV := fun env cs => (g env cs).bind fun ds cs => match ds with
  | [.lst xs] => .ok ⟨enumD 0 xs, noChk⟩ cs
  | [.cell n] => (match cs[n]? with
    | some (.lst xs) => .ok ⟨enumD 0 xs, fun cs => cs[n]? = some (.lst xs)⟩ cs
    | _ => .no)
  | _ => .no
/-- the list at a, of items xs, at every later state -/
def LsA (T : Tab) (K : PySem.W.Frag) (I : Hp) (m : List Addr) (xs : List D) (chk : List Cell → Prop) (a : Addr) : Prop :=
  ∀ I' m' cs H, Same I I' → m <+: m' → SR T K I' m' cs H → chk cs → ∃ us, SqL K H a us ∧ RpL T K I' m' xs us
theorem LsA.frz {K : PySem.W.Frag} {I : Hp} {m : List Addr} {xs : List D} {v : V} (r : Rp T K I m (.lst xs) v) {chk : List Cell → Prop} : ∃ a, v = .ref a ∧ LsA T K I m xs chk a := by
  obtain ⟨a, us, rfl, q1, q2⟩ := rp_lst.mp r
  exact ⟨a, rfl, fun I' m' cs H s p sr _ => ⟨us, ((q1.same s).same sr.same).l, RpL.mono s p q2⟩⟩
theorem LsA.cel {K : PySem.W.Frag} {I : Hp} {m : List Addr} {n : Nat} {xs : List D} {v : V} (r : Rp T K I m (.cell n) v) : ∃ a, v = .ref a ∧ LsA T K I m xs (fun cs => cs[n]? = some (.lst xs)) a := by
  obtain ⟨a, ea, rfl⟩ := rp_cell.mp r
  refine ⟨a, rfl, fun I' m' cs H s p sr hk => ?_⟩
  obtain ⟨a2, us2, e2, ea2, q3, q4⟩ := cell_lst sr (Rp.mono s p r) hk
  cases e2
  exact ⟨us2, .inl (.inl q3), q4⟩
def TpA (T : Tab) (K : PySem.W.Frag) (I : Hp) (m : List Addr) (xs : List D) (a : Addr) : Prop :=
  ∀ I' m' cs H, Same I I' → m <+: m' → SR T K I' m' cs H → ∃ us, SqT K H a us ∧ RpL T K I' m' xs us
theorem TpA.of {K : PySem.W.Frag} {I : Hp} {m : List Addr} {xs : List D} {v : V} (r : Rp T K I m (.tup xs) v) : ∃ a, v = .ref a ∧ TpA T K I m xs a := by
  obtain ⟨a, us, rfl, q1, q2⟩ := rp_tup.mp r
  exact ⟨a, rfl, fun I' m' cs H s p sr => ⟨us, SqT.same sr.same (SqT.same s q1), RpL.mono s p q2⟩⟩
theorem RI.enum {K : PySem.W.Frag} {I : Hp} {m : List Addr} {xs : List D} {chk : List Cell → Prop} {a : Addr} (h : LsA T K I m xs chk a) : RI T K I m ⟨enumD 0 xs, chk⟩ (Ite K a) := by
  intro I' m' cs' H' s2 p2 sr2 hk
  obtain ⟨us, q1, q2⟩ := h I' m' cs' H' s2 p2 sr2 hk
  refine ⟨fun i d hd => ?_, us, q1, by rw [enumD_len, q2.length]; exact Nat.le_refl _⟩
  obtain ⟨x, hx, rfl⟩ := enumD_get hd
  obtain ⟨v, e1, r1⟩ := q2.get hx
  refine ⟨⟨us, v, q1, e1⟩, fun y H2 yl => ?_⟩
  obtain ⟨Tt, x', rfl, hT, rfl, hy⟩ := yl
  have e2 := hy us q1
  rw [e1] at e2; cases e2
  obtain ⟨sr3, s3⟩ := sr2.newI (o := .tup [.int (i : Nat), v]) hT
  have e0 : ((0 + i : Nat) : Int) = ((i : Nat) : Int) := by simp
  refine ⟨_, s3, sr3, rp_tup.mpr ⟨Tt, _, rfl, .inl (.inl upd_same), RpL.cons (rp_int.mpr (by rw [e0])) (RpL.one (r1.mono s3 (List.prefix_refl _)))⟩⟩
theorem di_enum {elts : List Expr} {kk : Nat} {tpos : Pos} (hm : X.mg "enumerate" = none) (ha : DA X T W [e] g) (hg : Gl X "enumerate" := by rfl) (hs : starEach [e] X.env = [(false, eval e X.env)] := by rfl) :
    DI X T W (.Tuple elts kk tpos) (.Call (.Name "enumerate" p) [e] [] pos) (itEn g) := by
  refine PI.imp (pi_enum hg hm ha hs) ?_
  rintro σ H Q ⟨I, m, cs, env, er, sr, h⟩
  refine ⟨I, m, cs, env, er, sr, OutG.bindI h fun ds cs1 vs H1 I1 m1 s1 p1 sr1 r1 h1 => ?_⟩
  split at h1
  · obtain ⟨v, rfl, rv⟩ := r1.i1
    obtain ⟨a, rfl, L⟩ := LsA.frz (chk := noChk) rv
    obtain ⟨us, q1, q2⟩ := L I1 m1 cs1 H1 (Same.refl _) (List.prefix_refl _) sr1 trivial
    exact ⟨a, us, rfl, q1, h1.okI sr1 (RI.enum L)⟩
  · rename_i n
    obtain ⟨v, rfl, rv⟩ := r1.i1
    split at h1
    · rename_i xs hc
      obtain ⟨a, rfl, L⟩ := LsA.cel (xs := xs) rv
      obtain ⟨us, q1, q2⟩ := L I1 m1 cs1 H1 (Same.refl _) (List.prefix_refl _) sr1 hc
      exact ⟨a, us, rfl, q1, h1.okI sr1 (RI.enum L)⟩
    · exact h1.elim
  · exact h1.elim
/-- zip of two lists, of two tuples -/
def zipD : List D → List D → List D
  | x :: xs, y :: ys => .tup [x, y] :: zipD xs ys
  | _, _ => []
theorem zipD_get : ∀ {xs ys : List D} {i : Nat} {d : D}, (zipD xs ys)[i]? = some d → ∃ x y, xs[i]? = some x ∧ ys[i]? = some y ∧ d = .tup [x, y]
  | [], ys, i, d, h => by cases ys <;> simp [zipD] at h
  | x :: xs, [], i, d, h => by simp [zipD] at h
  | x :: xs, y :: ys, 0, d, h => by
    simp [zipD] at h
    exact ⟨x, y, rfl, rfl, h.symm⟩
  | x :: xs, y :: ys, i + 1, d, h => by
    simp only [zipD, List.getElem?_cons_succ] at h
    obtain ⟨x', y', h1, h2, h3⟩ := zipD_get h
    exact ⟨x', y', by simpa using h1, by simpa using h2, h3⟩
theorem zipD_len : ∀ {xs ys : List D}, (zipD xs ys).length = min xs.length ys.length
  | [], ys => by cases ys <;> simp [zipD]
  | x :: xs, [] => by simp [zipD]
  | x :: xs, y :: ys => by simp [zipD, zipD_len] <;> omega
/-- the items of a list as a loop sees them, and what keeps them -/
def liveL (cs : List Cell) : D → Option (List D × (List Cell → Prop))
  | .lst xs => some (xs, noChk)
  | .cell n => (match cs[n]? with
    | some (.lst xs) => some (xs, fun cs => cs[n]? = some (.lst xs))
    | _ => none)
  | _ => none
def itZ (g : Den (List D)) : Den ItV := fun env cs => (g env cs).bind fun ds cs => match ds with
  | [x, y] => (match x, y with
    | .tup xs, .tup ys => .ok ⟨zipD xs ys, noChk⟩ cs
    | x, y => (match liveL cs x, liveL cs y with
      | some (xs, p), some (ys, q) => .ok ⟨zipD xs ys, fun cs => p cs ∧ q cs⟩ cs
      | _, _ => .no))
  | _ => .no
theorem liveL_ok {K : PySem.W.Frag} {I : Hp} {m : List Addr} {cs : List Cell} {x : D} {v : V} {xs : List D} {q : List Cell → Prop} (r : Rp T K I m x v) (h : liveL cs x = some (xs, q)) : (∃ a, v = .ref a ∧ LsA T K I m xs q a) ∧ q cs := by
  unfold liveL at h
  split at h
  · cases h
    exact ⟨LsA.frz r, trivial⟩
  · rename_i n
    split at h
    · rename_i ys hc
      cases h
      exact ⟨LsA.cel r, hc⟩
    · cases h
  · cases h
theorem RI.zipL {K : PySem.W.Frag} {I : Hp} {m : List Addr} {xs ys : List D} {p q : List Cell → Prop} {a b : Addr} (h1 : LsA T K I m xs p a) (h2 : LsA T K I m ys q b) : RI T K I m ⟨zipD xs ys, fun cs => p cs ∧ q cs⟩ (Itz K a b) := by
  intro I' m' cs' H' s2 p2 sr2 hk
  obtain ⟨us, a1, a2⟩ := h1 I' m' cs' H' s2 p2 sr2 hk.1
  obtain ⟨ws, b1, b2⟩ := h2 I' m' cs' H' s2 p2 sr2 hk.2
  refine ⟨fun i d hd => ?_, us, ws, a1, b1, ?_⟩
  · obtain ⟨x, y, hx, hy, rfl⟩ := zipD_get hd
    obtain ⟨v, e1, r1⟩ := a2.get hx
    obtain ⟨u, e2, r2⟩ := b2.get hy
    refine ⟨⟨us, ws, v, u, a1, b1, e1, e2⟩, fun z H2 yl => ?_⟩
    obtain ⟨Tt, x', y', rfl, hT, rfl, f1, f2⟩ := yl
    have z1 := f1 us a1
    rw [e1] at z1; cases z1
    have z2 := f2 ws b1
    rw [e2] at z2; cases z2
    obtain ⟨sr3, s3⟩ := sr2.newI (o := .tup [v, u]) hT
    exact ⟨_, s3, sr3, rp_tup.mpr ⟨Tt, _, rfl, .inl (.inl upd_same), RpL.cons (r1.mono s3 (List.prefix_refl _)) (RpL.one (r2.mono s3 (List.prefix_refl _)))⟩⟩
  · have l1 := a2.length
    have l2 := b2.length
    show us.length ≤ (zipD xs ys).length ∨ ws.length ≤ (zipD xs ys).length
    rw [zipD_len]
    omega
theorem RI.zipT {K : PySem.W.Frag} {I : Hp} {m : List Addr} {xs ys : List D} {a b : Addr} (h1 : TpA T K I m xs a) (h2 : TpA T K I m ys b) : RI T K I m ⟨zipD xs ys, noChk⟩ (RZ.ItzT K a b) := by
  intro I' m' cs' H' s2 p2 sr2 hk
  obtain ⟨us, a1, a2⟩ := h1 I' m' cs' H' s2 p2 sr2
  obtain ⟨ws, b1, b2⟩ := h2 I' m' cs' H' s2 p2 sr2
  refine ⟨fun i d hd => ?_, us, ws, a1, b1, ?_⟩
  · obtain ⟨x, y, hx, hy, rfl⟩ := zipD_get hd
    obtain ⟨v, e1, r1⟩ := a2.get hx
    obtain ⟨u, e2, r2⟩ := b2.get hy
    refine ⟨⟨us, ws, v, u, a1, b1, e1, e2⟩, fun z H2 yl => ?_⟩
    obtain ⟨Tt, x', y', rfl, hT, rfl, f1, f2⟩ := yl
    have z1 := f1 us a1
    rw [e1] at z1; cases z1
    have z2 := f2 ws b1
    rw [e2] at z2; cases z2
    obtain ⟨sr3, s3⟩ := sr2.newI (o := .tup [v, u]) hT
    exact ⟨_, s3, sr3, rp_tup.mpr ⟨Tt, _, rfl, .inl (.inl upd_same), RpL.cons (r1.mono s3 (List.prefix_refl _)) (RpL.one (r2.mono s3 (List.prefix_refl _)))⟩⟩
  · have l1 := a2.length
    have l2 := b2.length
    show us.length ≤ (zipD xs ys).length ∨ ws.length ≤ (zipD xs ys).length
    rw [zipD_len]
    omega
theorem di_zip {elts : List Expr} {kk : Nat} {tpos : Pos} (hm : X.mg "zip" = none) (ha : DA X T W [a, b] g) (hg : Gl X "zip" := by rfl) (hs : starEach [a, b] X.env = (false, eval a X.env) :: starEach [b] X.env := by rfl) (hpl : (backTo pos (starEach [b] X.env)).any (·.1) = false := by rfl) :
    DI X T W (.Tuple elts kk tpos) (.Call (.Name "zip" p) [a, b] [] pos) (itZ g) := by
  refine PI.imp (RZ.pi_zipA hg hm ha hs hpl) ?_
  rintro σ H Q ⟨I, m, cs, env, er, sr, h⟩
  refine ⟨I, m, cs, env, er, sr, OutG.bindI h fun ds cs1 vs H1 I1 m1 s1 p1 sr1 r1 h1 => ?_⟩
  split at h1
  · rename_i x y
    obtain ⟨v, u, rfl, rv, ru⟩ := r1.i2
    split at h1
    · rename_i xs ys
      obtain ⟨a, rfl, A⟩ := TpA.of rv
      obtain ⟨b, rfl, B⟩ := TpA.of ru
      obtain ⟨us, a1, a2⟩ := A I1 m1 cs1 H1 (Same.refl _) (List.prefix_refl _) sr1
      obtain ⟨ws, b1, b2⟩ := B I1 m1 cs1 H1 (Same.refl _) (List.prefix_refl _) sr1
      exact ⟨a, b, us, ws, rfl, .inr ⟨a1, b1, h1.okI sr1 (RI.zipT A B)⟩⟩
    · split at h1
      · rename_i xs p ys q e1 e2
        obtain ⟨⟨a, rfl, A⟩, k1⟩ := liveL_ok rv e1
        obtain ⟨⟨b, rfl, B⟩, k2⟩ := liveL_ok ru e2
        obtain ⟨us, a1, a2⟩ := A I1 m1 cs1 H1 (Same.refl _) (List.prefix_refl _) sr1 k1
        obtain ⟨ws, b1, b2⟩ := B I1 m1 cs1 H1 (Same.refl _) (List.prefix_refl _) sr1 k2
        exact ⟨a, b, us, ws, rfl, .inl ⟨a1, b1, h1.okI sr1 (RI.zipL A B)⟩⟩
      · exact h1.elim
  · exact h1.elim
end
end
end DL
end

section
set_option Elab.async false
set_option linter.all false
set_option maxRecDepth 100000
set_option maxHeartbeats 4000000
namespace DL
open PySem L2
open Classical
noncomputable section
section
variable {X : Cx} {T : Tab} {W : WX} {tg e a b c : Expr} {f h : Den D} {g : Den (List D)} {pos p : Pos}
/-! ### x, y, z = a, b, c -/
def sPar3 (i j l : Nat) (g : Den (List D)) : SDen := fun env cs => (g env cs).bindS env fun ds cs => match ds with
  | [d, e, f] => .nx (((env.set i (some d)).set j (some e)).set l (some f)) cs
  | _ => .no
theorem ds_par3 {i j l : Nat} {x y z : PySem.Str} {px py pz pt : Pos} {kt k2 pt2} {g : Den (List D)} (hc : X.calm = true) (hN : X.N.Nodup) (ha : DA X T W [a, b, c] g) (hi : X.N[i]? = some x := by rfl) (hj : X.N[j]? = some y := by rfl) (hl : X.N[l]? = some z := by rfl) (hij : i ≠ j := by decide) (hil : i ≠ l := by decide) (hjl : j ≠ l := by decide)
    (hx : X.env.scope.names.lookup x = some .local := by rfl) (hy : X.env.scope.names.lookup y = some .local := by rfl) (hz : X.env.scope.names.lookup z = some .local := by rfl)
    (hw : swappedStores [.Tuple [.Name x px, .Name y py, .Name z pz] kt pt] (.Tuple [a, b, c] k2 pt2) X.env = pure (some [x, y, z]) := by rfl)
    (hs : swapsWithSole [.Tuple [.Name x px, .Name y py, .Name z pz] kt pt] (.Tuple [a, b, c] k2 pt2) pos.line X.env = pure false := by rfl) :
    DS X T W (.Assign [.Tuple [.Name x px, .Name y py, .Name z pz] kt pt] (.Tuple [a, b, c] k2 pt2) pos) (sPar3 i j l g) := by
  refine PS.imp (ps_par3 hc hN hi hj hl hij hil hjl hx hy hz ha hw hs) ?_
  rintro B σ H ⟨I, m, cs, env, er, sr, h⟩
  refine ⟨I, m, cs, env, er, sr, SOk.bindE h er fun ds cs1 vs H1 I1 m1 s1 p1 sr1 r1 h1 => ?_⟩
  split at h1
  · obtain ⟨v, r, rfl, q1, q2⟩ := r1.inv
    obtain ⟨u, w, rfl, q3, q4⟩ := RpL.i2 q2
    exact ⟨v, u, w, rfl, SOk.nxI h1 sr1 ((((er.mono s1 p1).set q1).set q3).set q4)⟩
  · exact h1.elim
/-! ### text * int -/
def mulSD (x y : D) (cs : List Cell) : Out D := match x, y with
  | .str z, .int n => if n < 1 then (if lo63 n then .ok (.str Str.empty) cs else .no) else if n = 1 ∨ z.length = 0 then (if hi63 n then .ok (.str z) cs else .no) else if hi63F n (z.length * n.toNat) then .ok (.str ⟨(List.replicate n.toNat z.cps).foldl (· ++ ·) #[]⟩) cs else .no
  | _, _ => .no
theorem fold_size (a : Array Nat) : ∀ (k : Nat) (acc : Array Nat), ((List.replicate k a).foldl (· ++ ·) acc).size = acc.size + a.size * k
  | 0, acc => by simp
  | k + 1, acc => by
    rw [List.replicate_succ, List.foldl_cons, fold_size a k, Array.size_append, Nat.mul_succ]
    omega
theorem op_mulS : OpR X (binaryOp .Mult) (fun x y H Q => ∃ z n, x = .str z ∧ y = .int n ∧ ((n < 1 ∧ -(2 ^ 63) ≤ n ∧ Q (.str Str.empty) H) ∨ (1 ≤ n ∧ (n = 1 ∨ z.length = 0) ∧ n < 2 ^ 63 ∧ Q (.str z) H) ∨
    (1 ≤ n ∧ ¬ (n = 1 ∨ z.length = 0) ∧ n < 2 ^ 63 ∧ z.length * n.toNat ≤ sizeLine ∧ Q (.str ⟨(List.replicate n.toNat z.cps).foldl (· ++ ·) #[]⟩) H))) := by
  intro pins s σ H x y v u Q I rx ry h
  obtain ⟨z, n, rfl, rfl, h⟩ := h
  obtain ⟨t, rfl⟩ := rx
  obtain ⟨t', rfl⟩ := ry
  have big : (sizeLine : Nat) = 16777216 := by decide
  have rng : ∀ k : Int, 1 ≤ k → k < 2 ^ 63 → (decide (k < -(2 ^ 63 : Int)) || decide (k ≥ 2 ^ 63)) = false := fun k h1 h2 => by
    rw [decide_eq_false (by omega), decide_eq_false (by omega)]; rfl
  rcases h with ⟨h1, h2, q⟩ | ⟨h1, h2, h3, q⟩ | ⟨h1, h2, h3, h4, q⟩
  · exact P.mul_str_none h1 (by omega) ⟨.str Str.empty, H, I.tok _, ⟨_, rfl⟩, q⟩
  · have e : (n == 1 || z.length == 0) = true := Bool.or_eq_true_iff.mpr (h2.imp beq_iff_eq.mpr beq_iff_eq.mpr)
    refine P.mul_str (rng n h1 h3) (fun _ k => by rw [e] at k; cases k) (fun _ k => by rw [e] at k; cases k) ?_
    rw [if_neg (by omega), if_pos e]
    exact ⟨.str z, H, I, ⟨_, rfl⟩, q⟩
  · have e : ¬ (n == 1 || z.length == 0) = true := fun k => h2 ((Bool.or_eq_true_iff.mp k).imp beq_iff_eq.mp beq_iff_eq.mp)
    refine P.mul_str (rng n h1 h3) (fun _ _ => ?_) (fun _ _ => ?_) ?_
    · have hz : (z.length : Int) * n ≤ 16777216 := by
        have e1 : ((n.toNat : Nat) : Int) = n := Int.toNat_of_nonneg (by omega)
        have e2 : ((z.length * n.toNat : Nat) : Int) = (z.length : Int) * n := by rw [Int.natCast_mul, e1]
        omega
      have hd : (z.length : Int) ≤ (2 ^ 63 - 1) / n := by
        rw [Int.le_ediv_iff_mul_le (by omega)]
        omega
      omega
    · unfold Builtin.Str.tooLong
      exact decide_eq_false (by omega)
    · rw [if_neg (by omega), if_neg e]
      exact ⟨by show ((List.replicate n.toNat z.cps).foldl (· ++ ·) #[]).size ≤ sizeLine; rw [fold_size]; have h5 : z.cps.size * n.toNat ≤ sizeLine := h4; simpa using h5, .str _, H, I.tok _, ⟨_, rfl⟩, q⟩
theorem hk_mulS {K : PySem.W.Frag} : Hk2 T K (fun x y H Q => ∃ z n, x = .str z ∧ y = .int n ∧ ((n < 1 ∧ -(2 ^ 63) ≤ n ∧ Q (.str Str.empty) H) ∨ (1 ≤ n ∧ (n = 1 ∨ z.length = 0) ∧ n < 2 ^ 63 ∧ Q (.str z) H) ∨
    (1 ≤ n ∧ ¬ (n = 1 ∨ z.length = 0) ∧ n < 2 ^ 63 ∧ z.length * n.toNat ≤ sizeLine ∧ Q (.str ⟨(List.replicate n.toNat z.cps).foldl (· ++ ·) #[]⟩) H))) mulSD := by
  intro I m cs H x y v u Q E sr rx ry h
  unfold mulSD at h
  split at h
  · rename_i z n
    refine ⟨z, n, rp_str.mp rx, rp_int.mp ry, ?_⟩
    split at h
    · rename_i h1
      split at h
      · rename_i h2
        exact .inl ⟨h1, h2, h.okI sr (rp_str.mpr rfl)⟩
      · exact h.elim
    · rename_i h1
      split at h
      · rename_i h2
        split at h
        · rename_i h3
          exact .inr (.inl ⟨by omega, h2, h3, h.okI sr (rp_str.mpr rfl)⟩)
        · exact h.elim
      · rename_i h2
        split at h
        · rename_i h3
          exact .inr (.inr ⟨by omega, h2, h3.1, h3.2, h.okI sr (rp_str.mpr rfl)⟩)
        · exact h.elim
  · exact h.elim
theorem de_mulS (ha : DE X T W a f) (hb : DE X T W b h) : DE X T W (.BinOp a .Mult b pos) (d2 f h mulSD) := de_op op_mulS hk_mulS ha hb

/-! ### a list made by + or *, a cell -/
def addLC (x y : D) (cs : List Cell) : Out D := match both (itemsL cs x) (itemsL cs y) with
  | some (i, j) => if fits (i.length + j.length) then .ok (.cell cs.length) (cs ++ [.lst (i ++ j)]) else .no
  | none => .no
theorem hk_addLC {K : PySem.W.Frag} : Hk2 T K (fun x y H Q => ∃ l b xs zs, x = .ref l ∧ y = .ref b ∧ SqX K H l xs ∧ SqX K H b zs ∧ xs.length + zs.length ≤ sizeLine ∧ ∀ p, H p = none → Q (.ref p) (upd H p (.lst (xs ++ zs)))) addLC := by
  intro I m cs H x y v u Q E sr rx ry h
  unfold addLC at h
  cases e3 : both (itemsL cs x) (itemsL cs y) with
  | some p =>
    obtain ⟨i, j⟩ := p
    obtain ⟨h1, h2⟩ := both_ok e3
    simp only [e3] at h
    split at h
    · rename_i hk
      obtain ⟨a1, vs, rfl, q1, r1⟩ := itemsL_ok sr rx h1
      obtain ⟨a2, us, rfl, q2, r2⟩ := itemsL_ok sr ry h2
      refine ⟨a1, a2, vs, us, rfl, rfl, q1, q2, by rw [← r1.length, ← r2.length]; exact hk, fun p hp => ?_⟩
      have sr2 := sr.newC (o := .lst (vs ++ us)) (c := .lst (i ++ j)) hp (r1.append r2)
      exact h (.ref p) _ I (m ++ [p]) (Same.refl I) (List.prefix_append _ _) sr2 (rp_cell.mpr ⟨p, by rw [← sr.len]; simp, rfl⟩)
    · exact h.elim
  | none => simp only [e3] at h; exact h.elim
theorem de_addC (ha : DE X T W a f) (hb : DE X T W b h) : DE X T W (.BinOp a .Add b pos) (d2 f h addLC) := de_op op_catL hk_addLC ha hb
def mulLC (x y : D) (cs : List Cell) : Out D := match both (itemsL cs x) (asI y) with
  | some (xs, k) => if in63F k (xs.length * k.toNat) then .ok (.cell cs.length) (cs ++ [.lst (List.replicate k.toNat xs).flatten]) else .no
  | none => .no
theorem hk_mulLC {K : PySem.W.Frag} : Hk2 T K (fun x y H Q => ∃ l k xs, x = .ref l ∧ y = .int k ∧ DL.SqX K H l xs ∧ -(2 ^ 63) ≤ k ∧ k < 2 ^ 63 ∧ xs.length * k.toNat ≤ sizeLine ∧ ∀ p, H p = none → Q (.ref p) (upd H p (.lst (List.replicate k.toNat xs).flatten))) mulLC := by
  intro I m cs H x y v u Q E sr rx ry h
  unfold mulLC at h
  cases e3 : both (itemsL cs x) (asI y) with
  | some p =>
    obtain ⟨xs, k⟩ := p
    obtain ⟨h1, h2⟩ := both_ok e3
    have e := asI_ok h2; subst e
    simp only [e3] at h
    split at h
    · rename_i hk
      obtain ⟨k1, k2, k3⟩ := hk
      obtain ⟨a1, vs, rfl, q1, r1⟩ := itemsL_ok sr rx h1
      refine ⟨a1, k, vs, rfl, rp_int.mp ry, q1, k1, k2, by rw [← r1.length]; exact k3, fun p hp => ?_⟩
      have sr2 := sr.newC (o := .lst (List.replicate k.toNat vs).flatten) (c := .lst (List.replicate k.toNat xs).flatten) hp (r1.rep _)
      exact h (.ref p) _ I (m ++ [p]) (Same.refl I) (List.prefix_append _ _) sr2 (rp_cell.mpr ⟨p, by rw [← sr.len]; simp, rfl⟩)
    · exact h.elim
  | none => simp only [e3] at h; exact h.elim
theorem de_mulC (ha : DE X T W a f) (hb : DE X T W b h) : DE X T W (.BinOp a .Mult b pos) (d2 f h mulLC) := de_op op_repX hk_mulLC ha hb
/-! ### int(x): an int, a flag, a text -/
def intX (xs : List D) (cs : List Cell) : Out D := match xs with
  | [.int i] => .ok (.int i) cs
  | [.bl k] => .ok (.int (if k then 1 else 0)) cs
  | [.str z] => (match PySem.intText? z with
    | some n => if le640 z.length then .ok (.int n) cs else .no
    | none => .no)
  | _ => .no
theorem CallR.or {fv : Value} {r r' : List V → Hp → VK → Prop} (h : CallR X fv r) (h' : CallR X fv r') : CallR X fv (fun xs H Q => r xs H Q ∨ r' xs H Q) := by
  intro pins s σ H xs us Q I rs q
  rcases q with q | q
  · exact h pins s σ H xs us Q I rs q
  · exact h' pins s σ H xs us Q I rs q
theorem hk_intX {K : PySem.W.Frag} : HkC T K (fun xs H Q => ((∃ i, xs = [.int i] ∧ Q (.int i) H) ∨ ∃ k, xs = [.bl k] ∧ Q (.int (if k then 1 else 0)) H) ∨ (∃ a n, xs = [.str a] ∧ PySem.intText? a = some n ∧ a.length ≤ 640 ∧ Q (.int n) H)) intX := by
  intro I m cs H xs vs Q E sr rx h
  unfold intX at h
  split at h
  · obtain ⟨v, rfl, r⟩ := rx.i1
    exact .inl (.inl ⟨_, by rw [rp_int.mp r], h.okI sr (rp_int.mpr rfl)⟩)
  · obtain ⟨v, rfl, r⟩ := rx.i1
    exact .inl (.inr ⟨_, by rw [rp_bl.mp r], h.okI sr (rp_int.mpr rfl)⟩)
  · obtain ⟨v, rfl, r⟩ := rx.i1
    split at h
    · rename_i n hn
      split at h
      · rename_i hl
        exact .inr ⟨_, n, by rw [rp_str.mp r], hn, hl, h.okI sr (rp_int.mpr rfl)⟩
      · exact h.elim
    · exact h.elim
  · exact h.elim
theorem de_int1 (hm : X.mg "int" = none) (ha : DA X T W [e] g) (hg : Gl X "int" := by rfl) (he : starEach [e] X.env = (false, eval e X.env) :: starEach [] X.env := by rfl) : DE X T W (.Call (.Name "int" p) [e] [] pos) (dCall g intX) :=
  de_callTy (CallR.or call_int1 call_int_str) hk_intX hm ha (hg := hg) (he := he) (hpl := rfl)
/-! ### isinstance(e, C) of an own class -/
/-- what isinstance asks of the class of an instance -/
structure IsX (K : PySem.W.Frag) (C : Addr) : Prop where
  cl : Cls K C
  ha : PySem.W.findIn K (.ref C) "__class__" = some (some (.builtin "object.__class__"))
  hn : PySem.W.specialIn K (.builtin "object.__class__") "__get__" = some (some (.builtin "getset_descriptor.__get__"))
  htk : PySem.W.takesIn K (.builtin "object.__class__") = some true
  hm : PySem.W.mroIn K C (.type "object") = some true
/-- the answers, by class; None is no instance -/
structure IsT (K : PySem.W.Frag) (T : Tab) (C : Addr) (L : List (Nat × Bool)) : Prop where
  ob : ∀ p ∈ L, IsX K (T.ca p.1) ∧ PySem.W.kitOne K (.ref (T.ca p.1)) (.ref C) = some p.2
  non : PySem.W.kitOne K (.type "NoneType") (.ref C) = some false
def isiD (L : List (Nat × Bool)) (x : D) (cs : List Cell) : Out D := match x with
  | .non => .ok (.bl false) cs
  | .obj c _ => (match L.lookup c with
    | some b => .ok (.bl b) cs
    | none => .no)
  | .cell n => (match cs[n]? with
    | some (.ins c _ _) => (match L.lookup c with
      | some b => .ok (.bl b) cs
      | none => .no)
    | _ => .no)
  | _ => .no
theorem mem_lk {L : List (Nat × Bool)} {c : Nat} {b : Bool} (h : L.lookup c = some b) : (c, b) ∈ L := by
  induction L with
  | nil => simp at h
  | cons q r ih =>
    rw [List.lookup_cons] at h
    cases hq : c == q.1 with
    | true =>
      rw [hq] at h
      cases h
      have : c = q.1 := eq_of_beq hq
      subst this
      exact List.mem_cons_self
    | false =>
      rw [hq] at h
      exact List.mem_cons_of_mem _ (ih h)
def rIsi (K : PySem.W.Frag) (C : Addr) : List V → Hp → VK → Prop := fun xs H Q => ∃ x t b, xs = [x, .ref C] ∧ TyOf K H x t ∧ PySem.W.kitOne K t (.ref C) = some b ∧ Q (.bl b) H
theorem call_isi {C : Addr} : CallR X (.builtin "isinstance") (rIsi X.K C) := by
  intro pins s σ H xs us Q I r h
  obtain ⟨x, t, b, rfl, ty, e, q⟩ := h
  obtain ⟨u, w', rfl, ru, rw'⟩ := vals2 r
  cases rw'
  exact isinst_ok I ru ty e fun tk => ⟨.bl b, H, I.tok _, rfl, q⟩
theorem de_isi {C : Addr} {L : List (Nat × Bool)} {y : PySem.Str} {py : Pos} (M : IsT X.K T C L) (hm : X.mg "isinstance" = none) (hC : X.mg y = some (.ref C)) (ha : DE X T W e f) (hg : Gl X "isinstance" := by rfl) (hy : Gl X y := by rfl) (hdy : (y == ("__debug__" : PySem.Str)) = false := by decide)
    (he : starEach [e, .Name y py] X.env = (false, eval e X.env) :: starEach [.Name y py] X.env := by rfl) (he2 : starEach [.Name y py] X.env = (false, eval (.Name y py) X.env) :: starEach [] X.env := by rfl) (hpl : (backTo pos (starEach [.Name y py] X.env)).any (·.1) = false := by rfl) :
    DE X T W (.Call (.Name "isinstance" p) [e, .Name y py] [] pos) (d1 f (isiD L)) := by
  have hb : bootBuiltins "isinstance" = some (.builtin "isinstance") := by decide +kernel
  refine PE.imp (pe_callB (call_isi (C := C)) hg hm hb (pa_cons ha (pa_cons (pe_glob hy hC (v := .ref C) rfl hdy) pa_nil he2) he) (by decide) (by decide) he hpl) ?_
  rintro σ H Q ⟨I, m, cs, env, er, sr, h⟩
  refine ⟨I, m, cs, env, er, sr, OutG.bindI h fun x cs1 v H1 I1 m1 s1 p1 sr1 r1 h1 => ?_⟩
  show rIsi X.K C [v, .ref C] H1 Q
  cases x with
  | non =>
    cases rp_non.mp r1
    exact ⟨_, _, _, rfl, .non, M.non, h1.okI sr1 (rp_bl.mpr rfl)⟩
  | obj c ds =>
    unfold isiD at h1
    simp only at h1
    cases hl : L.lookup c with
    | none => simp only [hl] at h1; exact h1.elim
    | some b =>
      simp only [hl] at h1
      obtain ⟨i1, k⟩ := M.ob _ (mem_lk hl)
      unfold Rp at r1
      obtain ⟨a, dx, gs, rfl, q, _⟩ := r1
      exact ⟨_, _, _, rfl, .ins (sr1.same _ _ q) i1.cl i1.ha i1.hn i1.htk i1.hm, k, h1.okI sr1 (rp_bl.mpr rfl)⟩
  | cell n =>
    unfold isiD at h1
    simp only at h1
    split at h1
    · rename_i c ks ds hc
      cases hl : L.lookup c with
      | none => simp only [hl] at h1; exact h1.elim
      | some b =>
        simp only [hl] at h1
        obtain ⟨i1, k⟩ := M.ob _ (mem_lk hl)
        obtain ⟨a, e1, rfl⟩ := rp_cell.mp r1
        obtain ⟨a', ob, q1, q2, q3, q4⟩ := sr1.at_ n _ hc (by intro z; cases z)
        rw [e1] at q1; cases q1
        cases ob with
        | ins C' dx gs =>
          obtain ⟨rfl, _, _⟩ := q4
          exact ⟨_, _, _, rfl, .ins q3 i1.cl i1.ha i1.hn i1.htk i1.hm, k, h1.okI sr1 (rp_bl.mpr rfl)⟩
        | _ => exact q4.elim
    · exact h1.elim
  | _ => exact h1.elim
end
section
variable {fa : List He.Fa} {fn : List He.DefD} {fb : List Fb} {K : PySem.W.Frag} {mg : PySem.Str → Option Value}
theorem Kn.isx (z : Kn fa fn fb K mg) (i : Nat) {x : PySem.Str} (h : fb[i]? = some (.isx x) := by rfl) : IsX K (He.ga K x) := by
  obtain ⟨h1, h2⟩ := He.ba (z.fb_ i h)
  obtain ⟨h3, h4⟩ := He.ba h2
  obtain ⟨h5, h6⟩ := He.ba h4
  obtain ⟨h7, h8⟩ := He.ba h6
  exact ⟨He.cls_ok h1, He.eqO_ok h3, He.eqO_ok h5, of_decide_eq_true h7, of_decide_eq_true h8⟩
theorem Kn.kit (z : Kn fa fn fb K mg) (i : Nat) {x y : PySem.Str} {b : Bool} (h : fb[i]? = some (.kit x y b) := by rfl) : PySem.W.kitOne K (.ref (He.ga K x)) (.ref (He.ga K y)) = some b := of_decide_eq_true (z.fb_ i h)
theorem Kn.kitN (z : Kn fa fn fb K mg) (i : Nat) {y : PySem.Str} (h : fb[i]? = some (.kitN y) := by rfl) : PySem.W.kitOne K (.type "NoneType") (.ref (He.ga K y)) = some false := of_decide_eq_true (z.fb_ i h)
end
end
end DL
end

section
set_option Elab.async false
set_option linter.all false
set_option maxRecDepth 100000
set_option maxHeartbeats 4000000
namespace DL
open PySem L2
section
variable {P : Program} {w : World} {K : PySem.W.Frag} {mg : PySem.Str → Option Value} {base : Heap} {T : Tab}
/-- the law's def, its function object in hand -/
theorem fn_mk {x qual : PySem.Str} {params : Arguments} {body : List Stmt} {scope : Scope} {f : Addr} {fd : FuncData} {N ps : List PySem.Str} {n np k : Nat} {b : SDen} (F : FunD K x qual params body scope [] [] f fd) (S : FnScope N ps scope) (hn : N.length = n := by rfl) (hp : ps.length = np := by rfl)
    (hbody : ∀ (cdv : Value) (A : Around) (outer : List PySem.Env) (s : Shared) (H : Hp) (E : XK), Room k (A.deeper (PyProof.Rows.envOfC qual scope s.heap.objs.size f cdv)) →
      DSs (cxOf (L2.CX P w) P w K mg base N qual scope f cdv A outer s H E) T (fun cls d _ H => E cls d H) body b) : FnOk P w K mg base (L2.CX P w) (k + 1) f fd ps (spD T K np (mkF n np b)) := by
  subst hn hp
  have hpl : ps.length ≤ N.length := by have := congrArg List.length S.pre; rw [List.length_take] at this; omega
  refine F.ok S (fun vs H Q E h => h.1) fun cdv A outer s H vs Q E hr h => ⟨_, hbody cdv A outer s H E hr, ?_⟩
  obtain ⟨hl, I, m, cs, ds, sr, r, h⟩ := h
  refine ⟨I, m, cs, env0 N.length ds, er_start r (by omega), sr, ?_⟩
  unfold mkF at h
  rw [if_pos (by rw [r.length]; exact hl)] at h
  exact sok_fin sr h
end
end DL
end

section
set_option Elab.async false
set_option linter.all false
set_option maxRecDepth 100000
set_option maxHeartbeats 4000000
namespace DL
open PySem L2
open Classical
noncomputable section
/-! DL17: split, join, partition, str(i), f-strings, dict displays and d[k]. -/
def joinOk (n : Nat) : Prop := n ≤ 16777216
theorem joinOk_of {n : Nat} (h : n ≤ 1000000) : joinOk n := by unfold joinOk; omega
def lg1920 (i : Int) : Prop := i.natAbs.log2 < 1920
theorem lg1920_of {i : Int} (h : i.natAbs.log2 < 1900) : lg1920 i := by unfold lg1920; omega
section
variable {X : Cx} {T : Tab} {W : WX} {e o i a b : Expr} {es : List Expr} {f g : Den D} {pos apos p : Pos}
/-- x.m(y), x a text -/
def dM1 (f g : Den D) (k : Str → D → List Cell → Out D) : Den D := fun env cs => (f env cs).bind fun x cs => match x with
  | .str a => (g env cs).bind fun y cs => k a y cs
  | _ => .no
abbrev HkT (T : Tab) (K : PySem.W.Frag) (r : V → List V → Hp → VK → Prop) (k : Str → D → List Cell → Out D) : Prop :=
  ∀ (I : Hp) (m : List Addr) (cs : List Cell) (H : Hp) (x : Str) (y : D) (u : V) (Q : VK) (E : XK), SR T K I m cs H → Rp T K I m y u → OutG T K (RD T K) I m (k x y cs) Q E → r (.str x) [u] H Q
theorem tM1_of {r : V → List V → Hp → VK → Prop} {k : Str → D → List Cell → Out D} (hk : HkT T X.K r k) {ta tb : TE} (ha : ta = tG T X.K W (RD T X.K) f) (hb : tb = tG T X.K W (RD T X.K) g) :
    ∀ σ H Q, tG T X.K W (RD T X.K) (dM1 f g k) σ H Q → tM1 r ta tb σ H Q := by
  subst ha hb
  rintro σ H Q ⟨I, m, cs, env, er, sr, h⟩
  refine ⟨I, m, cs, env, er, sr, OutG.bindI h fun x cs1 v H1 I1 m1 s1 p1 sr1 r1 h1 => ?_⟩
  cases x with
  | str a =>
    have e := rp_str.mp r1; subst e
    refine ⟨⟨a, rfl⟩, I1, m1, cs1, env, er.mono s1 p1, sr1, OutG.bindI h1 fun y cs2 u H2 I2 m2 s2 p2 sr2 r2 h2 => ?_⟩
    exact hk I2 m2 cs2 H2 a y u Q _ sr2 r2 h2
  | _ => exact h1.elim
theorem rpl_strs {K : PySem.W.Frag} {I : Hp} {m : List Addr} : ∀ ys : List Str, RpL T K I m (ys.map D.str) (ys.map V.str)
  | [] => RpL.nil
  | y :: ys => RpL.cons (rp_str.mpr rfl) (rpl_strs ys)
/-- x.split(y) -/
def splitD (a : Str) (y : D) (cs : List Cell) : Out D := match y with
  | .str b => if (b.length == 0) = false ∧ fits (a.length + 2) then .ok (.lst ((Txt.split a b).map .str)) cs else .no
  | _ => .no
theorem de_split (ho : DE X T W o f) (he : DE X T W e g) (hs : starEach [e] X.env = [(false, eval e X.env)] := by rfl) (hbase : attributeBase o "split" X.env (eval o X.env) = eval o X.env := by rfl) (hline : (apos.endLine == pos.line) = true := by rfl) :
    DE X T W (.Call (.Attribute o "split" apos) [e] [] pos) (dM1 f g splitD) := by
  refine PE.imp (pe_split ho he hs hbase hline) (tM1_of (fun I m cs H x y u Q E sr ry h => ?_) rfl rfl)
  unfold splitD at h
  cases y with
  | str b =>
    have e := rp_str.mp ry; subst e
    simp only at h
    split at h
    · rename_i hz
      exact ⟨x, b, rfl, rfl, hz.1, hz.2, fun p hp => rp_newL sr hp (rpl_strs _) h⟩
    · exact h.elim
  | _ => exact h.elim
/-- x.partition(y) -/
def partD (a : Str) (y : D) (cs : List Cell) : Out D := match y with
  | .str b => if (b.length == 0) = false ∧ fits a.length then .ok (.tup [.str (Txt.partition a b).1, .str (Txt.partition a b).2.1, .str (Txt.partition a b).2.2]) cs else .no
  | _ => .no
theorem de_partition (ho : DE X T W o f) (he : DE X T W e g) (hs : starEach [e] X.env = [(false, eval e X.env)] := by rfl) (hbase : attributeBase o "partition" X.env (eval o X.env) = eval o X.env := by rfl) (hline : (apos.endLine == pos.line) = true := by rfl) :
    DE X T W (.Call (.Attribute o "partition" apos) [e] [] pos) (dM1 f g partD) := by
  refine PE.imp (pe_partition ho he hs hbase hline) (tM1_of (fun I m cs H x y u Q E sr ry h => ?_) rfl rfl)
  unfold partD at h
  cases y with
  | str b =>
    have e := rp_str.mp ry; subst e
    simp only at h
    split at h
    · rename_i hz
      exact ⟨x, b, rfl, rfl, hz.1, hz.2, fun p hp => rp_newT sr hp (RpL.cons (rp_str.mpr rfl) (RpL.cons (rp_str.mpr rfl) (RpL.one (rp_str.mpr rfl)))) h⟩
    · exact h.elim
  | _ => exact h.elim
/-- texts -/
def strsD : List D → Option (List Str)
  | [] => some []
  | .str s :: r => (strsD r).map (s :: ·)
  | _ => none
theorem strsD_map : ∀ ys : List Str, strsD (ys.map D.str) = some ys
  | [] => rfl
  | y :: ys => by
    show (strsD (ys.map D.str)).map (y :: ·) = _
    rw [strsD_map ys]; rfl
theorem strsD_ok {K : PySem.W.Frag} {I : Hp} {m : List Addr} : ∀ {ds : List D} {vs : List V} {ns : List Str}, RpL T K I m ds vs → strsD ds = some ns → vs = ns.map V.str
  | [], vs, ns, h, e => by
    have q := h.inil; subst q
    cases e; rfl
  | d :: ds, vs, ns, h, e => by
    obtain ⟨v, r, rfl, q, k⟩ := h.inv
    cases d with
    | str s =>
      unfold strsD at e
      cases h2 : strsD ds with
      | none => rw [h2] at e; cases e
      | some l =>
        rw [h2] at e
        cases e
        rw [strsD_ok k h2, rp_str.mp q]; rfl
    | _ => cases e
/-- x.join(ys) -/
def joinD (a : Str) (y : D) (cs : List Cell) : Out D := match (itemsS cs y).bind strsD with
  | some ys => if joinOk ((ys.map (·.length)).sum + ys.length * a.length) then .ok (.str (Txt.join a ys)) cs else .no
  | none => .no
theorem de_join (ho : DE X T W o f) (he : DE X T W e g) (hs : starEach [e] X.env = [(false, eval e X.env)] := by rfl) (hbase : attributeBase o "join" X.env (eval o X.env) = eval o X.env := by rfl) (hline : (apos.endLine == pos.line) = true := by rfl) :
    DE X T W (.Call (.Attribute o "join" apos) [e] [] pos) (dM1 f g joinD) := by
  refine PE.imp (pe_join ho he hs hbase hline) (tM1_of (fun I m cs H x y u Q E sr ry h => ?_) rfl rfl)
  unfold joinD at h
  cases hi : (itemsS cs y).bind strsD with
  | none => rw [hi] at h; exact h.elim
  | some ys =>
    simp only [hi] at h
    obtain ⟨ds, h1, h2⟩ := Option.bind_eq_some_iff.mp hi
    obtain ⟨a, vs, rfl, q, rl⟩ := itemsS_ok sr ry h1
    have e := strsD_ok rl h2; subst e
    split at h
    · rename_i hz
      exact ⟨x, a, ys, rfl, rfl, q.imp (fun z => z.l) (fun z => z), hz, h.okI sr (rp_str.mpr rfl)⟩
    · exact h.elim
/-- str(i) -/
def strD (xs : List D) (cs : List Cell) : Out D := match xs with
  | [.int i] => if lg1920 i then .ok (.str (toString i)) cs else .no
  | [.str s] => .ok (.str s) cs
  | _ => .no
theorem hk_str {K : PySem.W.Frag} : HkC T K (fun xs H Q => (∃ i, xs = [.int i] ∧ i.natAbs.log2 < 1920 ∧ Q (.str (toString i)) H) ∨ ∃ a, xs = [.str a] ∧ Q (.str a) H) strD := by
  intro I m cs H xs vs Q E sr rx h
  unfold strD at h
  split at h
  · rename_i i
    obtain ⟨v, rfl, rv⟩ := rx.i1
    have e := rp_int.mp rv; subst e
    split at h
    · rename_i hz
      exact .inl ⟨i, rfl, hz, h.okI sr (rp_str.mpr rfl)⟩
    · exact h.elim
  · rename_i s
    obtain ⟨v, rfl, rv⟩ := rx.i1
    have e := rp_str.mp rv; subst e
    exact .inr ⟨s, rfl, h.okI sr (rp_str.mpr rfl)⟩
  · exact h.elim
theorem de_tostr {g : Den (List D)} (hm : X.mg "str" = none) (ha : DA X T W [e] g) (hg : Gl X "str" := by rfl) (he : starEach [e] X.env = (false, eval e X.env) :: starEach [] X.env := by rfl) : DE X T W (.Call (.Name "str" p) [e] [] pos) (dCall g strD) :=
  de_callTy (call_str_int.or SkE.call_str_str) hk_str hm ha (hg := hg) (he := he) (hpl := rfl)
/-- {x} in an f-string -/
def dFmt (f : Den D) : Den D := fun env cs => (f env cs).bind fun x cs => match x with
  | .str y => if fits y.length then .ok (.str y) cs else .no
  | .int i => if lg1920 i then .ok (.str (toString i)) cs else .no
  | _ => .no
theorem de_fmt (he : DE X T W e f) : DE X T W (.FormattedValue e (-1) none pos) (dFmt f) := by
  refine PE.imp (pe_fmt he) ?_
  rintro σ H Q ⟨I, m, cs, env, er, sr, h⟩
  refine ⟨I, m, cs, env, er, sr, OutG.bindI h fun x cs1 v H1 I1 m1 s1 p1 sr1 r1 h1 => ?_⟩
  cases x with
  | str y =>
    have e := rp_str.mp r1; subst e
    simp only at h1
    split at h1
    · rename_i hz
      exact .inl ⟨y, rfl, hz, h1.okI sr1 (rp_str.mpr rfl)⟩
    · exact h1.elim
  | int i =>
    have e := rp_int.mp r1; subst e
    simp only at h1
    split at h1
    · rename_i hz
      exact .inr ⟨i, rfl, hz, h1.okI sr1 (rp_str.mpr rfl)⟩
    · exact h1.elim
  | _ => exact h1.elim
def dJs : List (Den D) → Str → Den D
  | [], acc => fun env cs => .ok (.str acc) cs
  | f :: fs, acc => fun env cs => (f env cs).bind fun x cs => match x with
    | .str y => if fits (acc ++ y).length then dJs fs (acc ++ y) env cs else .no
    | _ => .no
def DJ (X : Cx) (T : Tab) (W : WX) (es : List Expr) (fs : List (Den D)) : Prop := PJ X es (fs.map fun f => tG T X.K W (RD T X.K) f)
theorem dj_nil : DJ X T W [] [] := PJ.nil
theorem dj_cons {fs : List (Den D)} (h : DE X T W e f) (r : DJ X T W es fs) : DJ X T W (e :: es) (f :: fs) := PJ.cons h r
theorem tJs_of {K : PySem.W.Frag} {σ : L2.St} {Q : VK} {W : WX} : ∀ (fs : List (Den D)) (acc : Str) (H : Hp) (I : Hp) (m : List Addr) (cs : List Cell) (env : Env), ER T K I m env σ → SR T K I m cs H → OutG T K (RD T K) I m (dJs fs acc env cs) Q (fun cls od H' => W cls od σ H') →
    tJs (fs.map fun f => tG T K W (RD T K) f) acc σ H fun out H1 => Q (.str out) H1
  | [], acc, H, I, m, cs, env, er, sr, h => h.okI sr (rp_str.mpr rfl)
  | f :: fs, acc, H, I, m, cs, env, er, sr, h => by
    refine ⟨I, m, cs, env, er, sr, OutG.bindI h fun x cs1 v H1 I1 m1 s1 p1 sr1 r1 h1 => ?_⟩
    cases x with
    | str y =>
      have e := rp_str.mp r1; subst e
      simp only at h1
      split at h1
      · rename_i hz
        exact ⟨y, rfl, hz, tJs_of fs (acc ++ y) H1 I1 m1 cs1 env (er.mono s1 p1) sr1 h1⟩
      · exact h1.elim
    | _ => exact h1.elim
theorem de_joined {v1 v2 : Expr} {rest : List Expr} {fs : List (Den D)} (h : DJ X T W (v1 :: v2 :: rest) fs) : DE X T W (.JoinedStr (v1 :: v2 :: rest) pos) (dJs fs Str.empty) := by
  refine PE.imp (pe_joined h) ?_
  rintro σ H Q ⟨I, m, cs, env, er, sr, h⟩
  exact tJs_of fs Str.empty H I m cs env er sr h
/-! ### {k: v, ..} and d[k] -/
def keyD : D → Option Key
  | .int i => some (.inl i)
  | .str s => some (.inr s)
  | _ => none
theorem keyD_ok {K : PySem.W.Frag} {I : Hp} {m : List Addr} {d : D} {v : V} {k : Key} (r : Rp T K I m d v) (h : keyD d = some k) : v = kV k := by
  cases d with
  | int i => cases h; exact rp_int.mp r
  | str s => cases h; exact rp_str.mp r
  | _ => cases h
def keysD : List D → Option (List Key)
  | [] => some []
  | d :: r => match keyD d, keysD r with
    | some k, some ks => some (k :: ks)
    | _, _ => none
theorem keysD_ok {K : PySem.W.Frag} {I : Hp} {m : List Addr} : ∀ {ds : List D} {vs : List V} {ks : List Key}, RpL T K I m ds vs → keysD ds = some ks → vs = ks.map kV
  | [], vs, ks, h, e => by have q := h.inil; subst q; cases e; rfl
  | d :: ds, vs, ks, h, e => by
    obtain ⟨v, r, rfl, q, k⟩ := h.inv
    unfold keysD at e
    cases h1 : keyD d with
    | none => simp [h1] at e
    | some k1 =>
      cases h2 : keysD ds with
      | none => simp [h1, h2] at e
      | some k2 =>
        simp only [h1, h2, Option.some.injEq] at e
        subst e
        rw [keyD_ok q h1, keysD_ok k h2]; rfl
def dPairs : List (Den D × Den D) → Den (List D × List D)
  | [] => fun env cs => .ok ([], []) cs
  | (f, g) :: r => fun env cs => (f env cs).bind fun x cs => (g env cs).bind fun y cs => (dPairs r env cs).bind fun p cs => .ok (x :: p.1, y :: p.2) cs
def RPs (T : Tab) (K : PySem.W.Frag) : Hp → List Addr → List D × List D → List (V × V) → Prop := fun I m p ps => RpL T K I m p.1 (ps.map (·.1)) ∧ RpL T K I m p.2 (ps.map (·.2))
theorem tPairs_of {K : PySem.W.Frag} {σ : L2.St} {W : WX} : ∀ (fs : List (Den D × Den D)) (H : Hp) (I : Hp) (m : List Addr) (cs : List Cell) (env : Env) (Q : List (V × V) → Hp → Prop), ER T K I m env σ → SR T K I m cs H →
    OutG T K (RPs T K) I m (dPairs fs env cs) Q (fun cls od H' => W cls od σ H') →
    tPairs (fs.map fun f => (tG T K W (RD T K) f.1, tG T K W (RD T K) f.2)) σ H Q
  | [], H, I, m, cs, env, Q, er, sr, h => h.okI sr ⟨RpL.nil, RpL.nil⟩
  | (f, g) :: r, H, I, m, cs, env, Q, er, sr, h => by
    refine ⟨I, m, cs, env, er, sr, OutG.bindI h fun x cs1 v H1 I1 m1 s1 p1 sr1 r1 h1 => ?_⟩
    refine ⟨I1, m1, cs1, env, er.mono s1 p1, sr1, OutG.bindI h1 fun y cs2 u H2 I2 m2 s2 p2 sr2 r2 h2 => ?_⟩
    refine tPairs_of r H2 I2 m2 cs2 env _ ((er.mono s1 p1).mono s2 p2) sr2 ?_
    exact OutG.bindI h2 fun p cs3 ps H3 I3 m3 s3 p3 sr3 r3 h3 => h3.okI sr3 ⟨RpL.cons ((r1.mono s2 p2).mono s3 p3) r3.1, RpL.cons (r2.mono s3 p3) r3.2⟩
def DPs (X : Cx) (T : Tab) (W : WX) (pos : Pos) (ks : List (Option Expr)) (vs : List Expr) (fs : List (Den D × Den D)) : Prop := PPs X pos ks vs (fs.map fun f => (tG T X.K W (RD T X.K) f.1, tG T X.K W (RD T X.K) f.2))
theorem dp_nil : DPs X T W pos [] [] [] := pps_nil
theorem dp_cons {k v : Expr} {ks : List (Option Expr)} {vs : List Expr} {fs : List (Den D × Den D)} (hk : DE X T W k f) (hv : DE X T W v g) (r : DPs X T W pos ks vs fs) : DPs X T W pos (some k :: ks) (v :: vs) ((f, g) :: fs) := pps_cons hk hv r
theorem mergeK_new : ∀ (more kvs : List (Key × V)), ((kvs ++ more).map (·.1)).Nodup → mergeK kvs more = kvs ++ more
  | [], kvs, _ => by show kvs = _; simp
  | (k, v) :: more, kvs, h => by
    show mergeK (L2.putK kvs k v) more = _
    have hno : (kvs.any fun kv => decide (kv.1 = k)) = false := by
      rw [List.any_eq_false]
      intro p hp
      simp only [decide_eq_true_eq]
      intro e
      rw [List.map_append, List.map_cons] at h
      exact (List.nodup_append.mp h).2.2 p.1 (List.mem_map_of_mem hp) k List.mem_cons_self e
    have e : L2.putK kvs k v = kvs ++ [(k, v)] := by unfold L2.putK; rw [hno]; rfl
    rw [e, mergeK_new more (kvs ++ [(k, v)]) (by simpa using h)]
    simp
/-- a new dict, its keys different -/
def dDisp (fs : List (Den D × Den D)) : Den D := fun env cs => (dPairs fs env (cs ++ [.dic [] []])).bind fun p cs' => match keysD p.1 with
  | some ks => if ks.Nodup ∧ ks.length ≤ 15 ∧ cs'[cs.length]? = some (.dic [] []) ∧ p.2.length = ks.length then .ok (.cell cs.length) (cs'.set cs.length (.dic ks p.2)) else .no
  | none => .no
theorem zip_fst {α β : Type} : ∀ (xs : List α) (ys : List β), xs.length = ys.length → (xs.zip ys).map (·.1) = xs
  | [], [], _ => rfl
  | x :: xs, y :: ys, h => by rw [List.zip_cons_cons, List.map_cons, zip_fst xs ys (by simpa using h)]
theorem zip_snd {α β : Type} : ∀ (xs : List α) (ys : List β), xs.length = ys.length → (xs.zip ys).map (·.2) = ys
  | [], [], _ => rfl
  | x :: xs, y :: ys, h => by rw [List.zip_cons_cons, List.map_cons, zip_snd xs ys (by simpa using h)]
theorem prs_eq {ps : List (V × V)} {ks : List Key} (h : ps.map (·.1) = ks.map kV) : ps = (ks.zip (ps.map (·.2))).map fun kv => (kV kv.1, kv.2) := by
  induction ps generalizing ks with
  | nil =>
    cases ks with
    | nil => rfl
    | cons k ks => cases h
  | cons p ps ih =>
    cases ks with
    | nil => cases h
    | cons k ks =>
      simp only [List.map_cons, List.cons.injEq] at h
      rw [List.map_cons, List.zip_cons_cons, List.map_cons, ← ih h.2, ← h.1]
theorem de_disp {keys : List (Option Expr)} {values : List Expr} {fs : List (Den D × Den D)} (h : DPs X T W pos keys values fs) (hall : keys.all (·.isSome) = true := by rfl) (hl : keys.length = values.length := by rfl) (h0 : keys ≠ [] := by intro z; cases z) (h15 : keys.length ≤ 15 := by decide) :
    DE X T W (.Dict keys values pos) (dDisp fs) := by
  refine PE.imp (pe_disp h hall hl h0 h15) ?_
  rintro σ H Q ⟨I, m, cs, env, er, sr, h⟩
  intro q hq
  have sr0 := sr.newC (c := .dic [] []) (o := .dK []) hq ⟨rfl, RpL.nil⟩
  refine tPairs_of fs _ I (m ++ [q]) _ env _ (er.mono (Same.refl I) (List.prefix_append _ _)) sr0 ?_
  refine OutG.bindI (OutG.up (Same.refl I) (List.prefix_append _ _) h) fun p cs1 ps H1 I1 m1 s1 p1 sr1 r1 h1 => ?_
  cases hk : keysD p.1 with
  | none => simp only [hk] at h1; exact h1.elim
  | some ks =>
    simp only [hk] at h1
    split at h1
    · rename_i hz
      obtain ⟨z1, z2, z3, z4⟩ := hz
      have gq : (m ++ [q])[cs.length]? = some q := by rw [← sr.len]; simp
      have gq1 := pre_get p1 gq
      obtain ⟨q', o, e1, e2, e3, e4⟩ := sr1.at_ _ _ z3 (by intro z; cases z)
      rw [gq1] at e1; cases e1
      cases o with
      | dK kvs0 =>
        obtain ⟨k1, k2⟩ := e4
        have k0 : kvs0 = [] := List.map_eq_nil_iff.mp k1
        subst k0
        have ek := keysD_ok r1.1 hk
        have lp : ks.length = (ps.map (·.2)).length := by rw [← r1.2.length]; exact z4.symm
        refine ⟨e3, ks.zip (ps.map (·.2)), prs_eq ek, by rw [List.length_zip]; omega, ?_⟩
        rw [mergeK_new _ [] (by rw [List.nil_append, zip_fst _ _ lp]; exact z1), List.nil_append]
        have sr2 := sr1.setC (o := .dK (ks.zip (ps.map (·.2)))) (c := .dic ks p.2) z3 (by intro z; cases z) gq1 ⟨zip_fst _ _ lp, by rw [zip_snd _ _ lp]; exact r1.2⟩
        exact h1 (.ref q) _ I1 m1 (Same.refl _) (List.prefix_refl _) sr2 (rp_cell.mpr ⟨q, gq1, rfl⟩)
      | _ => exact e4.elim
    · exact h1.elim
def lkD : List Key → List D → Key → Option D
  | k :: ks, d :: ds, x => if k = x then some d else lkD ks ds x
  | _, _, _ => none
def itemsK (cs : List Cell) : D → Option (List Key × List D)
  | .dic ks ds => some (ks, ds)
  | .cell n => match cs[n]? with
    | some (.dic ks ds) => some (ks, ds)
    | _ => none
  | _ => none
def dgetD (x y : D) (cs : List Cell) : Out D := match itemsK cs x, keyD y with
  | some (ks, ds), some k => match lkD ks ds k with
    | some d => .ok d cs
    | none => .no
  | _, _ => .no
theorem lkD_ok {K : PySem.W.Frag} {I : Hp} {m : List Addr} {k : Key} {d : D} : ∀ {ks : List Key} {ds : List D} {kvs : List (Key × V)}, kvs.map (·.1) = ks → RpL T K I m ds (kvs.map (·.2)) → lkD ks ds k = some d → ∃ v, valV kvs k = some v ∧ Rp T K I m d v
  | [], ds, kvs, e, r, h => by cases ds <;> cases h
  | k1 :: ks, [], kvs, e, r, h => by cases h
  | k1 :: ks, x :: ds, [], e, r, h => by cases e
  | k1 :: ks, x :: ds, p :: kvs, e, r, h => by
    simp only [List.map_cons, List.cons.injEq] at e
    obtain ⟨v, r', e2, q, r2⟩ := r.inv
    simp only [List.map_cons, List.cons.injEq] at e2
    unfold lkD at h
    by_cases hk : k1 = k
    · rw [if_pos hk] at h
      cases h
      exact ⟨p.2, valV_pos (e.1.trans hk), by rw [e2.1]; exact q⟩
    · rw [if_neg hk] at h
      rw [valV_neg (by rw [e.1]; exact hk)]
      exact lkD_ok e.2 (by rw [e2.2]; exact r2) h
theorem itemsK_ok {K : PySem.W.Frag} {I H : Hp} {m : List Addr} {cs : List Cell} {d : D} {ks : List Key} {ds : List D} {v : V} (sr : SR T K I m cs H) (r : Rp T K I m d v) (h : itemsK cs d = some (ks, ds)) :
    ∃ a kvs, v = .ref a ∧ Rd H a (.dK kvs) ∧ kvs.map (·.1) = ks ∧ RpL T K I m ds (kvs.map (·.2)) := by
  cases d with
  | dic ks' ds' =>
    cases h
    unfold Rp at r
    obtain ⟨a, kvs, e, q, k1, k2⟩ := r
    exact ⟨a, kvs, e, Rd.same sr.same q, k1, k2⟩
  | cell n =>
    obtain ⟨a, e1, e2⟩ := rp_cell.mp r
    unfold itemsK at h
    cases hc : cs[n]? with
    | none => simp [hc] at h
    | some c =>
      cases c with
      | dic ks' ds' =>
        simp only [hc] at h
        cases h
        obtain ⟨a', o, q1, q2, q3, q4⟩ := sr.at_ n _ hc (by intro z; cases z)
        rw [e1] at q1; cases q1
        cases o with
        | dK kvs => exact ⟨a, kvs, e2, .inl q3, q4.1, q4.2⟩
        | _ => exact q4.elim
      | _ => simp [hc] at h
  | _ => cases h
theorem de_dget (hu : X.A.units + 1 < cLine) (ho : DE X T W o f) (hi : DE X T W i g) (hs : NoSl i) : DE X T W (.Subscript o i pos) (d2 f g dgetD) := by
  refine PE.imp (pe_dget hu ho hi hs) ?_
  rintro σ H Q ⟨I, m, cs, env, er, sr, h⟩
  refine ⟨I, m, cs, env, er, sr, OutG.bindI h fun x cs1 v H1 I1 m1 s1 p1 sr1 r1 h1 => ?_⟩
  refine ⟨I1, m1, cs1, env, er.mono s1 p1, sr1, OutG.bindI h1 fun y cs2 u H2 I2 m2 s2 p2 sr2 r2 h2 => ?_⟩
  unfold dgetD at h2
  cases hi : itemsK cs2 x with
  | none => simp only [hi] at h2; exact h2.elim
  | some p =>
    obtain ⟨ks, ds⟩ := p
    cases hk : keyD y with
    | none => simp only [hi, hk] at h2; exact h2.elim
    | some k =>
      simp only [hi, hk] at h2
      cases hl : lkD ks ds k with
      | none => simp only [hl] at h2; exact h2.elim
      | some d =>
        simp only [hl] at h2
        obtain ⟨a, kvs, rfl, q, k1, k2⟩ := itemsK_ok sr2 (r1.mono s2 p2) hi
        obtain ⟨w, ev, rw'⟩ := lkD_ok k1 k2 hl
        have e := keyD_ok r2 hk
        exact ⟨a, w, rfl, .inl ⟨kvs, k, q, e, ev.symm⟩, h2.okI sr2 rw'⟩
end
end
end DL
end

section
set_option Elab.async false
set_option linter.all false
set_option maxRecDepth 100000
set_option maxHeartbeats 4000000
/-! DL18: == and != by the text's own __eq__. -/
namespace OwnNe
open PySem PySem.Spec PyProof.Rows PySem.SeqAt Builtin
section
variable {prog : Program} {w : World} {A : Around} {E : Value → Shared → Prop} {s : Shared} {K : PySem.W.Frag} {x y C f : Addr} {ox : Obj} {od : Option Obj}
theorem entry_ne {Q : Fin → Shared → Prop} (X : K.In s.heap) (I : PySem.W.InstAt s.heap x ox C od) (hs : PySem.W.findIn K (.ref C) "__eq__" = some (some (.ref f))) (hf : PySem.W.isFn K (.ref f) = true) (hu : A.units < cLine)
    (hc : wpAny (model prog w) A (call (.ref f) [.ref x, .ref y]) (fun v s' => ∃ b, v = .bool b ∧ Q (.done (.ret (.bool (!b)))) s') E s) :
    wpAny (model prog w) A (Builtin.«object.__ne__» ⟨[.ref x, .ref y], []⟩) Q E s := by
  unfold Builtin.«object.__ne__»
  repeat (first
    | with_reducible refine wpAny_cRoomFor hu ?_
    | (refine wpAny_bind (m := callSpecialIfBound? (.ref x) (Str.ofString "__eq__") [.ref y])
        (PySem.W.ifBound_K X I hs hf (wpAny_mono hc (fun r s' hr => by
          obtain ⟨b, rfl, hq⟩ := hr
          repeat (first | exact hq | exact wpAny_pure hq | exact wpAny_truthy_bool hq | (refine wpAny_bind (m := truthy (.bool _)) (wpAny_truthy_bool ?_)) | wp_step)) fun _ _ e => e)))
    | wp_step)
theorem call_ne {Q : Value → Shared → Prop} (X : K.In s.heap) (I : PySem.W.InstAt s.heap x ox C od) (hm : PySem.W.mroIn K C (.type "object") = some true) (hs : PySem.W.findIn K (.ref C) "__eq__" = some (some (.ref f))) (hf : PySem.W.isFn K (.ref f) = true)
    (hu : A.units + 1 < cLine) (hc : wpAny (model prog w) A.in1 (call (.ref f) [.ref x, .ref y]) (fun v s' => ∃ b, v = .bool b ∧ Q (.bool (!b)) s') E s) :
    wpAny (model prog w) A (call (.builtin "object.__ne__") [.ref x, .ref y]) Q E s :=
  wpAny_call (codeAny_call_builtin F.cmp_object.ne.plain F.cmpEntry_ne (PySem.W.check_slot F.cmpKind_ne F.cmpSplit_ne (I.type.andThen (PySem.W.looks_mroIn X hm)) (F.cmpArgs_ne _ _)
    (entry_ne (A := A.in1) X I hs hf hu (wpAny_mono hc (fun v s' hv => by
      obtain ⟨b, rfl, hq⟩ := hv
      exact ⟨b, rfl, hq⟩) fun _ _ e => e))))
theorem ifBound_ne {M : Model} {args : List Value} {Q : Option Value → Shared → Prop} (X : K.In s.heap) (I : PySem.W.InstAt s.heap x ox C od) (hs : PySem.W.findIn K (.ref C) "__ne__" = some (some (.builtin "object.__ne__")))
    (h : wpAny M A (call (.builtin "object.__ne__") (.ref x :: args)) (fun v => Q (some v)) E s) : wpAny M A (callSpecialIfBound? (.ref x) "__ne__" args) Q E s := by
  simp only [callSpecialIfBound?, bindSpecialIfBound?]
  refine wpAny_holding (wpAny_bind (wpAny_bind (wpAny_bind (I.type.here ((PySem.W.looks_findIn X hs).here ?_)))))
  refine wpAny_bind (wpAny_askSetting (wpAny_ite ?_))
  have fin : wpAny M A (call (.builtin "object.__ne__") ([.ref x] ++ args) >>= fun v => pure (some v)) Q E s := wpAny_bind (wpAny_mono h (fun v s' h' => wpAny_pure h') fun _ _ h' => h')
  split
  · exact wpAny_bind (wpAny_of_eq (F.cmp_object.ne.bind _) (wpAny_pure (by exact fin)))
  · exact wpAny_tryCatch (wpAny_bind (wpAny_of_eq (F.cmp_object.ne.bind _) (wpAny_pure (by exact fin))))
theorem cmp_ne {tb : Value} {Q : Value → Shared → Prop} (hu : A.units + 1 < cLine) (X : K.In s.heap) (I : PySem.W.InstAt s.heap x ox C od) (hb : PySem.W.Looks (model prog w) s.heap (typeOf (.ref y)) tb) (hn : PySem.W.notFirst K C tb = true)
    (hne : PySem.W.findIn K (.ref C) "__ne__" = some (some (.builtin "object.__ne__"))) (hm : PySem.W.mroIn K C (.type "object") = some true) (hs : PySem.W.findIn K (.ref C) "__eq__" = some (some (.ref f))) (hf : PySem.W.isFn K (.ref f) = true)
    (h : wpAny (model prog w) A.in1 (call (.ref f) [.ref x, .ref y]) (fun v s' => ∃ b, v = .bool b ∧ Q (.bool (!b)) s') E s) : wpAny (model prog w) A (richCompare .NotEq (.ref x) (.ref y)) Q E s := by
  have one : wpAny (model prog w) A (tryCompare (.ref x) (cmpInfo .NotEq).2.1 (.ref y)) (fun r s' => ∃ v, r = some v ∧ Q v s') E s := by
    unfold tryCompare
    refine wpAny_bind (ifBound_ne X I hne (call_ne X I hm hs hf hu (wpAny_mono h (fun v s' hv => ?_) fun _ _ e => e)))
    obtain ⟨b, rfl, hq⟩ := hv
    exact ⟨b, rfl, wpAny_pure ⟨_, rfl, hq⟩⟩
  unfold richCompare
  simp only [oneThing_ref]
  refine wpAny_holding (wpAny_bind (wpAny_cRoomFor (Nat.lt_of_succ_lt hu) ?_))
  refine wpAny_bind (I.type.here (wpAny_bind (hb.here ?_)))
  split
  · rename_i q
    have e : PySem.W.subIn K tb (.ref C) = some false := by
      rcases Bool.or_eq_true_iff.mp hn with e | e
      · rw [beq_iff_eq.mp e] at q; simp at q
      · exact beq_iff_eq.mp e
    refine wpAny_bind ((PySem.W.looks_subIn X e).here ?_)
    simp only [Bool.false_eq_true, if_false]
    refine wpAny_bind (wpAny_mono one (fun r s' z => ?_) fun _ _ e => e)
    obtain ⟨v, rfl, hq⟩ := z
    exact wpAny_pure hq
  · refine wpAny_bind (wpAny_pure ?_)
    simp only [Bool.false_eq_true, if_false]
    refine wpAny_bind (wpAny_mono one (fun r s' z => ?_) fun _ _ e => e)
    obtain ⟨v, rfl, hq⟩ := z
    exact wpAny_pure hq
end
end OwnNe
end

section
set_option Elab.async false
set_option linter.all false
set_option maxRecDepth 100000
set_option maxHeartbeats 4000000
namespace DL
open PySem L2 PyProof.Rows
open Classical
noncomputable section
/-! DL19: == and != by the text's own __eq__, by its denotation. -/
section
variable {X : Cx} {T : Tab} {W : WX} {k : Nat} {f : Addr} {den : FDen}
theorem pass_no : Passes (L2.CX X.prog X.w) X (fun _ _ _ => False) := fun _ _ _ _ _ _ _ ⟨_, _, _, _, _, _, _, _, _, _, _, _, h⟩ => h.elim
/-- the own == is called -/
theorem eq_call (c : DF X.prog X.w X.K X.mg X.base T k f 2 den) {A : Around} {pins : List (Addr × Obj)} {s : Shared} {σ : L2.St} {H : Hp} {a b : Addr} {Q : VK} (hr : Room k A) (fr : A.frames = X.A.frames) (I : Inv X pins σ H s)
    (h : ∃ I m cs d1 d2, SR T X.K I m cs H ∧ Rp T X.K I m d1 (.ref a) ∧ Rp T X.K I m d2 (.ref b) ∧ OutG T X.K (RD T X.K) I m (den [d1, d2] cs) Q (fun _ _ _ => False)) :
    wpAny (model X.prog X.w) A (call (.ref f) [.ref a, .ref b]) (fun w s' => ∃ z H', Inv X pins σ H' s' ∧ RelV z w ∧ Q z H') X.xe s := by
  obtain ⟨fd, ps, hl, F, hb⟩ := c.ex
  obtain ⟨I0, m, cs, d1, d2, sr, r1, r2, ho⟩ := h
  have hsp : spD T X.K 2 den [.ref a, .ref b] H Q (fun _ _ _ => False) := ⟨rfl, I0, m, cs, [d1, d2], sr, RpL.cons r1 (RpL.one r2), ho⟩
  have e0 : Env0 X.prog X.w X.K X.mg X.base A X.stack s H := by
    have e := I.env0
    exact ⟨by rw [fr]; exact e.frames, e.mod, e.bs, e.bsz, e.funs, e.frf, e.hok, e.bare⟩
  have rr : Vals [V.ref a, V.ref b] [Value.ref a, Value.ref b] := .cons rfl (.cons rfl .nil)
  refine wpAny_call (codeAny_mono (F.run A X.stack s H ⟨[.ref a, .ref b], []⟩ [.ref a, .ref b] [.ref a, .ref b] _ (fun _ _ _ => False) hr e0 (by
    have := hb s [.ref a, .ref b] I.kIn (by simpa using hl.symm)
    simpa using this) rr hsp) fun r s' hq => ?_)
  cases r with
  | error e => exact (pass_no (X := X) pins σ H s e s' I hq)
  | ok fl =>
    cases fl with
    | ret w =>
      obtain ⟨z, H', I', rz, ez⟩ := I.after hq
      exact ⟨z, H', I', rz, ez⟩
    | next => exact False.elim hq
    | brk => exact False.elim hq
    | cont => exact False.elim hq
/-- a class whose == is the def at f -/
structure OwnC (K : PySem.W.Frag) (f C : Addr) : Prop where
  eq : PySem.W.findIn K (.ref C) "__eq__" = some (some (.ref f))
  ne : PySem.W.findIn K (.ref C) "__ne__" = some (some (.builtin "object.__ne__"))
  fn : PySem.W.isFn K (.ref f) = true
  mro : PySem.W.mroIn K C (.type "object") = some true
/-- the classes CS: each has the own ==, none is another's subclass -/
def OwnS (T : Tab) (K : PySem.W.Frag) (f : Addr) (CS : List Nat) : Prop := (∀ c ∈ CS, OwnC K f (T.ca c)) ∧ ∀ c ∈ CS, ∀ c' ∈ CS, PySem.W.notFirst K (T.ca c) (.ref (T.ca c')) = true
def rOwn (T : Tab) (K : PySem.W.Frag) (f : Addr) (den : FDen) (neg : Bool) : R2 := fun x y H Q => ∃ a b C C' dx dy gs hs, x = .ref a ∧ y = .ref b ∧ H a = some (.ins C dx gs) ∧ H b = some (.ins C' dy hs) ∧ OwnC K f C ∧ PySem.W.notFirst K C (.ref C') = true ∧
  ∃ I m cs d1 d2, SR T K I m cs H ∧ Rp T K I m d1 x ∧ Rp T K I m d2 y ∧ OutG T K (RD T K) I m (den [d1, d2] cs) (fun v H' => ∃ r, v = .bl r ∧ Q (.bl (if neg then !r else r)) H') (fun _ _ _ => False)
theorem op_ownEq (c : DF X.prog X.w X.K X.mg X.base T k f 2 den) (hr : Room k X.A) : OpR X (compareOp .Eq) (rOwn T X.K f den false) := by
  intro pins s σ H x y v u Q I rx ry h
  obtain ⟨a, b, C, C', dx, dy, gs, hs, rfl, rfl, ha, hb, oc, nf, h⟩ := h
  cases rx
  cases ry
  obtain ⟨mA, J, _⟩ := ins_get I.hok ha
  obtain ⟨mB, J', _⟩ := ins_get I.hok hb
  obtain ⟨od, J, _⟩ := J.look
  obtain ⟨od', J', _⟩ := J'.look
  obtain ⟨m, hF⟩ := I.fr
  show wpAny (model X.prog X.w) X.A (richCompare .Eq (.ref a) (.ref b)) (EP X pins σ Q) X.xe s
  refine PySem.W.cmp_K (op := .Eq) (tb := .ref C') hr.units0 hF I.ok.mod.kin J J'.type nf oc.eq oc.fn (wpAny_mono (eq_call c hr rfl I h) (fun w s' z => ?_) fun _ _ x => x)
  obtain ⟨z, H', I', rz, r, rfl, q⟩ := z
  cases rz
  exact ⟨.bl r, H', I', rfl, q⟩
theorem op_ownNe (c : DF X.prog X.w X.K X.mg X.base T k f 2 den) (hr : Room (k + 1) X.A) : OpR X (compareOp .NotEq) (rOwn T X.K f den true) := by
  intro pins s σ H x y v u Q I rx ry h
  obtain ⟨a, b, C, C', dx, dy, gs, hs, rfl, rfl, ha, hb, oc, nf, h⟩ := h
  cases rx
  cases ry
  obtain ⟨mA, J, _⟩ := ins_get I.hok ha
  obtain ⟨mB, J', _⟩ := ins_get I.hok hb
  obtain ⟨od, J, _⟩ := J.look
  obtain ⟨od', J', _⟩ := J'.look
  show wpAny (model X.prog X.w) X.A (richCompare .NotEq (.ref a) (.ref b)) (EP X pins σ Q) X.xe s
  refine OwnNe.cmp_ne (tb := .ref C') hr.in1.units0 I.kIn J J'.type nf oc.ne oc.mro oc.eq oc.fn (wpAny_mono (eq_call c hr.in1 rfl I h) (fun w s' z => ?_) fun _ _ x => x)
  obtain ⟨z, H', I', rz, r, rfl, q⟩ := z
  cases rz
  exact ⟨r, rfl, .bl (!r), H', I', rfl, q⟩
/-! ### their denotations -/
def isOb : D → Option Nat
  | .obj c _ => some c
  | _ => none
def outB (neg : Bool) : Out D → Out D
  | .ok (.bl r) cs => .ok (.bl (if neg then !r else r)) cs
  | _ => .no
def ownD (CS : List Nat) (den : FDen) (neg : Bool) (x y : D) (cs : List Cell) : Out D := match isOb x, isOb y with
  | some c, some c' => if c ∈ CS ∧ c' ∈ CS then outB neg (den [x, y] cs) else .no
  | _, _ => .no
theorem hk_own {K : PySem.W.Frag} {CS : List Nat} {neg : Bool} (S : OwnS T K f CS) : Hk2 T K (rOwn T K f den neg) (ownD CS den neg) := by
  intro I m cs H x y v u Q E sr rx ry h
  unfold ownD at h
  cases x with
  | obj c xs =>
    cases y with
    | obj c' ys =>
      simp only [isOb] at h
      split at h
      · rename_i hc
        have rx' := rx
        have ry' := ry
        unfold Rp at rx' ry'
        obtain ⟨a, dx, gs, rfl, ea, _, _⟩ := rx'
        obtain ⟨b, dy, hs, rfl, eb, _, _⟩ := ry'
        refine ⟨a, b, _, _, dx, dy, gs, hs, rfl, rfl, sr.same _ _ ea, sr.same _ _ eb, S.1 c hc.1, S.2 c hc.1 c' hc.2, I, m, cs, _, _, sr, rx, ry, ?_⟩
        unfold outB at h
        cases hd : den [.obj c xs, .obj c' ys] cs with
        | ok d cs1 =>
          rw [hd] at h
          cases d with
          | bl r =>
            intro v H' I' m' s p sr' r'
            have e := rp_bl.mp r'
            subst e
            exact ⟨r, rfl, h (.bl (if neg then !r else r)) H' I' m' s p sr' (rp_bl.mpr rfl)⟩
          | _ => exact h.elim
        | exn => rw [hd] at h; exact h.elim
        | no => rw [hd] at h; exact h.elim
      · exact h.elim
    | _ => exact h.elim
  | _ => exact h.elim
variable {a b e : Expr} {g h : Den D} {pos : Pos}
theorem dc_ownEq {CS : List Nat} {j : Nat} (c : DF X.prog X.w X.K X.mg X.base T k f 2 den) (S : OwnS T X.K f CS) (hr : Room j X.A) (hk : k ≤ j := by decide) (ha : DE X T W a g) (hb : DE X T W b h) : DC X T W .Eq a b (d2 g h (ownD CS den false)) :=
  dc_op (op_ownEq c (hr.mono hk)) (hk_own S) ha hb
theorem dc_ownNe {CS : List Nat} {j : Nat} (c : DF X.prog X.w X.K X.mg X.base T k f 2 den) (S : OwnS T X.K f CS) (hr : Room j X.A) (hk : k + 1 ≤ j := by decide) (ha : DE X T W a g) (hb : DE X T W b h) : DC X T W .NotEq a b (d2 g h (ownD CS den true)) :=
  dc_op (op_ownNe c (hr.mono hk)) (hk_own S) ha hb
/-! ### == of tuples that hold such objects: only where it is True -/
/-- the own == says True of two frozen objects -/
def OwnT (CS : List Nat) (den : FDen) (x y : D) : Prop := (∃ c c', isOb x = some c ∧ isOb y = some c' ∧ c ∈ CS ∧ c' ∈ CS) ∧ D.lt 0 x = true ∧ D.lt 0 y = true ∧ ∃ cs', den [x, y] [] = .ok (.bl true) cs'
def DOwn (T : Tab) (K : PySem.W.Frag) (f : Addr) (CS : List Nat) (den : FDen) : Eqv := fun v u H => ∃ a b C C' dx dy gs hs, v = .ref a ∧ u = .ref b ∧ H a = some (.ins C dx gs) ∧ H b = some (.ins C' dy hs) ∧ OwnC K f C ∧ PySem.W.notFirst K C (.ref C') = true ∧
  ∃ x y, Rp T K H [] x v ∧ Rp T K H [] y u ∧ ∃ cs', den [x, y] [] = .ok (.bl true) cs'
theorem mon_own {K : PySem.W.Frag} {CS : List Nat} : Mon (DOwn T K f CS den) := by
  intro v u H H' e h
  obtain ⟨a, b, C, C', dx, dy, gs, hs, rfl, rfl, ha, hb, oc, nf, x, y, rx, ry, q⟩ := h
  exact ⟨a, b, C, C', dx, dy, gs, hs, rfl, rfl, e _ _ ha, e _ _ hb, oc, nf, x, y, Rp.mono (fun b u z => e b u z) (List.prefix_refl _) rx, Rp.mono (fun b u z => e b u z) (List.prefix_refl _) ry, q⟩
theorem sr_all {K : PySem.W.Frag} {H : Hp} : SR T K H [] [] H := ⟨fun _ _ e => e, rfl, fun n c e => by simp at e, fun n n' c c' a e => by simp at e⟩
theorem rcG_own {CS : List Nat} (c : DF X.prog X.w X.K X.mg X.base T k f 2 den) : RcG X k (DOwn T X.K f CS den) := by
  intro A pins s σ H v u w z sb I rv ru h
  obtain ⟨a, b, C, C', dx, dy, gs, hs, rfl, rfl, ha, hb, oc, nf, x, y, rx, ry, cs', q⟩ := h
  cases rv
  cases ru
  obtain ⟨mA, J, _⟩ := ins_get I.hok ha
  obtain ⟨mB, J', _⟩ := ins_get I.hok hb
  obtain ⟨od, J, _⟩ := J.look
  obtain ⟨od', J', _⟩ := J'.look
  obtain ⟨m, hF⟩ := I.fr
  refine PySem.W.cmp_K (op := .Eq) (tb := .ref C') sb.room.units0 hF I.ok.mod.kin J J'.type nf oc.eq oc.fn (wpAny_mono (eq_call (Q := fun z H' => z = .bl true ∧ Ext H H') c sb.room sb.fr I ⟨H, [], [], x, y, sr_all, rx, ry, ?_⟩) (fun w s' z => ?_) fun _ _ x => x)
  · rw [q]
    intro v H' I' m' s p sr' r'
    exact ⟨rp_bl.mp r', fun b u z => sr'.same _ _ (s _ _ z)⟩
  · obtain ⟨z, H', I', rz, rfl, e⟩ := z
    cases rz
    exact ⟨rfl, H', I', e⟩
def scal : D → Bool
  | .non => true
  | .bl _ => true
  | .int _ => true
  | .str _ => true
  | _ => false
/-- equal in depth n: the same scalar, own, or tuples item by item -/
def EqN (CS : List Nat) (den : FDen) : Nat → D → D → Prop
  | 0, x, y => OwnT CS den x y ∨ (scal x = true ∧ x = y)
  | n + 1, x, y => EqN CS den n x y ∨ ∃ xs ys, x = .tup xs ∧ y = .tup ys ∧ xs.length = ys.length ∧ ∀ (i : Nat) (p q : D), xs[i]? = some p → ys[i]? = some q → EqN CS den n p q
def DN (T : Tab) (K : PySem.W.Frag) (f : Addr) (CS : List Nat) (den : FDen) : Nat → Eqv
  | 0 => fun v u H => DOwn T K f CS den v u H ∨ DFlat v u H
  | n + 1 => fun v u H => DN T K f CS den n v u H ∨ DTup K (DN T K f CS den n) v u H
theorem mon_dn {K : PySem.W.Frag} {CS : List Nat} : ∀ n, Mon (DN T K f CS den n)
  | 0 => mon_own.or mon_flat
  | n + 1 => (mon_dn n).or (mon_tup (mon_dn n))
theorem eqG_dn {CS : List Nat} (c : DF X.prog X.w X.K X.mg X.base T k f 2 den) : ∀ n, EqG X (k + n) (DN T X.K f CS den n)
  | 0 => ((rcG_own c).eqG fun _ _ _ d => let ⟨a, b, _, _, _, _, _, _, hx, hy, _⟩ := d; ⟨a, b, hx, hy⟩).or (eqG_flat.mono (Nat.zero_le _))
  | n + 1 => ((eqG_dn c n).mono (by omega)).or (eqG_tup (mon_dn n) (eqG_dn c n))
theorem scal_ok {K : PySem.W.Frag} {I : Hp} {m : List Addr} {x : D} {v u : V} (h : scal x = true) (r : Rp T K I m x v) (r2 : Rp T K I m x u) (H : Hp) : DFlat v u H := by
  cases x with
  | non => rw [rp_non.mp r, rp_non.mp r2]; exact ⟨rfl, rfl, by simp [eqV]⟩
  | bl b => rw [rp_bl.mp r, rp_bl.mp r2]; exact ⟨rfl, rfl, by simp [eqV]⟩
  | int b => rw [rp_int.mp r, rp_int.mp r2]; exact ⟨rfl, rfl, by simp [eqV]⟩
  | str b => rw [rp_str.mp r, rp_str.mp r2]; exact ⟨rfl, rfl, by simp [eqV]⟩
  | _ => cases h
theorem eqN_ok {K : PySem.W.Frag} {CS : List Nat} (S : OwnS T K f CS) {I H : Hp} {m : List Addr} {cs : List Cell} (sr : SR T K I m cs H) : ∀ (n : Nat) (x y : D) (v u : V), Rp T K I m x v → Rp T K I m y u → EqN CS den n x y → DN T K f CS den n v u H
  | 0, x, y, v, u, rx, ry, h => by
    rcases h with ⟨⟨c, c', e1, e2, h1, h2⟩, l1, l2, q⟩ | ⟨h, e⟩
    · left
      have rx0 := Rp.mono sr.same (List.prefix_refl _) (Rp.cut l1 rx)
      have ry0 := Rp.mono sr.same (List.prefix_refl _) (Rp.cut l2 ry)
      rw [List.take_zero] at rx0 ry0
      cases x with
      | obj cx xs =>
        cases y with
        | obj cy ys =>
          cases e1; cases e2
          have rx' := rx
          have ry' := ry
          unfold Rp at rx' ry'
          obtain ⟨a, dx, gs, rfl, ea, _, _⟩ := rx'
          obtain ⟨b, dy, hs, rfl, eb, _, _⟩ := ry'
          exact ⟨a, b, _, _, dx, dy, gs, hs, rfl, rfl, sr.same _ _ ea, sr.same _ _ eb, S.1 _ h1, S.2 _ h1 _ h2, _, _, rx0, ry0, q⟩
        | _ => cases e2
      | _ => cases e1
    · subst e
      exact .inr (scal_ok h rx ry H)
  | n + 1, x, y, v, u, rx, ry, h => by
    rcases h with h | ⟨xs, ys, rfl, rfl, hl, h⟩
    · exact .inl (eqN_ok S sr n x y v u rx ry h)
    · right
      obtain ⟨a, vs, rfl, q1, r1⟩ := rp_tup.mp rx
      obtain ⟨b, us, rfl, q2, r2⟩ := rp_tup.mp ry
      refine ⟨a, b, vs, us, rfl, rfl, SqT.same sr.same q1, SqT.same sr.same q2, by rw [← r1.length, ← r2.length]; exact hl, fun i w z hw hz => ?_⟩
      obtain ⟨p, hp, rp⟩ := r1.getV hw
      obtain ⟨q, hq, rq⟩ := r2.getV hz
      exact eqN_ok S sr n p q w z rp rq (h i p q hp hq)
theorem SR.extH {K : PySem.W.Frag} {I H H' : Hp} {m : List Addr} {cs : List Cell} (s : SR T K I m cs H) (e : Ext H H') : SR T K I m cs H' :=
  ⟨fun b u z => e _ _ (s.same _ _ z), s.len, fun n c z l => let ⟨a, o, h1, h2, h3, h4⟩ := s.at_ n c z l; ⟨a, o, h1, h2, e _ _ h3, h4⟩, s.inj⟩
/-- tuples, True alone -/
def eqOT (CS : List Nat) (den : FDen) (n : Nat) (x y : D) (cs : List Cell) : Out D := if (∃ xs ys, x = .tup xs ∧ y = .tup ys ∧ xs.length = ys.length ∧ ∀ (i : Nat) (p q : D), xs[i]? = some p → ys[i]? = some q → EqN CS den n p q) then .ok (.bl true) cs else .no
theorem hk_eqOT {K : PySem.W.Frag} {CS : List Nat} {n : Nat} (S : OwnS T K f CS) : Hk2 T K (rEqG (DTup K (DN T K f CS den n))) (eqOT CS den n) := by
  intro I m cs H x y v u Q E sr rx ry h
  unfold eqOT at h
  split at h
  · rename_i hq
    obtain ⟨xs, ys, rfl, rfl, hl, hp⟩ := hq
    obtain ⟨a, vs, rfl, q1, r1⟩ := rp_tup.mp rx
    obtain ⟨b, us, rfl, q2, r2⟩ := rp_tup.mp ry
    refine ⟨⟨a, b, vs, us, rfl, rfl, SqT.same sr.same q1, SqT.same sr.same q2, by rw [← r1.length, ← r2.length]; exact hl, fun i w z hw hz => ?_⟩, fun H' e => ?_⟩
    · obtain ⟨p, hp1, rp⟩ := r1.getV hw
      obtain ⟨q, hq1, rq⟩ := r2.getV hz
      exact eqN_ok S sr n p q w z rp rq (hp i p q hp1 hq1)
    · exact h (.bl true) H' I m (Same.refl I) (List.prefix_refl _) (sr.extH e) (rp_bl.mpr rfl)
  · exact h.elim
theorem dc_eqOT {CS : List Nat} {j n : Nat} (c : DF X.prog X.w X.K X.mg X.base T k f 2 den) (S : OwnS T X.K f CS) (hr : Room j X.A) (hk : k + n + 1 ≤ j := by decide) (ha : DE X T W a g) (hb : DE X T W b h) : DC X T W .Eq a b (d2 g h (eqOT CS den n)) :=
  dc_op (op_eqG (rcG_tup (mon_dn n) (eqG_dn c n)) (hr.mono hk)) (hk_eqOT S) ha hb
/-! ### the own + of two objects of one class -/
def rBin (T : Tab) (K : PySem.W.Frag) (C : Addr) (den : FDen) : R2 := fun x y H Q => ∃ a b dx dy gs hs, x = .ref a ∧ y = .ref b ∧ H a = some (.ins C dx gs) ∧ H b = some (.ins C dy hs) ∧
  ∃ I m cs d1 d2, SR T K I m cs H ∧ Rp T K I m d1 x ∧ Rp T K I m d2 y ∧ OutG T K (RD T K) I m (den [d1, d2] cs) (fun v H' => ∃ r, v = .ref r ∧ Q (.ref r) H') (fun _ _ _ => False)
theorem op_ownAdd {C : Addr} (c : DF X.prog X.w X.K X.mg X.base T k f 2 den) (hr : Room k X.A) (sf : PySem.W.selfFirst X.K C = true) (hm : Meth X.K C "__add__" f) : OpR X (binaryOp .Add) (rBin T X.K C den) := by
  intro pins s σ H x y v u Q I rx ry h
  obtain ⟨a, b, dx, dy, gs, hs, rfl, rfl, ha, hb, h⟩ := h
  cases rx
  cases ry
  obtain ⟨mA, J, _⟩ := ins_get I.hok ha
  obtain ⟨mB, J', _⟩ := ins_get I.hok hb
  obtain ⟨od, J, _⟩ := J.look
  obtain ⟨od', J', _⟩ := J'.look
  obtain ⟨m, hF⟩ := I.fr
  refine PySem.W.binop_K (op := .Add) hF I.ok.mod.kin J J'.type sf hm.at_ hm.fn (wpAny_mono (eq_call c hr rfl I h) (fun w s' z => ?_) fun _ _ x => x)
  obtain ⟨z, H', I', rz, r, rfl, q⟩ := z
  cases rz
  exact ⟨.ref r, H', I', rfl, q⟩
def ownAddD (C : Nat) (den : FDen) (x y : D) (cs : List Cell) : Out D := if isOb x = some C ∧ isOb y = some C then (match den [x, y] cs with
  | .ok (.obj c fs) cs => .ok (.obj c fs) cs
  | _ => .no) else .no
theorem hk_ownAdd {K : PySem.W.Frag} {C : Nat} : Hk2 T K (rBin T K (T.ca C) den) (ownAddD C den) := by
  intro I m cs H x y v u Q E sr rx ry h
  unfold ownAddD at h
  split at h
  · rename_i hc
    cases x with
    | obj cx xs =>
      cases y with
      | obj cy ys =>
        obtain ⟨e1, e2⟩ := hc
        cases e1; cases e2
        have rx' := rx
        have ry' := ry
        unfold Rp at rx' ry'
        obtain ⟨a, dx, gs, rfl, ea, _, _⟩ := rx'
        obtain ⟨b, dy, hs, rfl, eb, _, _⟩ := ry'
        refine ⟨a, b, dx, dy, gs, hs, rfl, rfl, sr.same _ _ ea, sr.same _ _ eb, I, m, cs, _, _, sr, rx, ry, ?_⟩
        cases hd : den [.obj C xs, .obj C ys] cs with
        | ok d cs1 =>
          rw [hd] at h
          cases d with
          | obj c fs =>
            intro v H' I' m' s p sr' r'
            have r2 := r'
            unfold RD Rp at r2
            obtain ⟨a2, _, _, rfl, _⟩ := r2
            exact ⟨a2, rfl, h (.ref a2) H' I' m' s p sr' r'⟩
          | _ => exact h.elim
        | exn => rw [hd] at h; exact h.elim
        | no => rw [hd] at h; exact h.elim
      | _ => cases hc.2
    | _ => cases hc.1
  · exact h.elim
theorem de_ownAdd {C j : Nat} (c : DF X.prog X.w X.K X.mg X.base T k f 2 den) (hr : Room j X.A) (sf : PySem.W.selfFirst X.K (T.ca C) = true) (hm : Meth X.K (T.ca C) "__add__" f) (ha : DE X T W a g) (hb : DE X T W b h) (hk : k ≤ j := by decide) : DE X T W (.BinOp a .Add b pos) (d2 g h (ownAddD C den)) :=
  de_op (op_ownAdd c (hr.mono hk) sf hm) hk_ownAdd ha hb
end
section
variable {X : Cx} {T : Tab} {W : WX} {a b : Expr} {g h : Den D} {pos : Pos}
/-! ### == with the empty tuple -/
def rEqE (K : PySem.W.Frag) : R2 := fun x y H Q => ∃ a b xs, x = .ref a ∧ y = .ref b ∧ SqT K H a xs ∧ SqT K H b [] ∧ Q (.bl (xs.length == 0)) H
theorem op_eqE (hu : X.A.units < cLine) : OpR X (compareOp .Eq) (rEqE X.K) := by
  intro pins s σ H x y v u Q I rx ry h
  obtain ⟨a, b, xs, rfl, rfl, ha, hb, q⟩ := h
  cases rx
  cases ry
  obtain ⟨its, r1, t1, _⟩ := I.tuple ha
  obtain ⟨its2, r2, t2, _⟩ := I.tuple hb
  cases r2
  refine SeqAt.eq_tupleAt (e := fun _ => true) t1 t2 hu (fun j h1 h2 => by simp at h2) ⟨.bl (xs.length == 0), H, I, ?_, q⟩
  have e := r1.length
  simp [e]
  rfl
def eqE (x y : D) (cs : List Cell) : Out D := match x, y with
  | .tup xs, .tup [] => .ok (.bl (xs.length == 0)) cs
  | _, _ => .no
theorem hk_eqE {K : PySem.W.Frag} : Hk2 T K (rEqE K) eqE := by
  intro I m cs H x y v u Q E sr rx ry h
  unfold eqE at h
  split at h
  · rename_i xs
    obtain ⟨a, vs, rfl, q1, r1⟩ := rp_tup.mp rx
    obtain ⟨b, us, rfl, q2, r2⟩ := rp_tup.mp ry
    have e := r2.inil
    subst e
    exact ⟨a, b, vs, rfl, rfl, SqT.same sr.same q1, SqT.same sr.same q2, by rw [← r1.length]; exact h.okI sr (rp_bl.mpr rfl)⟩
  · exact h.elim
theorem dc_eqE {j : Nat} (hr : Room j X.A) (ha : DE X T W a g) (hb : DE X T W b h) : DC X T W .Eq a b (d2 g h eqE) :=
  dc_op (op_eqE (hr.mono (Nat.zero_le _)).units0) hk_eqE ha hb
theorem hu_of {j : Nat} (hr : Room j X.A) (hk : 1 ≤ j := by decide) : X.A.units + 1 < cLine := (hr.mono hk).in1.units0
end
section
variable {fa : List He.Fa} {fn : List He.DefD} {fb : List Fb} {K : PySem.W.Frag} {mg : PySem.Str → Option Value}
theorem Kn.own (z : Kn fa fn fb K mg) (i : Nat) {x : PySem.Str} {p : PySem.Str × Option PySem.Str} (h : fb[i]? = some (.own x p) := by rfl) : OwnC K (He.fAd K p) (He.ga K x) := by
  obtain ⟨h1, h2⟩ := He.ba (z.fb_ i h)
  obtain ⟨h3, h4⟩ := He.ba h2
  obtain ⟨h5, h6⟩ := He.ba h4
  exact ⟨He.eqO_ok h1, He.eqO_ok h3, h5, of_decide_eq_true h6⟩
theorem Kn.nf (z : Kn fa fn fb K mg) (i : Nat) {x y : PySem.Str} (h : fb[i]? = some (.nf x y) := by rfl) : PySem.W.notFirst K (He.ga K x) (.ref (He.ga K y)) = true := z.fb_ i h
theorem Kn.slf (z : Kn fa fn fb K mg) (i : Nat) {x : PySem.Str} (h : fb[i]? = some (.slf x) := by rfl) : PySem.W.selfFirst K (He.ga K x) = true := z.fb_ i h
end
end
end DL
end

section
set_option Elab.async false
set_option linter.all false
set_option maxRecDepth 100000
namespace K71
open PySem L2 DL
noncomputable section
def ats0 : List PySem.Str := ["what", "count", "line", "word", "store", "sizes", "number", "memory", "commands", "result", "apart", "order", "made", "flushed", "sure", "time", "low", "high"]
def ats1 : List PySem.Str := ["numbers", "place", "from_line", "from_word", "conditions", "moves", "steps", "image", "second", "words", "recovery", "good", "known", "name", "rules", "history", "book", "is_first"]
def ats : List PySem.Str := ats0 ++ ats1
def nm : Nat → PySem.Str := nmOf ats
def od : Nat → List Nat
  | 7 => [5]
  | 9 => [2, 3, 6]
  | 10 => [2]
  | 12 => [7, 8]
  | _ => []
def cn : Nat → PySem.Str
  | 7 => "Memory"
  | 9 => "Store"
  | 10 => "Flush"
  | 11 => "Fence"
  | 12 => "Program"
  | _ => "law"
def isi_Flush : List (Nat × Bool) := [(7, false), (9, false), (10, true), (11, false), (12, false)]
def isi_Store : List (Nat × Bool) := [(7, false), (9, true), (10, false), (11, false), (12, false)]
def isi_Thing : List (Nat × Bool) := [(7, true), (9, true), (10, true), (11, true), (12, true)]
def ownCS : List Nat := [7, 9, 10, 11, 12]
def b_law_source : SDen := (sRet (dLstC (dCons (dCall (dCons (dVar 0) dNil) absD) (dCons (d2 (dCall (dCons (dVar 0) dNil) intX) (dC (.int 2147483629)) modD) (dCons (dC (.int 0)) dNil)))))
def F_law_source : FDen := mkF 1 1 b_law_source
def b_law_draw : SDen := (sSeq (sIf (qB (d2 (d2 (dVar 0) (dC (.int 0)) ixD) (d2 (dC (.int 10)) (dC (.int 18)) powD) geD))
  (sSeq (sSet 3 (d2 (dCall (dCons (d2 (dVar 0) (dC (.int 0)) ixD) dNil) intX) (dVar 1) modD))
  (sSeq (sAsg (d2 (d2 (dVar 0) (dC (.int 0)) ixD) (dVar 1) fdivD) (gIx (dVar 0) (dC (.int 0))))
  (sRet (dVar 3))))
  sNil)
  (sSeq (sAsg (d2 (d2 (dVar 0) (dC (.int 2)) ixD) (dC (.int 1)) addD) (gIx (dVar 0) (dC (.int 2))))
  (sSeq (sSet 2 (d2 (dCall (dCons (d2 (d2 (d2 (d2 (dVar 0) (dC (.int 1)) ixD) (d2 (dC (.int 7919)) (d2 (dVar 0) (dC (.int 2)) ixD) mulD) addD) (dC (.int 1)) addD) (dC (.int 48271)) mulD) dNil) intX) (dC (.int 2147483647)) modD))
  (sSeq (sSet 2 (d2 (dCall (dCons (d2 (dVar 2) (d2 (d2 (dVar 2) (dC (.int 1013)) fdivD) (dC (.int 69621)) addD) mulD) dNil) intX) (dC (.int 2147483587)) modD))
  (sRet (d2 (dCall (dCons (d2 (dCall (dCons (d2 (d2 (dVar 2) (dC (.int 7)) fdivD) (d2 (d2 (dCall (dCons (dVar 2) dNil) intX) (dC (.int 7919)) modD) (dC (.int 40692)) mulD) addD) dNil) intX) (dC (.int 2147483399)) modD) dNil) intX) (dVar 1) modD))))))
def F_law_draw : FDen := mkF 4 2 b_law_draw
def ce_law_sizes_0 : Den D := (d2 (dC (.int 1)) (dFn F_law_draw (dCons (dVar 0) (dCons (dC (.int 4)) dNil))) addD)
def b_law_sizes : SDen := (sRet (dLc [2] (itR1 (dCons (d2 (dC (.int 1)) (dFn F_law_draw (dCons (dVar 0) (dCons (dVar 1) dNil))) addD) dNil)) (gNm 2) pYes ce_law_sizes_0))
def F_law_sizes : FDen := mkF 3 2 b_law_sizes
def lb_Memory_init_0 : SDen := (sIf (qNot (qB (chainD (dC (.int 1)) (dVar 2) (dC (.int 4)) (fun i j => decide (i ≤ j)) (fun i j => decide (i ≤ j)))))
  sNo
  sNil)
def b_Memory_init : SDen := (sSeq (sFldD od 5 (dVar 0) (dCall (dCons (dVar 1) dNil) tupleD))
  (sSeq (sIf (qNot (qB (chainD (dC (.int 1)) (dCall (dCons (d1 (dVar 0) (getD od 5)) dNil) lenD) (dC (.int 6)) (fun i j => decide (i ≤ j)) (fun i j => decide (i ≤ j)))))
  sNo
  sNil)
  (sFor (itT (d1 (dVar 0) (getD od 5))) (gNm 2)
  lb_Memory_init_0)))
def F_Memory_init : FDen := mkF 3 2 b_Memory_init
def b_law_pick : SDen := (sRet (d2 (dVar 1) (dFn F_law_draw (dCons (dVar 0) (dCons (dCall (dCons (dVar 1) dNil) lenD) dNil))) ixD))
def F_law_pick : FDen := mkF 2 2 b_law_pick
def b_law_number : SDen := (sSeq (sSet 1 (d2 (d2 (dC (.int 10)) (dC (.int 30)) powD) (dFn F_law_draw (dCons (dVar 0) (dCons (d2 (dC (.int 10)) (dC (.int 9)) powD) dNil))) addD))
  (sRet (dFn F_law_pick (dCons (dVar 0) (dCons (dLst (dCons (dC (.int 0)) (dCons (dC (.int 1)) (dCons (dC (.int 2)) (dCons (d1 (dC (.int 1)) negD) (dCons (dC (.int 7)) (dCons (dVar 1) (dCons (d2 (dC (.int 0)) (dVar 1) subD) (dCons (dFn F_law_draw (dCons (dVar 0) (dCons (dC (.int 1000)) dNil))) dNil))))))))) dNil)))))
def F_law_number : FDen := mkF 2 1 b_law_number
def lb_law_specs_0 : SDen := (sSeq (sSet 6 (dFn F_law_pick (dCons (dVar 0) (dCons (dLst (dCons (dC (.str "store")) (dCons (dC (.str "store")) (dCons (dC (.str "store")) (dCons (dC (.str "flush")) (dCons (dC (.str "flush")) (dCons (dC (.str "fence")) dNil))))))) dNil))))
  (sSeq (sSet 7 (dFn F_law_draw (dCons (dVar 0) (dCons (dCall (dCons (dVar 1) dNil) lenD) dNil))))
  (sExpr (dML (dVar 4) (dCons (dTup (dCons (dVar 6) (dCons (dVar 7) (dCons (dFn F_law_draw (dCons (dVar 0) (dCons (d2 (dVar 1) (dVar 7) ixD) dNil))) (dCons (dFn F_law_number (dCons (dVar 0) dNil)) dNil))))) dNil) appendD))))
def b_law_specs : SDen := (sSeq (sSet 4 (dLstC dNil))
  (sSeq (sFor (itR1 (dCons (d2 (dVar 2) (dFn F_law_draw (dCons (dVar 0) (dCons (d2 (d2 (dVar 3) (dVar 2) subD) (dC (.int 1)) addD) dNil))) addD) dNil)) (gNm 5)
  lb_law_specs_0)
  (sRet (dVar 4))))
def F_law_specs : FDen := mkF 8 4 b_law_specs
def ce_law_text_0 : Den D := (dCall (dCons (dVar 7) dNil) strD)
def lb_law_text_1 : SDen := (sSeq (sSet 6 (dTr (d2 (dDisp (((dC (.str "store")), (dLst (dCons (dVar 3) (dCons (dVar 4) (dCons (dVar 5) dNil))))) :: (((dC (.str "flush")), (dLst (dCons (dVar 3) dNil))) :: (((dC (.str "fence")), (dLst dNil)) :: [])))) (dVar 2) dgetD)))
  (sExpr (dML (dVar 1) (dCons (dM1 (dC (.str " ")) (d2 (dLst (dCons (dVar 2) dNil)) (dLc [7] (itL (dVar 6)) (gNm 7) pYes ce_law_text_0) addD) joinD) dNil) appendD)))
def b_law_text : SDen := (sSeq (sSet 1 (dLstC dNil))
  (sSeq (sFor (itL (dVar 0)) (gTupD 4 (gsCons (gNm 2) (gsCons (gNm 3) (gsCons (gNm 4) (gsCons (gNm 5) gsNil)))))
  lb_law_text_1)
  (sRet (dIf (qB (d2 (dVar 1) (dLst dNil) (eqC false 20))) (dC (.str "none")) (dM1 (dC (.str ", ")) (dVar 1) joinD)))))
def F_law_text : FDen := mkF 8 1 b_law_text
def b_Memory_check_line : SDen := (sIf (qNot (qB (chainD (dC (.int 0)) (dVar 1) (dCall (dCons (d1 (dVar 0) (getD od 5)) dNil) lenD) (fun i j => decide (i ≤ j)) (fun i j => decide (i < j)))))
  sNo
  sNil)
def F_Memory_check_line : FDen := mkF 2 2 b_Memory_check_line
def disp_check_line : List (Nat × FDen) := [(7, F_Memory_check_line)]
theorem lk_check_line_7 : disp_check_line.lookup 7 = some F_Memory_check_line := rfl
def b_Memory_check_word : SDen := (sSeq (sExpr (dMth od (fun c => disp_check_line.lookup c) (dVar 0) (dCons (dVar 1) dNil)))
  (sIf (qNot (qB (chainD (dC (.int 0)) (dVar 2) (d2 (d1 (dVar 0) (getD od 5)) (dVar 1) ixD) (fun i j => decide (i ≤ j)) (fun i j => decide (i < j)))))
  sNo
  sNil))
def F_Memory_check_word : FDen := mkF 3 3 b_Memory_check_word
def disp_check_word : List (Nat × FDen) := [(7, F_Memory_check_word)]
theorem lk_check_word_7 : disp_check_word.lookup 7 = some F_Memory_check_word := rfl
def b_Store_check : SDen := (sExpr (dMth od (fun c => disp_check_word.lookup c) (dVar 1) (dCons (d1 (dVar 0) (getD od 2)) (dCons (d1 (dVar 0) (getD od 3)) dNil))))
def F_Store_check : FDen := mkF 2 2 b_Store_check
def b_Flush_check : SDen := (sExpr (dMth od (fun c => disp_check_line.lookup c) (dVar 1) (dCons (d1 (dVar 0) (getD od 2)) dNil)))
def F_Flush_check : FDen := mkF 2 2 b_Flush_check
def b_Command_check : SDen := sPass
def F_Command_check : FDen := mkF 2 2 b_Command_check
def disp_check : List (Nat × FDen) := [(9, F_Store_check), (10, F_Flush_check), (11, F_Command_check)]
theorem lk_check_9 : disp_check.lookup 9 = some F_Store_check := rfl
theorem lk_check_10 : disp_check.lookup 10 = some F_Flush_check := rfl
theorem lk_check_11 : disp_check.lookup 11 = some F_Command_check := rfl
def lb_check_commands_0 : SDen := (sExpr (dMth od (fun c => disp_check.lookup c) (dVar 2) (dCons (dVar 0) dNil)))
def b_check_commands : SDen := (sFor (itT (dVar 1)) (gNm 2)
  lb_check_commands_0)
def F_check_commands : FDen := mkF 3 2 b_check_commands
def b_Program_init : SDen := (sSeq (sFldD od 7 (dVar 0) (dVar 1))
  (sSeq (sFldD od 8 (dVar 0) (dCall (dCons (dVar 2) dNil) tupleD))
  (sSeq (sIf (qB (d2 (dCall (dCons (d1 (dVar 0) (getD od 8)) dNil) lenD) (dC (.int 200)) gtD))
  sNo
  sNil)
  (sExpr (dFn F_check_commands (dCons (dVar 1) (dCons (d1 (dVar 0) (getD od 8)) dNil)))))))
def F_Program_init : FDen := mkF 3 3 b_Program_init
def b_Store_init : SDen := (sSeq (sFldD od 2 (dVar 0) (dVar 1))
  (sSeq (sFldD od 3 (dVar 0) (dVar 2))
  (sFldD od 6 (dVar 0) (dVar 3))))
def F_Store_init : FDen := mkF 4 4 b_Store_init
def b_Flush_init : SDen := (sFldD od 2 (dVar 0) (dVar 1))
def F_Flush_init : FDen := mkF 2 2 b_Flush_init
def b_law_command : SDen := (sSeq (sAsg (dVar 0) (gTupD 4 (gsCons (gNm 1) (gsCons (gNm 2) (gsCons (gNm 3) (gsCons (gNm 4) gsNil))))))
  (sSeq (sIf (qB (d2 (dVar 1) (dC (.str "store")) (eqC false 20)))
  (sRet (dFn (mkO od 9 F_Store_init) (dCons (dVar 2) (dCons (dVar 3) (dCons (dVar 4) dNil)))))
  sNil)
  (sRet (dIf (qB (d2 (dVar 1) (dC (.str "flush")) (eqC false 20))) (dFn (mkO od 10 F_Flush_init) (dCons (dVar 2) dNil)) (fun _ cs => .ok (.obj 11 []) cs)))))
def F_law_command : FDen := mkF 5 1 b_law_command
def ce_law_program_0 : Den D := (dFn F_law_command (dCons (dVar 2) dNil))
def b_law_program : SDen := (sRet (dFn (mkO od 12 F_Program_init) (dCons (dFn (mkO od 7 F_Memory_init) (dCons (dVar 0) dNil)) (dCons (dLc [2] (itL (dVar 1)) (gNm 2) pYes ce_law_program_0) dNil))))
def F_law_program : FDen := mkF 3 2 b_law_program
def ce_read_number_0 : Den D := (d2 (dVar 3) (dC (.str "0123456789")) (inC false 20 false))
def b_read_number : SDen := (sSeq (sSet 2 (dIf (qB (d2 (dSl (dVar 0) oNone (oSome (dC (.int 1)))) (dC (.str "-")) (eqC false 20))) (dSl (dVar 0) (oSome (dC (.int 1))) oNone) (dVar 0)))
  (sSeq (sIf (qOr (qNot (qB (chainD (dC (.int 1)) (dCall (dCons (dVar 2) dNil) lenD) (dC (.int 31)) (fun i j => decide (i ≤ j)) (fun i j => decide (i ≤ j))))) (qNot (qB (dCall (dCons (dLc [3] (itS (dVar 2)) (gNm 3) pYes ce_read_number_0) dNil) allD))))
  sNo
  sNil)
  (sSeq (sIf (qAnd (qB (d2 (d2 (dVar 2) (dC (.int 0)) ixD) (dC (.str "0")) (eqC false 20))) (qB (d2 (dVar 0) (dC (.str "0")) (neC false 20))))
  sNo
  sNil)
  (sRet (dCall (dCons (dVar 0) dNil) intX)))))
def F_read_number : FDen := mkF 4 2 b_read_number
def ce_read_command_0 : Den D := (dFn F_read_number (dCons (dVar 5) (dCons (dVar 1) dNil)))
def b_read_command : SDen := (sSeq (sSet 2 (dM1 (dVar 0) (dC (.str " ")) splitD))
  (sSeq (sSet 3 (dLc [5] (itL (dSl (dVar 2) (oSome (dC (.int 1))) oNone)) (gNm 5) pYes ce_read_command_0))
  (sSeq (sIf (qAnd (qB (d2 (d2 (dVar 2) (dC (.int 0)) ixD) (dC (.str "store")) (eqC false 20))) (qB (d2 (dCall (dCons (dVar 3) dNil) lenD) (dC (.int 3)) (eqC false 20))))
  (sSeq (sAsg (dVar 3) (gLstD 3 (gsCons (gNm 4) (gsCons (gNm 5) (gsCons (gNm 6) gsNil)))))
  (sRet (dFn (mkO od 9 F_Store_init) (dCons (dVar 4) (dCons (dVar 5) (dCons (dVar 6) dNil))))))
  sNil)
  (sSeq (sIf (qAnd (qB (d2 (d2 (dVar 2) (dC (.int 0)) ixD) (dC (.str "flush")) (eqC false 20))) (qB (d2 (dCall (dCons (dVar 3) dNil) lenD) (dC (.int 1)) (eqC false 20))))
  (sRet (dFn (mkO od 10 F_Flush_init) (dCons (d2 (dVar 3) (dC (.int 0)) ixD) dNil)))
  sNil)
  (sSeq (sIf (qB (d2 (dVar 0) (dC (.str "fence")) (eqC false 20)))
  (sRet (fun _ cs => .ok (.obj 11 []) cs))
  sNil)
  sNo)))))
def F_read_command : FDen := mkF 7 2 b_read_command
def ce_read_program_0 : Den D := (dFn F_read_command (dCons (dVar 3) (dCons (dVar 2) dNil)))
def b_read_program : SDen := (sSeq (sIf (qB (d2 (dVar 1) (dC (.str "none")) (eqC false 20)))
  (sRet (dFn (mkO od 12 F_Program_init) (dCons (dVar 0) (dCons (dLst dNil) dNil))))
  sNil)
  (sRet (dFn (mkO od 12 F_Program_init) (dCons (dVar 0) (dCons (dLc [2, 3] (itEn (dCons (dM1 (dVar 1) (dC (.str ", ")) splitD) dNil)) (gTupD 2 (gsCons (gNm 2) (gsCons (gNm 3) gsNil))) pYes ce_read_program_0) dNil)))))
def F_read_program : FDen := mkF 4 2 b_read_program
def b_command_text : SDen := (sSeq (sIf (qB (d1 (dVar 0) (isiD isi_Store)))
  (sRet (dJs ((dC (.str "store ")) :: ((dFmt (d1 (dVar 0) (getD od 2))) :: ((dC (.str " ")) :: ((dFmt (d1 (dVar 0) (getD od 3))) :: ((dC (.str " ")) :: ((dFmt (d1 (dVar 0) (getD od 6))) :: [])))))) Str.empty))
  sNil)
  (sSeq (sIf (qB (d1 (dVar 0) (isiD isi_Flush)))
  (sRet (dJs ((dC (.str "flush ")) :: ((dFmt (d1 (dVar 0) (getD od 2))) :: [])) Str.empty))
  sNil)
  (sRet (dC (.str "fence")))))
def F_command_text : FDen := mkF 1 1 b_command_text
def ce_program_text_0 : Den D := (dFn F_command_text (dCons (dVar 1) dNil))
def b_program_text : SDen := (sSeq (sIf (qB (d2 (d1 (dVar 0) (getD od 8)) (dTup dNil) eqE))
  (sRet (dC (.str "none")))
  sNil)
  (sRet (dM1 (dC (.str ", ")) (dLc [1] (itT (d1 (dVar 0) (getD od 8))) (gNm 1) pYes ce_program_text_0) joinD)))
def F_program_text : FDen := mkF 2 1 b_program_text
def b_Memory_kind : SDen := (sRet (dC (.str "memory")))
def F_Memory_kind : FDen := mkF 1 1 b_Memory_kind
def b_Store_kind : SDen := (sRet (dC (.str "store")))
def F_Store_kind : FDen := mkF 1 1 b_Store_kind
def b_Flush_kind : SDen := (sRet (dC (.str "flush")))
def F_Flush_kind : FDen := mkF 1 1 b_Flush_kind
def b_Fence_kind : SDen := (sRet (dC (.str "fence")))
def F_Fence_kind : FDen := mkF 1 1 b_Fence_kind
def b_Program_kind : SDen := (sRet (dC (.str "program")))
def F_Program_kind : FDen := mkF 1 1 b_Program_kind
def disp_kind : List (Nat × FDen) := [(7, F_Memory_kind), (9, F_Store_kind), (10, F_Flush_kind), (11, F_Fence_kind), (12, F_Program_kind)]
theorem lk_kind_7 : disp_kind.lookup 7 = some F_Memory_kind := rfl
theorem lk_kind_9 : disp_kind.lookup 9 = some F_Store_kind := rfl
theorem lk_kind_10 : disp_kind.lookup 10 = some F_Flush_kind := rfl
theorem lk_kind_11 : disp_kind.lookup 11 = some F_Fence_kind := rfl
theorem lk_kind_12 : disp_kind.lookup 12 = some F_Program_kind := rfl
def b_Memory_facts : SDen := (sRet (dTup (dCons (d1 (dVar 0) (getD od 5)) dNil)))
def F_Memory_facts : FDen := mkF 1 1 b_Memory_facts
def b_Store_facts : SDen := (sRet (dTup (dCons (d1 (dVar 0) (getD od 2)) (dCons (d1 (dVar 0) (getD od 3)) (dCons (d1 (dVar 0) (getD od 6)) dNil)))))
def F_Store_facts : FDen := mkF 1 1 b_Store_facts
def b_Flush_facts : SDen := (sRet (dTup (dCons (d1 (dVar 0) (getD od 2)) dNil)))
def F_Flush_facts : FDen := mkF 1 1 b_Flush_facts
def b_Thing_facts : SDen := (sRet (dTup dNil))
def F_Thing_facts : FDen := mkF 1 1 b_Thing_facts
def b_Program_facts : SDen := (sRet (dTup (dCons (d1 (dVar 0) (getD od 7)) (dCons (d1 (dVar 0) (getD od 8)) dNil))))
def F_Program_facts : FDen := mkF 1 1 b_Program_facts
def disp_facts : List (Nat × FDen) := [(7, F_Memory_facts), (9, F_Store_facts), (10, F_Flush_facts), (11, F_Thing_facts), (12, F_Program_facts)]
theorem lk_facts_7 : disp_facts.lookup 7 = some F_Memory_facts := rfl
theorem lk_facts_9 : disp_facts.lookup 9 = some F_Store_facts := rfl
theorem lk_facts_10 : disp_facts.lookup 10 = some F_Flush_facts := rfl
theorem lk_facts_11 : disp_facts.lookup 11 = some F_Thing_facts := rfl
theorem lk_facts_12 : disp_facts.lookup 12 = some F_Program_facts := rfl
def b_Thing_eq : SDen := (sSeq (sIf (qOr (qNot (qB (d1 (dVar 1) (isiD isi_Thing)))) (qB (d2 (dMth od (fun c => disp_kind.lookup c) (dVar 0) dNil) (dMth od (fun c => disp_kind.lookup c) (dVar 1) dNil) (neC false 20))))
  (sRet (dC (.bl false)))
  sNil)
  (sRet (d2 (dMth od (fun c => disp_facts.lookup c) (dVar 0) dNil) (dMth od (fun c => disp_facts.lookup c) (dVar 1) dNil) (eqC false 20))))
def F_Thing_eq : FDen := mkF 2 2 b_Thing_eq
def disp_eq : List (Nat × FDen) := [(7, F_Thing_eq), (9, F_Thing_eq), (10, F_Thing_eq), (11, F_Thing_eq), (12, F_Thing_eq)]
theorem lk_eq_7 : disp_eq.lookup 7 = some F_Thing_eq := rfl
theorem lk_eq_9 : disp_eq.lookup 9 = some F_Thing_eq := rfl
theorem lk_eq_10 : disp_eq.lookup 10 = some F_Thing_eq := rfl
theorem lk_eq_11 : disp_eq.lookup 11 = some F_Thing_eq := rfl
theorem lk_eq_12 : disp_eq.lookup 12 = some F_Thing_eq := rfl
def b_Thing_eq1 : SDen := (sSeq (sIf (qOr (qNot (qB (d1 (dVar 1) (isiD isi_Thing)))) (qB (d2 (dMth od (fun c => disp_kind.lookup c) (dVar 0) dNil) (dMth od (fun c => disp_kind.lookup c) (dVar 1) dNil) (neC false 20))))
  (sRet (dC (.bl false)))
  sNil)
  (sRet (d2 (dMth od (fun c => disp_facts.lookup c) (dVar 0) dNil) (dMth od (fun c => disp_facts.lookup c) (dVar 1) dNil) (eqOT ownCS F_Thing_eq 1))))
def F_Thing_eq1 : FDen := mkF 2 2 b_Thing_eq1
def lb_law_shown_0 : SDen := (sIf (qB (d1 (dVar 2) (isiD isi_Store)))
  (sExpr (dML (dVar 1) (dCons (dTup (dCons (dC (.str "store")) (dCons (d1 (dVar 2) (getD od 2)) (dCons (d1 (dVar 2) (getD od 3)) (dCons (d1 (dVar 2) (getD od 6)) dNil))))) dNil) appendD))
  (sExpr (dML (dVar 1) (dCons (dIf (qB (d1 (dVar 2) (isiD isi_Flush))) (dTup (dCons (dC (.str "flush")) (dCons (d1 (dVar 2) (getD od 2)) dNil))) (dTup (dCons (dC (.str "fence")) dNil))) dNil) appendD)))
def b_law_shown : SDen := (sSeq (sSet 1 (dLstC dNil))
  (sSeq (sFor (itT (dVar 0)) (gNm 2)
  lb_law_shown_0)
  (sRet (dFrz (dVar 1)))))
def F_law_shown : FDen := mkF 3 1 b_law_shown
def ce_law_due_0 : Den D := (dSl (dVar 1) oNone (oSome (dTr (d2 (dDisp (((dC (.str "store")), (dC (.int 4))) :: (((dC (.str "flush")), (dC (.int 2))) :: (((dC (.str "fence")), (dC (.int 1))) :: [])))) (d2 (dVar 1) (dC (.int 0)) ixD) dgetD))))
def b_law_due : SDen := (sRet (dLc [1] (itL (dVar 0)) (gNm 1) pYes ce_law_due_0))
def F_law_due : FDen := mkF 2 1 b_law_due
def b_Program_add : SDen := (sSeq (sIf (qB (d2 (d1 (dVar 0) (getD od 7)) (d1 (dVar 1) (getD od 7)) (ownD ownCS F_Thing_eq true)))
  sNo
  sNil)
  (sRet (dFn (mkO od 12 F_Program_init) (dCons (d1 (dVar 0) (getD od 7)) (dCons (d2 (d1 (dVar 0) (getD od 8)) (d1 (dVar 1) (getD od 8)) addD) dNil)))))
def F_Program_add : FDen := mkF 2 2 b_Program_add
def disp_add : List (Nat × FDen) := [(12, F_Program_add)]
theorem lk_add_12 : disp_add.lookup 12 = some F_Program_add := rfl
def lb_law_right_0 : SDen := (sSeq (sSet 9 (dFn F_law_text (dCons (dVar 7) dNil)))
  (sSeq (sSet 10 (dFn F_law_program (dCons (dVar 1) (dCons (dVar 7) dNil))))
  (sSeq (sSet 11 (dFn F_read_program (dCons (dVar 2) (dCons (dVar 9) dNil))))
  (sSeq (sIf (qOr (qB (d2 (dFn F_program_text (dCons (dVar 10) dNil)) (dVar 9) (neC false 20))) (qOr (qB (d2 (dVar 11) (dVar 10) (ownD ownCS F_Thing_eq1 true))) (qB (d2 (dFn F_law_shown (dCons (d1 (dVar 11) (getD od 8)) dNil)) (dFn F_law_due (dCons (dVar 7) dNil)) (neC false 20)))))
  (sRet (dC (.bl false)))
  sNil)
  (sIf (qB (d2 (d1 (d1 (dVar 11) (getD od 7)) (getD od 5)) (dCall (dCons (dVar 1) dNil) tupleD) (neC false 20)))
  (sRet (dC (.bl false)))
  sNil)))))
def b_law_right : SDen := (sSeq (sSet 1 (dFn F_law_sizes (dCons (dVar 0) (dCons (dC (.int 6)) dNil))))
  (sSeq (sSet 2 (dFn (mkO od 7 F_Memory_init) (dCons (dVar 1) dNil)))
  (sSeq (sPar 3 4 (dCons (dFrz (dFn F_law_specs (dCons (dVar 0) (dCons (dVar 1) (dCons (dC (.int 0)) (dCons (dC (.int 12)) dNil)))))) (dCons (dFn F_law_specs (dCons (dVar 0) (dCons (dVar 1) (dCons (dC (.int 1)) (dCons (dC (.int 12)) dNil))))) dNil)))
  (sSeq (sSet 5 (dFn F_law_pick (dCons (dVar 0) (dCons (dLst (dCons (d2 (d2 (dC (.int 10)) (dC (.int 31)) powD) (dC (.int 1)) subD) (dCons (d2 (dC (.int 1)) (d2 (dC (.int 10)) (dC (.int 31)) powD) subD) (dCons (d2 (dC (.int 10)) (dC (.int 30)) powD) (dCons (dC (.int 0)) dNil))))) dNil))))
  (sSeq (sAsg (dTup (dCons (dC (.str "store")) (dCons (dC (.int 0)) (dCons (dC (.int 0)) (dCons (dVar 5) dNil))))) (gIx (dVar 4) (dC (.int 0))))
  (sSeq (sSet 6 (d2 (d2 (dVar 3) (dVar 4) addD) (dC (.int 200)) mulD))
  (sSeq (sFor (itL (dLst (dCons (dVar 3) (dCons (dVar 4) (dCons (d2 (dVar 3) (dVar 4) addD) (dCons (dLst dNil) (dCons (dSl (dVar 6) oNone (oSome (dC (.int 200)))) dNil))))))) (gNm 7)
  lb_law_right_0)
  (sSeq (sSet 8 (dIf (qB (d2 (dVar 3) (dLst dNil) (eqC false 20))) (dFn F_law_text (dCons (d2 (dVar 3) (dVar 4) addD) dNil)) (d2 (d2 (dFn F_law_text (dCons (dVar 3) dNil)) (dC (.str ", ")) addD) (dFn F_law_text (dCons (dVar 4) dNil)) addD)))
  (sRet (d2 (dFn F_read_program (dCons (dVar 2) (dCons (dVar 8) dNil))) (d2 (dFn F_law_program (dCons (dVar 1) (dCons (dVar 3) dNil))) (dFn F_law_program (dCons (dVar 1) (dCons (dVar 4) dNil))) (ownAddD 12 F_Program_add)) (ownD ownCS F_Thing_eq1 false)))))))))))
def F_law_right : FDen := mkF 12 1 b_law_right
def lb_law_0 : SDen := (sSeq (sSet 2 (dFn F_law_source (dCons (dVar 1) dNil)))
  (sIf (qNot (qB (dFn F_law_right (dCons (dVar 2) dNil))))
  (sRet (dC (.bl false)))
  sNil))
def b_law : SDen := (sSeq (sFor (itL (dSl (d2 (dVar 0) (dLst (dCons (dC (.int 0)) dNil)) addD) oNone (oSome (dC (.int 4))))) (gNm 1)
  lb_law_0)
  (sRet (dC (.bl true))))
def F_law : FDen := mkF 3 1 b_law
end
end K71
end

section
set_option Elab.async false
set_option linter.all false
set_option maxRecDepth 100000
namespace K71
open PySem L2 DL
/-! ### tools -/
theorem mulX_l {i j : Int} (h : -18446744073709551616 < i) (h' : i < 18446744073709551616) : CMulX i j := .inl (.inl ⟨h, h'⟩)
theorem mulX_r {i j : Int} (h : -18446744073709551616 < j) (h' : j < 18446744073709551616) : CMulX i j := .inl (.inr ⟨h, h'⟩)
theorem divX_s {i j : Int} (h : 0 < j) (h' : j < 1073741824) : CDivX i j := .inl ⟨h, h'⟩
theorem divX_w {i j : Int} (h : 0 < j) (h' : j.natAbs.log2 < 9000) : CDivX i j := .inr ⟨h, h'⟩
theorem end_get {cs : List Cell} {c : Cell} : (cs ++ [c])[cs.length]? = some c := by simp
theorem end_set {cs : List Cell} {c d : Cell} : (cs ++ [c]).set cs.length d = cs ++ [d] := by simp
theorem atI_nat {α : Type} {xs : List α} {n : Nat} {x : α} (h : xs[n]? = some x) : L2.atI xs (n : Int) = some x := by
  have hn := (List.getElem?_eq_some_iff.mp h).1
  unfold L2.atI L2.ixN
  rw [if_pos (by omega), if_pos (by omega)]
  simpa using h
theorem atI_int {α : Type} {xs : List α} {i : Int} {x : α} (h0 : 0 ≤ i) (h : xs[i.toNat]? = some x) : L2.atI xs i = some x := by
  have e : ((i.toNat : Nat) : Int) = i := Int.toNat_of_nonneg h0
  rw [← e]
  exact atI_nat h
theorem ixN_nat {n k : Nat} (h : k < n) : L2.ixN n (k : Int) = some k := by
  unfold L2.ixN
  rw [if_pos (by omega), if_pos (by omega)]
  simp
theorem gA {b l : List Cell} {k : Nat} : (b ++ l)[b.length + k]? = l[k]? := by
  rw [List.getElem?_append_right (Nat.le_add_right _ _)]; simp
theorem g0 {b l : List Cell} : (b ++ l)[b.length]? = l[0]? := gA (k := 0)
theorem sA {b l : List Cell} {k : Nat} {x : Cell} : (b ++ l).set (b.length + k) x = b ++ l.set k x := by
  rw [List.set_append_right _ _ (Nat.le_add_right _ _)]; simp
theorem s0 {b l : List Cell} {x : Cell} : (b ++ l).set b.length x = b ++ l.set 0 x := sA (k := 0)
theorem line_eq : (sizeLine : Nat) = 16777216 := by decide
theorem trim_keep {cs0 cs : List Cell} {b : Bool} {c : Cell} {i : Nat} (hi : i < cs0.length) (h : cs[i]? = some c) (hne : cs0[i]? ≠ some c) (hl : Cell.lt cs0.length c = false) : DL.trim cs0 cs b = cs := by
  unfold DL.trim
  rw [if_neg]
  intro z
  rcases z.2 i c hi h with q | q
  · exact hne q
  · rw [hl] at q; cases q
theorem forL_nil {chk : List Cell → Prop} {g : GDen} {b : SDen} {env : DL.Env} {cs : List Cell} (hc : chk cs) : forL chk g b [] env cs = .nx env cs := by
  unfold forL; exact if_pos hc
theorem forL_step {chk : List Cell → Prop} {g : GDen} {b : SDen} {x : D} {r : List D} {env env1 env2 : DL.Env} {cs cs1 cs2 : List Cell} (hc : chk cs) (h1 : g x env cs = .nx env1 cs1) (h2 : b env1 cs1 = .nx env2 cs2) :
    forL chk g b (x :: r) env cs = forL chk g b r env2 cs2 := by
  rw [forL]; simp only [if_pos hc, h1, h2]
theorem forL_ret {chk : List Cell → Prop} {g : GDen} {b : SDen} {x : D} {r : List D} {env env1 : DL.Env} {cs cs1 cs2 : List Cell} {d : D} (hc : chk cs) (h1 : g x env cs = .nx env1 cs1) (h2 : b env1 cs1 = .rt d cs2) :
    forL chk g b (x :: r) env cs = .rt d cs2 := by
  rw [forL]; simp only [if_pos hc, h1, h2]
/-- a comprehension without a test whose element leaves the cells as they are -/
theorem lcL_map {α : Type} {chk : List Cell → Prop} {g : GDen} {h : Den D} {env : DL.Env} {cs : List Cell} {en ψ : α → D} : ∀ (xs : List α) (acc : List D), (∀ acc, chk (cs ++ [.lst acc])) → acc.length + xs.length ≤ 1000000 →
    (∀ x ∈ xs, ∀ acc, ∃ env', g (en x) env (cs ++ [.lst acc]) = .nx env' (cs ++ [.lst acc]) ∧ h env' (cs ++ [.lst acc]) = .ok (ψ x) (cs ++ [.lst acc])) →
    lcL chk g pYes h cs.length env (xs.map en) (cs ++ [.lst acc]) = .ok () (cs ++ [.lst (acc ++ xs.map ψ)])
  | [], acc, hc, _, _ => by
    show lcL chk g pYes h cs.length env [] _ = _
    unfold lcL; rw [if_pos (hc acc)]; simp
  | x :: xs, acc, hc, hn, he => by
    obtain ⟨env', h1, h2⟩ := he x List.mem_cons_self acc
    have ih := lcL_map (en := en) (ψ := ψ) xs (acc ++ [ψ x]) hc (by simp at hn ⊢; omega) fun y hy => he y (List.mem_cons_of_mem _ hy)
    have hf : fitsL acc.length := fitsL_of (by simp at hn; omega)
    show lcL chk g pYes h cs.length env (en x :: xs.map en) _ = _
    rw [lcL]
    simp only [if_pos (hc acc), h1, h2, pYes, trim_self, end_get, if_pos hf, end_set, if_true]
    rw [ih]
    simp
theorem lc_map {α : Type} {vs : List Nat} {f : Den ItV} {g : GDen} {h : Den D} {env : DL.Env} {cs : List Cell} (xs : List α) (en ψ : α → D) {chk : List Cell → Prop} (hf : f env cs = .ok ⟨xs.map en, chk⟩ cs) (hc : ∀ acc, chk (cs ++ [.lst acc])) (hn : xs.length ≤ 1000000)
    (he : ∀ x ∈ xs, ∀ acc, ∃ env', g (en x) (wipeE env vs) (cs ++ [.lst acc]) = .nx env' (cs ++ [.lst acc]) ∧ h env' (cs ++ [.lst acc]) = .ok (ψ x) (cs ++ [.lst acc])) (hl : D.ltL cs.length (xs.map ψ) = true) :
    dLc vs f g pYes h env cs = .ok (.lst (xs.map ψ)) cs := by
  have e := lcL_map (env := wipeE env vs) (en := en) (ψ := ψ) xs [] hc (by simpa using hn) he
  unfold dLc dTr dFrz dLcC
  simp only [hf, Out.bind, e, List.nil_append, end_get, end_set]
  rw [show D.lt cs.length (.lst (xs.map ψ)) = D.ltL cs.length (xs.map ψ) from rfl, hl, trim_app]
theorem ltL_map {α : Type} {n : Nat} {ψ : α → D} : ∀ {xs : List α}, (∀ x ∈ xs, D.lt n (ψ x) = true) → D.ltL n (xs.map ψ) = true
  | [], _ => rfl
  | x :: xs, h => by
    show (D.lt n (ψ x) && D.ltL n (xs.map ψ)) = true
    rw [h x List.mem_cons_self, ltL_map fun y hy => h y (List.mem_cons_of_mem _ hy)]; rfl
theorem whileD_step {p : Den Bool} {b : SDen} {n : Nat} {env env2 : DL.Env} {cs cs2 : List Cell} (h1 : p env cs = .ok true cs) (h2 : b env cs = .nx env2 cs2) : whileD p b (n + 1) env cs = whileD p b n env2 cs2 := by
  rw [whileD]; simp only [h1, h2, Out.bindS, if_true]
theorem whileD_stop {p : Den Bool} {b : SDen} {n : Nat} {env : DL.Env} {cs : List Cell} (h1 : p env cs = .ok false cs) : whileD p b (n + 1) env cs = .nx env cs := by
  rw [whileD]; simp only [h1, Out.bindS]; rfl
theorem okL_nil {ob : Bool} {n : Nat} : D.okL ob [] n = true := by unfold D.okL; rfl

def ilist (xs : List Int) : List D := xs.map D.int
theorem il_get {xs : List Int} {i : Nat} : (ilist xs)[i]? = (xs[i]?).map D.int := by unfold ilist; simp
theorem il_len {xs : List Int} : (ilist xs).length = xs.length := by unfold ilist; simp
theorem ltL_il {n : Nat} : ∀ xs : List Int, D.ltL n (ilist xs) = true
  | [] => rfl
  | x :: xs => by
    show (D.lt n (.int x) && D.ltL n (ilist xs)) = true
    rw [ltL_il xs]; rfl
/-! ### Memory -/
theorem mem_loop : ∀ (xs : List Int) (a b : Option D) (o : Option D) (cs : List Cell), (∀ x ∈ xs, 1 ≤ x ∧ x ≤ 4) → ∃ o', forL noChk (gNm 2) lb_Memory_init_0 (ilist xs) [a, b, o] cs = .nx [a, b, o'] cs
  | [], a, b, o, cs, _ => ⟨o, forL_nil trivial⟩
  | x :: xs, a, b, o, cs, h => by
    obtain ⟨h1, h2⟩ := h x List.mem_cons_self
    obtain ⟨o', e⟩ := mem_loop xs a b (some (.int x)) cs fun y hy => h y (List.mem_cons_of_mem _ hy)
    refine ⟨o', (forL_step (r := ilist xs) trivial rfl ?_).trans e⟩
    simp [lb_Memory_init_0, mkF, finS, env0, sSeq, sNil, sIf, sSet, sAsg, sExpr, sRet, sRetN, sPass, sNo, sPar, sPar3, sFor, Out.bind, Out.bindS, dVar, dC, d1, d2, dNil, dCons, dTup, dLst, dLstC, dCall, dFn, dIf, dML, dSl, oNone, oSome, dFrz, qB, qNot, qAnd, qOr, qTru, eNot, eAnd, eOr, gNm, gTupD, gsCons, gsNil, gIx, addD, subD, mulD, fdivD, modD, powD, negD, ltD, leD, gtD, geD, cmpD, chainD, both, asI, asS, asB, intX, lenD, tupleD, listD, listC, absD, max2D, min2D, itemsL, itemsT, itemsS, ixD, getD, atK, isC, isNonD, List.length_cons, List.length_nil, List.map_cons, List.map_nil, List.getElem?_cons_zero, List.getElem?_cons_succ, List.set_cons_zero, List.set_cons_succ, List.cons_append, List.nil_append, List.replicate_succ, List.replicate_zero, if_true, if_false, reduceIte, decide_eq_true_eq, L2.atI, L2.ixN, lenD1, itL, itT, itS, itR1, itR2, itEn, itZ, sFldD, DL.putK, end_get, end_set, List.mem_cons, List.not_mem_nil, or_false, false_or, or_true, true_or, D.lt, D.ltL, Bool.and_true, Bool.true_and, trim_app, gA, g0, sA, s0, List.append_assoc, List.length_append, trim_len, fits_of, fitsL_of, in63_of, in63F_of, in62_of, lo63_of, hi63_of, hi63F_of, few_of, le640_of, h1, h2]
theorem F_memory (xs : List Int) (cs : List Cell) (h1 : 1 ≤ xs.length) (h2 : xs.length ≤ 6) (h : ∀ x ∈ xs, 1 ≤ x ∧ x ≤ 4) :
    mkO od 7 F_Memory_init [.lst (ilist xs)] cs = .ok (.obj 7 [.tup (ilist xs)]) cs := by
  unfold mkO F_Memory_init b_Memory_init
  have hb : xs.length ≤ 1000000 := by omega
  obtain ⟨o', e⟩ := mem_loop xs (some (.cell cs.length)) (some (.lst (ilist xs))) none (cs ++ [.ins 7 [5] [.tup (ilist xs)]]) h
  have hb2 : (1 : Int) ≤ (xs.length : Int) := by omega
  have hb3 : (xs.length : Int) ≤ 6 := by omega
  simp [mkF, finS, env0, sSeq, sNil, sIf, sSet, sAsg, sExpr, sRet, sRetN, sPass, sNo, sPar, sPar3, sFor, Out.bind, Out.bindS, dVar, dC, d1, d2, dNil, dCons, dTup, dLst, dLstC, dCall, dFn, dIf, dML, dSl, oNone, oSome, dFrz, qB, qNot, qAnd, qOr, qTru, eNot, eAnd, eOr, gNm, gTupD, gsCons, gsNil, gIx, addD, subD, mulD, fdivD, modD, powD, negD, ltD, leD, gtD, geD, cmpD, chainD, both, asI, asS, asB, intX, lenD, tupleD, listD, listC, absD, max2D, min2D, itemsL, itemsT, itemsS, ixD, getD, atK, isC, isNonD, List.length_cons, List.length_nil, List.map_cons, List.map_nil, List.getElem?_cons_zero, List.getElem?_cons_succ, List.set_cons_zero, List.set_cons_succ, List.cons_append, List.nil_append, List.replicate_succ, List.replicate_zero, if_true, if_false, reduceIte, decide_eq_true_eq, L2.atI, L2.ixN, lenD1, itL, itT, itS, itR1, itR2, itEn, itZ, sFldD, DL.putK, end_get, end_set, List.mem_cons, List.not_mem_nil, or_false, false_or, or_true, true_or, D.lt, D.ltL, Bool.and_true, Bool.true_and, trim_app, gA, g0, sA, s0, List.append_assoc, List.length_append, trim_len, fits_of, fitsL_of, in63_of, in63F_of, in62_of, lo63_of, hi63_of, hi63F_of, few_of, le640_of, od, il_len, hb2, hb3, hb, e, ltL_il]

inductive Cm where
  | S (l : Nat) (w n : Int) | F (l : Nat) | X
def Cm.ob : Cm → D
  | .S l w n => .obj 9 [.int l, .int w, .int n]
  | .F l => .obj 10 [.int l]
  | .X => .obj 11 []
def memD (xs : List Int) : D := .obj 7 [.tup (ilist xs)]
/-- what check asks -/
def Cm.ok (xs : List Int) : Cm → Prop
  | .S l w _ => ∃ x, xs[l]? = some x ∧ 0 ≤ w ∧ w < x
  | .F l => l < xs.length
  | .X => True
theorem F_check_line (xs : List Int) (l : Nat) (cs : List Cell) (h : l < xs.length) (hb : xs.length ≤ 6) : F_Memory_check_line [memD xs, .int l] cs = .ok .non cs := by
  have hb2 : xs.length ≤ 1000000 := by omega
  have h0 : (0 : Int) ≤ (l : Int) := by omega
  have h1 : (l : Int) < (xs.length : Int) := by omega
  unfold F_Memory_check_line b_Memory_check_line memD
  simp [mkF, finS, env0, sSeq, sNil, sIf, sSet, sAsg, sExpr, sRet, sRetN, sPass, sNo, sPar, sPar3, sFor, Out.bind, Out.bindS, dVar, dC, d1, d2, dNil, dCons, dTup, dLst, dLstC, dCall, dFn, dIf, dML, dSl, oNone, oSome, dFrz, qB, qNot, qAnd, qOr, qTru, eNot, eAnd, eOr, gNm, gTupD, gsCons, gsNil, gIx, addD, subD, mulD, fdivD, modD, powD, negD, ltD, leD, gtD, geD, cmpD, chainD, both, asI, asS, asB, intX, lenD, tupleD, listD, listC, absD, max2D, min2D, itemsL, itemsT, itemsS, ixD, getD, atK, isC, isNonD, List.length_cons, List.length_nil, List.map_cons, List.map_nil, List.getElem?_cons_zero, List.getElem?_cons_succ, List.set_cons_zero, List.set_cons_succ, List.cons_append, List.nil_append, List.replicate_succ, List.replicate_zero, if_true, if_false, reduceIte, decide_eq_true_eq, L2.atI, L2.ixN, lenD1, itL, itT, itS, itR1, itR2, itEn, itZ, sFldD, DL.putK, end_get, end_set, List.mem_cons, List.not_mem_nil, or_false, false_or, or_true, true_or, D.lt, D.ltL, Bool.and_true, Bool.true_and, trim_app, gA, g0, sA, s0, List.append_assoc, List.length_append, trim_len, fits_of, fitsL_of, in63_of, in63F_of, in62_of, lo63_of, hi63_of, hi63F_of, few_of, le640_of, od, il_len, hb2, h0, h1, h, trim_len]
theorem F_check_word (xs : List Int) (l : Nat) (w x : Int) (cs : List Cell) (h : xs[l]? = some x) (hb : xs.length ≤ 6) (w0 : 0 ≤ w) (w1 : w < x) : F_Memory_check_word [memD xs, .int l, .int w] cs = .ok .non cs := by
  obtain ⟨hl, rfl⟩ := List.getElem?_eq_some_iff.mp h
  have e := F_check_line xs l cs hl hb
  unfold F_Memory_check_word b_Memory_check_word
  unfold memD at e ⊢
  simp [mkF, finS, env0, sSeq, sNil, sIf, sSet, sAsg, sExpr, sRet, sRetN, sPass, sNo, sPar, sPar3, sFor, Out.bind, Out.bindS, dVar, dC, d1, d2, dNil, dCons, dTup, dLst, dLstC, dCall, dFn, dIf, dML, dSl, oNone, oSome, dFrz, qB, qNot, qAnd, qOr, qTru, eNot, eAnd, eOr, gNm, gTupD, gsCons, gsNil, gIx, addD, subD, mulD, fdivD, modD, powD, negD, ltD, leD, gtD, geD, cmpD, chainD, both, asI, asS, asB, intX, lenD, tupleD, listD, listC, absD, max2D, min2D, itemsL, itemsT, itemsS, ixD, getD, atK, isC, isNonD, List.length_cons, List.length_nil, List.map_cons, List.map_nil, List.getElem?_cons_zero, List.getElem?_cons_succ, List.set_cons_zero, List.set_cons_succ, List.cons_append, List.nil_append, List.replicate_succ, List.replicate_zero, if_true, if_false, reduceIte, decide_eq_true_eq, L2.atI, L2.ixN, lenD1, itL, itT, itS, itR1, itR2, itEn, itZ, sFldD, DL.putK, end_get, end_set, List.mem_cons, List.not_mem_nil, or_false, false_or, or_true, true_or, D.lt, D.ltL, Bool.and_true, Bool.true_and, trim_app, gA, g0, sA, s0, List.append_assoc, List.length_append, trim_len, fits_of, fitsL_of, in63_of, in63F_of, in62_of, lo63_of, hi63_of, hi63F_of, few_of, le640_of, dMth, clsOf, lk_check_line_7, e, od, il_len, il_get, h, hl, w0, Int.not_le.mpr w1]
theorem F_Store_chk (xs : List Int) (l : Nat) (w n : Int) (cs : List Cell) (h : Cm.ok xs (.S l w n)) (hb : xs.length ≤ 6) : F_Store_check [(Cm.S l w n).ob, memD xs] cs = .ok .non cs := by
  obtain ⟨x, h1, h2, h3⟩ := h
  have e := F_check_word xs l w x cs h1 hb h2 h3
  unfold F_Store_check b_Store_check Cm.ob
  unfold memD at e ⊢
  simp [mkF, finS, env0, sSeq, sNil, sIf, sSet, sAsg, sExpr, sRet, sRetN, sPass, sNo, sPar, sPar3, sFor, Out.bind, Out.bindS, dVar, dC, d1, d2, dNil, dCons, dTup, dLst, dLstC, dCall, dFn, dIf, dML, dSl, oNone, oSome, dFrz, qB, qNot, qAnd, qOr, qTru, eNot, eAnd, eOr, gNm, gTupD, gsCons, gsNil, gIx, addD, subD, mulD, fdivD, modD, powD, negD, ltD, leD, gtD, geD, cmpD, chainD, both, asI, asS, asB, intX, lenD, tupleD, listD, listC, absD, max2D, min2D, itemsL, itemsT, itemsS, ixD, getD, atK, isC, isNonD, List.length_cons, List.length_nil, List.map_cons, List.map_nil, List.getElem?_cons_zero, List.getElem?_cons_succ, List.set_cons_zero, List.set_cons_succ, List.cons_append, List.nil_append, List.replicate_succ, List.replicate_zero, if_true, if_false, reduceIte, decide_eq_true_eq, L2.atI, L2.ixN, lenD1, itL, itT, itS, itR1, itR2, itEn, itZ, sFldD, DL.putK, end_get, end_set, List.mem_cons, List.not_mem_nil, or_false, false_or, or_true, true_or, D.lt, D.ltL, Bool.and_true, Bool.true_and, trim_app, gA, g0, sA, s0, List.append_assoc, List.length_append, trim_len, fits_of, fitsL_of, in63_of, in63F_of, in62_of, lo63_of, hi63_of, hi63F_of, few_of, le640_of, dMth, clsOf, lk_check_word_7, e, od]
theorem F_Flush_chk (xs : List Int) (l : Nat) (cs : List Cell) (h : l < xs.length) (hb : xs.length ≤ 6) : F_Flush_check [(Cm.F l).ob, memD xs] cs = .ok .non cs := by
  have e := F_check_line xs l cs h hb
  unfold F_Flush_check b_Flush_check Cm.ob
  unfold memD at e ⊢
  simp [mkF, finS, env0, sSeq, sNil, sIf, sSet, sAsg, sExpr, sRet, sRetN, sPass, sNo, sPar, sPar3, sFor, Out.bind, Out.bindS, dVar, dC, d1, d2, dNil, dCons, dTup, dLst, dLstC, dCall, dFn, dIf, dML, dSl, oNone, oSome, dFrz, qB, qNot, qAnd, qOr, qTru, eNot, eAnd, eOr, gNm, gTupD, gsCons, gsNil, gIx, addD, subD, mulD, fdivD, modD, powD, negD, ltD, leD, gtD, geD, cmpD, chainD, both, asI, asS, asB, intX, lenD, tupleD, listD, listC, absD, max2D, min2D, itemsL, itemsT, itemsS, ixD, getD, atK, isC, isNonD, List.length_cons, List.length_nil, List.map_cons, List.map_nil, List.getElem?_cons_zero, List.getElem?_cons_succ, List.set_cons_zero, List.set_cons_succ, List.cons_append, List.nil_append, List.replicate_succ, List.replicate_zero, if_true, if_false, reduceIte, decide_eq_true_eq, L2.atI, L2.ixN, lenD1, itL, itT, itS, itR1, itR2, itEn, itZ, sFldD, DL.putK, end_get, end_set, List.mem_cons, List.not_mem_nil, or_false, false_or, or_true, true_or, D.lt, D.ltL, Bool.and_true, Bool.true_and, trim_app, gA, g0, sA, s0, List.append_assoc, List.length_append, trim_len, fits_of, fitsL_of, in63_of, in63F_of, in62_of, lo63_of, hi63_of, hi63F_of, few_of, le640_of, dMth, clsOf, lk_check_line_7, e, od]
theorem F_X_chk (a b : D) (cs : List Cell) : F_Command_check [a, b] cs = .ok .non cs := by
  unfold F_Command_check b_Command_check
  simp [mkF, finS, env0, sSeq, sNil, sIf, sSet, sAsg, sExpr, sRet, sRetN, sPass, sNo, sPar, sPar3, sFor, Out.bind, Out.bindS, dVar, dC, d1, d2, dNil, dCons, dTup, dLst, dLstC, dCall, dFn, dIf, dML, dSl, oNone, oSome, dFrz, qB, qNot, qAnd, qOr, qTru, eNot, eAnd, eOr, gNm, gTupD, gsCons, gsNil, gIx, addD, subD, mulD, fdivD, modD, powD, negD, ltD, leD, gtD, geD, cmpD, chainD, both, asI, asS, asB, intX, lenD, tupleD, listD, listC, absD, max2D, min2D, itemsL, itemsT, itemsS, ixD, getD, atK, isC, isNonD, List.length_cons, List.length_nil, List.map_cons, List.map_nil, List.getElem?_cons_zero, List.getElem?_cons_succ, List.set_cons_zero, List.set_cons_succ, List.cons_append, List.nil_append, List.replicate_succ, List.replicate_zero, if_true, if_false, reduceIte, decide_eq_true_eq, L2.atI, L2.ixN, lenD1, itL, itT, itS, itR1, itR2, itEn, itZ, sFldD, DL.putK, end_get, end_set, List.mem_cons, List.not_mem_nil, or_false, false_or, or_true, true_or, D.lt, D.ltL, Bool.and_true, Bool.true_and, trim_app, gA, g0, sA, s0, List.append_assoc, List.length_append, trim_len, fits_of, fitsL_of, in63_of, in63F_of, in62_of, lo63_of, hi63_of, hi63F_of, few_of, le640_of]
def obs (r : List Cm) : List D := r.map Cm.ob
theorem chk_loop (xs : List Int) (hb : xs.length ≤ 6) : ∀ (r : List Cm) (o b : Option D) (cs : List Cell) (chk : List Cell → Prop), chk cs → (∀ c ∈ r, c.ok xs) →
    ∃ o', forL chk (gNm 2) lb_check_commands_0 (obs r) [some (memD xs), b, o] cs = .nx [some (memD xs), b, o'] cs
  | [], o, b, cs, chk, hc, _ => ⟨o, forL_nil hc⟩
  | c :: r, o, b, cs, chk, hc, h => by
    obtain ⟨o', e⟩ := chk_loop xs hb r (some c.ob) b cs chk hc fun y hy => h y (List.mem_cons_of_mem _ hy)
    refine ⟨o', (forL_step (r := obs r) hc rfl ?_).trans e⟩
    have hk := h c List.mem_cons_self
    cases c with
    | S l w n =>
      have e2 := F_Store_chk xs l w n cs hk hb
      unfold Cm.ob at e2 ⊢
      simp [lb_check_commands_0, mkF, finS, env0, sSeq, sNil, sIf, sSet, sAsg, sExpr, sRet, sRetN, sPass, sNo, sPar, sPar3, sFor, Out.bind, Out.bindS, dVar, dC, d1, d2, dNil, dCons, dTup, dLst, dLstC, dCall, dFn, dIf, dML, dSl, oNone, oSome, dFrz, qB, qNot, qAnd, qOr, qTru, eNot, eAnd, eOr, gNm, gTupD, gsCons, gsNil, gIx, addD, subD, mulD, fdivD, modD, powD, negD, ltD, leD, gtD, geD, cmpD, chainD, both, asI, asS, asB, intX, lenD, tupleD, listD, listC, absD, max2D, min2D, itemsL, itemsT, itemsS, ixD, getD, atK, isC, isNonD, List.length_cons, List.length_nil, List.map_cons, List.map_nil, List.getElem?_cons_zero, List.getElem?_cons_succ, List.set_cons_zero, List.set_cons_succ, List.cons_append, List.nil_append, List.replicate_succ, List.replicate_zero, if_true, if_false, reduceIte, decide_eq_true_eq, L2.atI, L2.ixN, lenD1, itL, itT, itS, itR1, itR2, itEn, itZ, sFldD, DL.putK, end_get, end_set, List.mem_cons, List.not_mem_nil, or_false, false_or, or_true, true_or, D.lt, D.ltL, Bool.and_true, Bool.true_and, trim_app, gA, g0, sA, s0, List.append_assoc, List.length_append, trim_len, fits_of, fitsL_of, in63_of, in63F_of, in62_of, lo63_of, hi63_of, hi63F_of, few_of, le640_of, dMth, clsOf, lk_check_9, e2, od]
    | F l =>
      have e2 := F_Flush_chk xs l cs hk hb
      unfold Cm.ob at e2 ⊢
      simp [lb_check_commands_0, mkF, finS, env0, sSeq, sNil, sIf, sSet, sAsg, sExpr, sRet, sRetN, sPass, sNo, sPar, sPar3, sFor, Out.bind, Out.bindS, dVar, dC, d1, d2, dNil, dCons, dTup, dLst, dLstC, dCall, dFn, dIf, dML, dSl, oNone, oSome, dFrz, qB, qNot, qAnd, qOr, qTru, eNot, eAnd, eOr, gNm, gTupD, gsCons, gsNil, gIx, addD, subD, mulD, fdivD, modD, powD, negD, ltD, leD, gtD, geD, cmpD, chainD, both, asI, asS, asB, intX, lenD, tupleD, listD, listC, absD, max2D, min2D, itemsL, itemsT, itemsS, ixD, getD, atK, isC, isNonD, List.length_cons, List.length_nil, List.map_cons, List.map_nil, List.getElem?_cons_zero, List.getElem?_cons_succ, List.set_cons_zero, List.set_cons_succ, List.cons_append, List.nil_append, List.replicate_succ, List.replicate_zero, if_true, if_false, reduceIte, decide_eq_true_eq, L2.atI, L2.ixN, lenD1, itL, itT, itS, itR1, itR2, itEn, itZ, sFldD, DL.putK, end_get, end_set, List.mem_cons, List.not_mem_nil, or_false, false_or, or_true, true_or, D.lt, D.ltL, Bool.and_true, Bool.true_and, trim_app, gA, g0, sA, s0, List.append_assoc, List.length_append, trim_len, fits_of, fitsL_of, in63_of, in63F_of, in62_of, lo63_of, hi63_of, hi63F_of, few_of, le640_of, dMth, clsOf, lk_check_10, e2, od]
    | X =>
      have e2 := F_X_chk (Cm.X).ob (memD xs) cs
      unfold Cm.ob at e2 ⊢
      simp [lb_check_commands_0, mkF, finS, env0, sSeq, sNil, sIf, sSet, sAsg, sExpr, sRet, sRetN, sPass, sNo, sPar, sPar3, sFor, Out.bind, Out.bindS, dVar, dC, d1, d2, dNil, dCons, dTup, dLst, dLstC, dCall, dFn, dIf, dML, dSl, oNone, oSome, dFrz, qB, qNot, qAnd, qOr, qTru, eNot, eAnd, eOr, gNm, gTupD, gsCons, gsNil, gIx, addD, subD, mulD, fdivD, modD, powD, negD, ltD, leD, gtD, geD, cmpD, chainD, both, asI, asS, asB, intX, lenD, tupleD, listD, listC, absD, max2D, min2D, itemsL, itemsT, itemsS, ixD, getD, atK, isC, isNonD, List.length_cons, List.length_nil, List.map_cons, List.map_nil, List.getElem?_cons_zero, List.getElem?_cons_succ, List.set_cons_zero, List.set_cons_succ, List.cons_append, List.nil_append, List.replicate_succ, List.replicate_zero, if_true, if_false, reduceIte, decide_eq_true_eq, L2.atI, L2.ixN, lenD1, itL, itT, itS, itR1, itR2, itEn, itZ, sFldD, DL.putK, end_get, end_set, List.mem_cons, List.not_mem_nil, or_false, false_or, or_true, true_or, D.lt, D.ltL, Bool.and_true, Bool.true_and, trim_app, gA, g0, sA, s0, List.append_assoc, List.length_append, trim_len, fits_of, fitsL_of, in63_of, in63F_of, in62_of, lo63_of, hi63_of, hi63F_of, few_of, le640_of, dMth, clsOf, lk_check_11, e2, od]
theorem F_chk (xs : List Int) (r : List Cm) (cs : List Cell) (hb : xs.length ≤ 6) (h : ∀ c ∈ r, c.ok xs) : F_check_commands [memD xs, .tup (obs r)] cs = .ok .non cs := by
  obtain ⟨o', e⟩ := chk_loop xs hb r none (some (.tup (obs r))) cs noChk trivial h
  unfold F_check_commands b_check_commands
  simp [mkF, finS, env0, sSeq, sNil, sIf, sSet, sAsg, sExpr, sRet, sRetN, sPass, sNo, sPar, sPar3, sFor, Out.bind, Out.bindS, dVar, dC, d1, d2, dNil, dCons, dTup, dLst, dLstC, dCall, dFn, dIf, dML, dSl, oNone, oSome, dFrz, qB, qNot, qAnd, qOr, qTru, eNot, eAnd, eOr, gNm, gTupD, gsCons, gsNil, gIx, addD, subD, mulD, fdivD, modD, powD, negD, ltD, leD, gtD, geD, cmpD, chainD, both, asI, asS, asB, intX, lenD, tupleD, listD, listC, absD, max2D, min2D, itemsL, itemsT, itemsS, ixD, getD, atK, isC, isNonD, List.length_cons, List.length_nil, List.map_cons, List.map_nil, List.getElem?_cons_zero, List.getElem?_cons_succ, List.set_cons_zero, List.set_cons_succ, List.cons_append, List.nil_append, List.replicate_succ, List.replicate_zero, if_true, if_false, reduceIte, decide_eq_true_eq, L2.atI, L2.ixN, lenD1, itL, itT, itS, itR1, itR2, itEn, itZ, sFldD, DL.putK, end_get, end_set, List.mem_cons, List.not_mem_nil, or_false, false_or, or_true, true_or, D.lt, D.ltL, Bool.and_true, Bool.true_and, trim_app, gA, g0, sA, s0, List.append_assoc, List.length_append, trim_len, fits_of, fitsL_of, in63_of, in63F_of, in62_of, lo63_of, hi63_of, hi63F_of, few_of, le640_of, e]
def isS (c : Cell) : Prop := ∃ a b d : Int, c = .lst [.int a, .int b, .int d]
theorem isS_lt {c : Cell} (h : isS c) (n : Nat) : c.lt n = true := by
  obtain ⟨a, b, d, rfl⟩ := h
  rfl
theorem set_self {cs : List Cell} {n : Nat} {c : Cell} (h : cs[n]? = some c) : cs.set n c = cs := by
  obtain ⟨h1, h2⟩ := List.getElem?_eq_some_iff.mp h
  rw [← h2, List.set_getElem_self]
theorem set_get {cs : List Cell} {n : Nat} {c : Cell} (h : n < cs.length) : (cs.set n c)[n]? = some c := List.getElem?_set_self h
theorem app_get {cs e : List Cell} {n : Nat} {c : Cell} (h : cs[n]? = some c) : (cs ++ e)[n]? = some c := by
  rw [List.getElem?_append_left (live_len h)]; exact h
theorem app_set {cs e : List Cell} {n : Nat} {c : Cell} (h : n < cs.length) : (cs ++ e).set n c = cs.set n c ++ e := List.set_append_left _ _ h
/-- a comprehension whose element draws -/
theorem lcL_st {g : GDen} {h : Den D} {env : DL.Env} {cs : List Cell} {n : Nat} {P : D → Prop} (hn : n < cs.length) : ∀ (xs acc : List D) (c : Cell), isS c → acc.length + xs.length ≤ 1000000 →
    (∀ x ∈ xs, ∀ (c : Cell) (acc : List D), isS c → ∃ env' d c', isS c' ∧ P d ∧ g x env (cs.set n c ++ [.lst acc]) = .nx env' (cs.set n c ++ [.lst acc]) ∧ h env' (cs.set n c ++ [.lst acc]) = .ok d (cs.set n c' ++ [.lst acc])) →
    ∃ ds c', isS c' ∧ (∀ d ∈ ds, P d) ∧ ds.length = xs.length ∧ lcL noChk g pYes h cs.length env xs (cs.set n c ++ [.lst acc]) = .ok () (cs.set n c' ++ [.lst (acc ++ ds)])
  | [], acc, c, hs, _, _ => ⟨[], c, hs, fun _ h => (nomatch h), rfl, by unfold lcL; rw [if_pos (show noChk _ from trivial), List.append_nil]⟩
  | x :: xs, acc, c, hs, hl, he => by
    obtain ⟨env', d, c1, s1, p1, h1, h2⟩ := he x List.mem_cons_self c acc hs
    obtain ⟨ds, c', s', p', l', ih⟩ := lcL_st (P := P) hn xs (acc ++ [d]) c1 s1 (by simp at hl ⊢; omega) fun y hy => he y (List.mem_cons_of_mem _ hy)
    refine ⟨d :: ds, c', s', fun y hy => ?_, by simp [l'], ?_⟩
    · rcases List.mem_cons.mp hy with z | z
      · subst z; exact p1
      · exact p' y z
    · have hf : fitsL acc.length := fitsL_of (by simp at hl; omega)
      have ht : ∀ b, DL.trim (cs.set n c ++ [.lst acc]) (cs.set n c1 ++ [.lst acc]) b = cs.set n c1 ++ [.lst acc] := fun b => trim_len (by simp)
      have eg : (cs.set n c1 ++ [Cell.lst acc])[cs.length]? = some (.lst acc) := by
        have := end_get (cs := cs.set n c1) (c := .lst acc)
        rwa [List.length_set] at this
      have es : ∀ z, (cs.set n c1 ++ [Cell.lst acc]).set cs.length z = cs.set n c1 ++ [z] := fun z => by
        have := end_set (cs := cs.set n c1) (c := .lst acc) (d := z)
        rwa [List.length_set] at this
      rw [lcL]
      simp only [if_pos (show noChk _ from trivial), h1, pYes, h2, ht, eg, if_pos hf, es, if_true]
      rw [ih]
      simp
theorem lc_st {vs : List Nat} {f : Den ItV} {g : GDen} {h : Den D} {env : DL.Env} {cs : List Cell} {n : Nat} {P : D → Prop} {c : Cell} (xs : List D) (hn : n < cs.length) (hs : isS c) (hf : f env cs = .ok ⟨xs, noChk⟩ (cs.set n c)) (hl : xs.length ≤ 1000000)
    (he : ∀ x ∈ xs, ∀ (c : Cell) (acc : List D), isS c → ∃ env' d c', isS c' ∧ P d ∧ g x (wipeE env vs) (cs.set n c ++ [.lst acc]) = .nx env' (cs.set n c ++ [.lst acc]) ∧ h env' (cs.set n c ++ [.lst acc]) = .ok d (cs.set n c' ++ [.lst acc]))
    (hlt : ∀ d, P d → ∀ n, D.lt n d = true) :
    ∃ ds c', isS c' ∧ (∀ d ∈ ds, P d) ∧ ds.length = xs.length ∧ dLc vs f g pYes h env cs = .ok (.lst ds) (cs.set n c') := by
  obtain ⟨ds, c', s', p', l', e⟩ := lcL_st (env := wipeE env vs) (P := P) hn xs [] c hs (by simpa using hl) he
  refine ⟨ds, c', s', p', l', ?_⟩
  have eg : (cs.set n c' ++ [Cell.lst ds])[cs.length]? = some (.lst ds) := by
    have := end_get (cs := cs.set n c') (c := .lst ds)
    rwa [List.length_set] at this
  have es : ∀ z, (cs.set n c' ++ [Cell.lst ds]).set cs.length z = cs.set n c' ++ [z] := fun z => by
    have := end_set (cs := cs.set n c') (c := .lst ds) (d := z)
    rwa [List.length_set] at this
  have hlt2 : D.ltL cs.length ds = true := by
    have := ltL_map (n := cs.length) (ψ := fun d : D => d) (xs := ds) fun d hd => hlt d (p' d hd) _
    simpa using this
  unfold dLc dTr dFrz dLcC
  have ln : (cs.set n c).length = cs.length := by simp
  simp only [hf, Out.bind, ln, e, List.nil_append, eg, es]
  rw [show D.lt cs.length (.lst ds) = D.ltL cs.length ds from rfl, hlt2]
  rw [trim_gen (by simp) fun i x q => ?_]
  by_cases hi : n = i
  · subst hi
    rw [List.getElem?_set_self hn] at q; cases q
    exact .inr (isS_lt s' _)
  · rw [List.getElem?_set_ne hi] at q
    exact .inl q

theorem to_il {Q : Int → Prop} : ∀ (ds : List D), (∀ d ∈ ds, ∃ y, d = .int y ∧ Q y) → ∃ ys, ds = ilist ys ∧ ∀ y ∈ ys, Q y
  | [], _ => ⟨[], rfl, fun _ h => (nomatch h)⟩
  | d :: ds, h => by
    obtain ⟨y, rfl, q⟩ := h d List.mem_cons_self
    obtain ⟨ys, rfl, q2⟩ := to_il ds fun d hd => h d (List.mem_cons_of_mem _ hd)
    exact ⟨y :: ys, rfl, fun z hz => by
      rcases List.mem_cons.mp hz with e | e
      · subst e; exact q
      · exact q2 z e⟩
theorem trim_no {cs0 cs : List Cell} : DL.trim cs0 cs false = cs := by
  unfold DL.trim; rw [if_neg]; intro h; cases h.1
theorem rngL_succ (lo : Int) (n : Nat) : rngL lo (n + 1) = .int lo :: rngL (lo + 1) n := by
  unfold rngL
  rw [List.range_succ_eq_map, List.map_cons, List.map_map]
  congr 1
  · simp
  · refine List.map_congr_left fun i _ => ?_
    show D.int (lo + ((i + 1 : Nat) : Int)) = D.int (lo + 1 + (i : Int))
    congr 1
    omega
end K71
end

section
set_option Elab.async false
set_option linter.all false
set_option maxRecDepth 100000
namespace K71
open PySem L2 DL
/-! ### draws -/
def drawV (a b c m : Int) : Int := if a ≥ 1000000000000000000 then a % m else
  let v1 := (b + 7919 * (c + 1) + 1) * 48271 % 2147483647
  let v2 := v1 * (v1 / 1013 + 69621) % 2147483587
  (v2 / 7 + v2 % 7919 * 40692) % 2147483399 % m
def drawS (a b c m : Int) : List D := if a ≥ 1000000000000000000 then [.int (a / m), .int b, .int c] else [.int a, .int b, .int (c + 1)]
theorem F_draw {n : Nat} {cs : List Cell} {a b c m : Int} (h : cs[n]? = some (.lst [.int a, .int b, .int c])) (hm : 0 < m) (hm2 : m.natAbs.log2 < 9000) :
    F_law_draw [.cell n, .int m] cs = .ok (.int (drawV a b c m)) (cs.set n (.lst (drawS a b c m))) := by
  have hn : n < cs.length := live_len h
  have hs : ∀ x, (cs.set n x)[n]? = some x := fun x => List.getElem?_set_self hn
  have hd : ∀ i, CDivX i m := fun i => divX_w (i := i) hm hm2
  have p1 : CPow 10 18 := by unfold CPow; decide
  unfold F_law_draw b_law_draw
  by_cases ha : a ≥ 1000000000000000000
  · simp [mkF, finS, env0, sSeq, sNil, sIf, sSet, sAsg, sExpr, sRet, sRetN, sPass, sNo, sPar, sPar3, sFor, Out.bind, Out.bindS, dVar, dC, d1, d2, dNil, dCons, dTup, dLst, dLstC, dCall, dFn, dIf, dML, dSl, oNone, oSome, dFrz, qB, qNot, qAnd, qOr, qTru, eNot, eAnd, eOr, gNm, gTupD, gsCons, gsNil, gIx, addD, subD, mulD, fdivD, modD, powD, negD, ltD, leD, gtD, geD, cmpD, chainD, both, asI, asS, asB, intX, lenD, tupleD, listD, listC, absD, max2D, min2D, itemsL, itemsT, itemsS, ixD, getD, atK, isC, isNonD, List.length_cons, List.length_nil, List.map_cons, List.map_nil, List.getElem?_cons_zero, List.getElem?_cons_succ, List.set_cons_zero, List.set_cons_succ, List.cons_append, List.nil_append, List.replicate_succ, List.replicate_zero, if_true, if_false, reduceIte, decide_eq_true_eq, L2.atI, L2.ixN, lenD1, itL, itT, itS, itR1, itR2, itEn, itZ, sFldD, DL.putK, end_get, end_set, List.mem_cons, List.not_mem_nil, or_false, false_or, or_true, true_or, D.lt, D.ltL, Bool.and_true, Bool.true_and, trim_app, gA, g0, sA, s0, List.append_assoc, List.length_append, trim_len, fits_of, fitsL_of, in63_of, in63F_of, in62_of, lo63_of, hi63_of, hi63F_of, few_of, le640_of, h, ha, hm, hd, drawV, drawS, trim_len, p1]
  · have m1 : CMulX 7919 (c + 1) := mulX_l (by decide) (by decide)
    have m2 : CMulX (b + 7919 * (c + 1) + 1) 48271 := mulX_r (by decide) (by decide)
    have l1 := Int.emod_nonneg ((b + 7919 * (c + 1) + 1) * 48271) (show (2147483647 : Int) ≠ 0 by decide)
    have l2 := Int.emod_lt_of_pos ((b + 7919 * (c + 1) + 1) * 48271) (show (0 : Int) < 2147483647 by decide)
    have dd1 : ∀ i, CDivX i 2147483647 := fun i => divX_w (by decide) (by decide)
    have dd2 : ∀ i, CDivX i 2147483587 := fun i => divX_w (by decide) (by decide)
    have dd3 : ∀ i, CDivX i 2147483399 := fun i => divX_w (by decide) (by decide)
    have dd4 : ∀ i, CDivX i 1013 := fun i => divX_w (by decide) (by decide)
    have dd5 : ∀ i, CDivX i 7 := fun i => divX_w (by decide) (by decide)
    have dd6 : ∀ i, CDivX i 7919 := fun i => divX_w (by decide) (by decide)
    generalize hv1 : (b + 7919 * (c + 1) + 1) * 48271 % 2147483647 = v1 at l1 l2
    have m3 : CMulX v1 (v1 / 1013 + 69621) := mulX_l (by omega) (by omega)
    generalize hv2 : v1 * (v1 / 1013 + 69621) % 2147483587 = v2
    have m4 : CMulX (v2 % 7919) 40692 := mulX_r (by decide) (by decide)
    simp [mkF, finS, env0, sSeq, sNil, sIf, sSet, sAsg, sExpr, sRet, sRetN, sPass, sNo, sPar, sPar3, sFor, Out.bind, Out.bindS, dVar, dC, d1, d2, dNil, dCons, dTup, dLst, dLstC, dCall, dFn, dIf, dML, dSl, oNone, oSome, dFrz, qB, qNot, qAnd, qOr, qTru, eNot, eAnd, eOr, gNm, gTupD, gsCons, gsNil, gIx, addD, subD, mulD, fdivD, modD, powD, negD, ltD, leD, gtD, geD, cmpD, chainD, both, asI, asS, asB, intX, lenD, tupleD, listD, listC, absD, max2D, min2D, itemsL, itemsT, itemsS, ixD, getD, atK, isC, isNonD, List.length_cons, List.length_nil, List.map_cons, List.map_nil, List.getElem?_cons_zero, List.getElem?_cons_succ, List.set_cons_zero, List.set_cons_succ, List.cons_append, List.nil_append, List.replicate_succ, List.replicate_zero, if_true, if_false, reduceIte, decide_eq_true_eq, L2.atI, L2.ixN, lenD1, itL, itT, itS, itR1, itR2, itEn, itZ, sFldD, DL.putK, end_get, end_set, List.mem_cons, List.not_mem_nil, or_false, false_or, or_true, true_or, D.lt, D.ltL, Bool.and_true, Bool.true_and, trim_app, gA, g0, sA, s0, List.append_assoc, List.length_append, trim_len, fits_of, fitsL_of, in63_of, in63F_of, in62_of, lo63_of, hi63_of, hi63F_of, few_of, le640_of, h, ha, hm, hd, drawV, drawS, trim_len, hs, m1, m2, m3, m4, dd1, dd2, dd3, dd4, dd5, dd6, hv1, hv2, p1]
theorem draw_ok {n : Nat} {cs : List Cell} {c : Cell} (h : cs[n]? = some c) (hs : isS c) (m : Int) (hm : 0 < m) (hm2 : m.natAbs.log2 < 9000) :
    ∃ r c', isS c' ∧ 0 ≤ r ∧ r < m ∧ F_law_draw [.cell n, .int m] cs = .ok (.int r) (cs.set n c') := by
  obtain ⟨a, b, d, rfl⟩ := hs
  refine ⟨drawV a b d m, .lst (drawS a b d m), ?_, ?_, ?_, F_draw h hm hm2⟩
  · unfold drawS
    split
    · exact ⟨_, _, _, rfl⟩
    · exact ⟨_, _, _, rfl⟩
  · unfold drawV
    split
    · exact Int.emod_nonneg _ (by omega)
    · exact Int.emod_nonneg _ (by omega)
  · unfold drawV
    split
    · exact Int.emod_lt_of_pos _ hm
    · exact Int.emod_lt_of_pos _ hm
theorem F_source (z : Int) (cs : List Cell) : ∃ c, isS c ∧ F_law_source [.int z] cs = .ok (.cell cs.length) (cs ++ [c]) := by
  refine ⟨.lst [.int (if z < 0 then -z else z), .int (z % 2147483629), .int 0], ⟨_, _, _, rfl⟩, ?_⟩
  have dd1 : CDivX z 2147483629 := divX_w (by decide) (by decide)
  unfold F_law_source b_law_source
  simp [mkF, finS, env0, sSeq, sNil, sIf, sSet, sAsg, sExpr, sRet, sRetN, sPass, sNo, sPar, sPar3, sFor, Out.bind, Out.bindS, dVar, dC, d1, d2, dNil, dCons, dTup, dLst, dLstC, dCall, dFn, dIf, dML, dSl, oNone, oSome, dFrz, qB, qNot, qAnd, qOr, qTru, eNot, eAnd, eOr, gNm, gTupD, gsCons, gsNil, gIx, addD, subD, mulD, fdivD, modD, powD, negD, ltD, leD, gtD, geD, cmpD, chainD, both, asI, asS, asB, intX, lenD, tupleD, listD, listC, absD, max2D, min2D, itemsL, itemsT, itemsS, ixD, getD, atK, isC, isNonD, List.length_cons, List.length_nil, List.map_cons, List.map_nil, List.getElem?_cons_zero, List.getElem?_cons_succ, List.set_cons_zero, List.set_cons_succ, List.cons_append, List.nil_append, List.replicate_succ, List.replicate_zero, if_true, if_false, reduceIte, decide_eq_true_eq, L2.atI, L2.ixN, lenD1, itL, itT, itS, itR1, itR2, itEn, itZ, sFldD, DL.putK, end_get, end_set, List.mem_cons, List.not_mem_nil, or_false, false_or, or_true, true_or, D.lt, D.ltL, Bool.and_true, Bool.true_and, trim_app, gA, g0, sA, s0, List.append_assoc, List.length_append, trim_len, fits_of, fitsL_of, in63_of, in63F_of, in62_of, lo63_of, hi63_of, hi63F_of, few_of, le640_of, dd1, trim_no]
theorem pick_ok {n : Nat} {cs : List Cell} {c : Cell} (h : cs[n]? = some c) (hs : isS c) (xs : List D) (h1 : 1 ≤ xs.length) (h2 : xs.length ≤ 100) :
    ∃ x c', x ∈ xs ∧ isS c' ∧ F_law_pick [.cell n, .lst xs] cs = .ok x (cs.set n c') := by
  obtain ⟨r, c', s', r0, r1, e⟩ := draw_ok h hs (xs.length : Int) (by omega) (by
    have e1 : (xs.length : Int).natAbs = xs.length := by omega
    rw [e1]
    exact Nat.lt_of_le_of_lt (Nat.log2_le_self _) (by omega))
  have hr : r.toNat < xs.length := by omega
  have ha : L2.atI xs r = some xs[r.toNat] := atI_int r0 (List.getElem?_eq_getElem hr)
  have fl : fits xs.length := fits_of (by omega)
  refine ⟨xs[r.toNat], c', List.getElem_mem hr, s', ?_⟩
  have ha2 : ∀ cs, ixD (.lst xs) (.int r) cs = .ok xs[r.toNat] cs := fun cs => by
    unfold ixD asI
    simp only [itemsS, itemsL, ha]
  unfold F_law_pick b_law_pick
  simp only [mkF, finS, env0, sRet, Out.bind, Out.bindS, dCall, dCons, dNil, dVar, dFn, d2, lenD, lenD1, itemsS, itemsL, List.length_cons, List.length_nil, List.map_cons, List.map_nil, List.cons_append, List.nil_append, List.replicate_succ, List.replicate_zero, Nat.reduceAdd, Nat.reduceSub, if_true, List.getElem?_cons_zero, List.getElem?_cons_succ, e, ha2]
  rw [trim_len (by simp)]
theorem log_small {n : Nat} (h : n ≤ 8999) : n.log2 < 9000 := Nat.lt_of_le_of_lt (Nat.log2_le_self _) (by omega)
theorem sizes_ok {n : Nat} {cs : List Cell} {c : Cell} (h : cs[n]? = some c) (hs : isS c) :
    ∃ ys c', isS c' ∧ 1 ≤ ys.length ∧ ys.length ≤ 6 ∧ (∀ y ∈ ys, 1 ≤ y ∧ y ≤ 4) ∧ F_law_sizes [.cell n, .int 6] cs = .ok (.lst (ilist ys)) (cs.set n c') := by
  have hn := live_len h
  obtain ⟨r, c1, s1, r0, r1, e1⟩ := draw_ok h hs 6 (by decide) (by decide)
  have hi : in62 (1 + r) := in62_of (by omega) (by omega)
  obtain ⟨ds, c', s', p', l', e⟩ := lc_st (vs := [2]) (f := itR1 (dCons (d2 (dC (.int 1)) (dFn F_law_draw (dCons (dVar 0) (dCons (dVar 1) dNil))) addD) dNil)) (g := gNm 2) (h := ce_law_sizes_0) (env := [some (.cell n), some (.int 6), none])
    (P := fun d => ∃ y, d = .int y ∧ (1 ≤ y ∧ y ≤ 4)) (rngL 0 (1 + r).toNat) hn s1
    (by simp [itR1, dCons, dNil, d2, dC, dFn, dVar, Out.bind, e1, addD, both, asI, hi]) (by rw [rngL_length]; omega) (fun x hx c acc hc => by
      obtain ⟨q, c2, s2, q0, q1, e2⟩ := draw_ok (cs := cs.set n c ++ [.lst acc]) (app_get (set_get hn)) hc 4 (by decide) (by decide)
      rw [app_set (by simpa using hn), List.set_set] at e2
      refine ⟨_, .int (1 + q), c2, s2, ⟨1 + q, rfl, by omega, by omega⟩, rfl, ?_⟩
      show ce_law_sizes_0 [some (.cell n), some (.int 6), some x] _ = _
      simp [ce_law_sizes_0, d2, dC, dFn, dCons, dNil, dVar, Out.bind, e2, addD, both, asI])
    (fun d ⟨y, hy, _⟩ n => by subst hy; rfl)
  obtain ⟨ys, rfl, q⟩ := to_il ds p'
  rw [il_len, rngL_length] at l'
  refine ⟨ys, c', s', by omega, by omega, q, ?_⟩
  unfold F_law_sizes b_law_sizes
  simp only [mkF, finS, env0, sRet, Out.bindS, List.length_cons, List.length_nil, List.map_cons, List.map_nil, List.cons_append, List.nil_append, List.replicate_succ, List.replicate_zero, Nat.reduceAdd, Nat.reduceSub, if_true, e]
  rw [trim_len (by simp)]
/-- numbers of at most 31 digits -/
def small (z : Int) : Prop := z.natAbs < 10000000000000000000000000000000
theorem number_ok {n : Nat} {cs : List Cell} {c : Cell} (h : cs[n]? = some c) (hs : isS c) :
    ∃ z c', isS c' ∧ small z ∧ F_law_number [.cell n] cs = .ok (.int z) (cs.set n c') := by
  have hn := live_len h
  have p1 : CPow 10 30 := by unfold CPow; decide
  have p2 : CPow 10 9 := by unfold CPow; decide
  obtain ⟨r, c1, s1, r0, r1, e1⟩ := draw_ok h hs 1000000000 (by decide) (by decide)
  obtain ⟨q, c2, s2, q0, q1, e2⟩ := draw_ok (set_get (c := c1) hn) s1 1000 (by decide) (by decide)
  rw [List.set_set] at e2
  obtain ⟨x, c3, x3, s3, e3⟩ := pick_ok (set_get (c := c2) hn) s2 [.int 0, .int 1, .int 2, .int (-1), .int 7, .int (1000000000000000000000000000000 + r), .int (0 - (1000000000000000000000000000000 + r)), .int q] (by simp) (by simp)
  rw [List.set_set] at e3
  have hx : ∃ z, x = .int z ∧ small z := by
    simp only [List.mem_cons, List.not_mem_nil, or_false] at x3
    rcases x3 with r | r | r | r | r | r | r | r <;> exact ⟨_, r, by unfold small; omega⟩
  obtain ⟨z, rfl, hz⟩ := hx
  refine ⟨z, c3, s3, hz, ?_⟩
  have pw1 : ∀ cs, powD (.int 10) (.int 30) cs = .ok (.int 1000000000000000000000000000000) cs := fun cs => by unfold powD; simp [both, asI, p1]
  have pw2 : ∀ cs, powD (.int 10) (.int 9) cs = .ok (.int 1000000000) cs := fun cs => by unfold powD; simp [both, asI, p2]
  have ad : ∀ i j cs, addD (.int i) (.int j) cs = .ok (.int (i + j)) cs := fun _ _ _ => rfl
  have sb : ∀ i j cs, subD (.int i) (.int j) cs = .ok (.int (i - j)) cs := fun _ _ _ => rfl
  have ng : ∀ cs, negD (.int 1) cs = .ok (.int (-1)) cs := fun _ => rfl
  have f8 : fits 8 := fits_of (by omega)
  unfold F_law_number b_law_number
  simp only [mkF, finS, env0, sSeq, sSet, sRet, Out.bind, Out.bindS, dCall, dCons, dNil, dVar, dC, dFn, d2, d1, dLst, List.length_cons, List.length_nil, List.map_cons, List.map_nil, List.cons_append, List.nil_append, List.replicate_succ, List.replicate_zero, Nat.reduceAdd, Nat.reduceSub, if_true, List.getElem?_cons_zero, List.getElem?_cons_succ, List.set_cons_zero, List.set_cons_succ, pw1, pw2, ad, sb, ng, e1, e2, e3, if_pos f8]
  rw [trim_len (by simp)]
end K71
end

section
set_option Elab.async false
set_option linter.all false
set_option maxRecDepth 100000
namespace K71
open PySem L2 DL
/-! ### the texts of numbers -/
def numZ (z : Int) : List Nat := if z < 0 then 45 :: TL.numL z.natAbs else TL.numL z.natAbs
theorem numS_eq (z : Int) : (toString z : String) = SX.S (numZ z) := by
  refine TL.ext_tl ?_
  show TL.tl (Str.ofString (toString z)) = numZ z
  unfold numZ
  by_cases h : z < 0
  · rw [if_pos h, PyProof.Rows.toString_neg h]
    have e : (0 - z) = ((z.natAbs : Nat) : Int) := by omega
    rw [e, ← TL.tl_num z.natAbs]
    show (Str.ofString _).cps.toList = 45 :: (Str.ofString _).cps.toList
    rw [PyProof.Rows.signs_ofString, PyProof.Rows.signs_ofString, String.toList_append, List.map_append]
    rfl
  · rw [if_neg h]
    have e : z = ((z.natAbs : Nat) : Int) := by omega
    rw [e, TL.tl_num]
    simp
theorem numL_head : ∀ {n c : Nat} {r : List Nat}, n ≠ 0 → TL.numL n = c :: r → c ≠ 48 := by
  intro n
  induction n using Nat.strongRecOn with
  | _ n ih =>
    intro c r h0 e
    by_cases h : n < 10
    · rw [TL.numL_lt h] at e
      cases e
      omega
    · rw [TL.numL_step (by omega)] at e
      cases hq : TL.numL (n / 10) with
      | nil => exact absurd hq (TL.numL_ne _)
      | cons a b =>
        rw [hq] at e
        cases e
        exact ih (n / 10) (by omega) (by omega) hq
theorem numL_len31 {z : Int} (h : small z) : 1 ≤ (TL.numL z.natAbs).length ∧ (TL.numL z.natAbs).length ≤ 31 := by
  refine ⟨List.length_pos_iff.mpr (TL.numL_ne _), TL.numL_len (by decide) ?_⟩
  unfold small at h
  exact Nat.lt_of_lt_of_le h (by decide)
theorem numZ_len {z : Int} (h : small z) : (numZ z).length ≤ 32 := by
  have := (numL_len31 h).2
  unfold numZ
  split
  · simp; omega
  · omega
theorem int_back {z : Int} (h : small z) : PySem.intText? (SX.S (numZ z)) = some z := by
  have l := (numL_len31 h).2
  unfold numZ
  by_cases hz : z < 0
  · rw [if_pos hz]
    have e := intText_neg (x := SX.S (45 :: TL.numL z.natAbs)) (cs := TL.numL z.natAbs) rfl (TL.numL_digits _) (TL.numL_ne _) (by rw [SX.S_len]; simp; omega)
    rw [e, TL.numL_val]
    congr 1
    omega
  · rw [if_neg hz]
    have e := intText_digits (x := SX.S (TL.numL z.natAbs)) (TL.numL_digits _) (TL.numL_ne _) (by rw [SX.S_len]; omega)
    rw [e]
    show some ((NumText.digitsVal (TL.numL z.natAbs) : Nat) : Int) = _
    rw [TL.numL_val]
    congr 1
    omega
/-! ### texts as lists of signs -/
theorem eqS (a b : List Nat) (cs : List Cell) : eqC false 20 (.str (SX.S a)) (.str (SX.S b)) cs = .ok (.bl (decide (a = b))) cs := by
  simp [eqC, resL, D.okE, eqD, SX.S_beq_eq]
theorem neS (a b : List Nat) (cs : List Cell) : neC false 20 (.str (SX.S a)) (.str (SX.S b)) cs = .ok (.bl (!decide (a = b))) cs := by
  simp [neC, resL, D.okE, eqD, SX.S_beq_eq]
theorem cut_to (a : List Nat) (cs : List Cell) (h : a.length ≤ 100000) : sliceD (.str (SX.S a)) none (some 1) cs = .ok (.str (SX.S (a.take 1))) cs := by
  have f : fits (SX.S a).length := fits_of (by rw [SX.S_len]; omega)
  have e : HT.sIx (SX.S a).length (SX.S a).length (some (1 : Int)) = min 1 (SX.S a).length := HT.sIx_nat _ _ 1
  unfold sliceD
  simp only [if_pos f, cutS, HT.sIx_none, e, List.drop_zero, Nat.sub_zero]
  congr 3
  rw [SX.S_len]
  cases a <;> simp
theorem cut_from (a : List Nat) (cs : List Cell) (h : a.length ≤ 100000) : sliceD (.str (SX.S a)) (some 1) none cs = .ok (.str (SX.S (a.drop 1))) cs := by
  have f : fits (SX.S a).length := fits_of (by rw [SX.S_len]; omega)
  have e : HT.sIx (SX.S a).length 0 (some (1 : Int)) = min 1 (SX.S a).length := HT.sIx_nat _ _ 1
  unfold sliceD
  simp only [if_pos f, cutS, HT.sIx_none, e]
  congr 3
  rw [SX.S_len]
  cases a with
  | nil => simp
  | cons x r => simp [List.take_of_length_le]
theorem lit_minus : Str.ofString "-" = SX.S [45] := by decide +kernel
theorem lit_zero : Str.ofString "0" = SX.S [48] := by decide +kernel
theorem lit_blank : Str.ofString " " = SX.S [32] := by decide +kernel
theorem lit_comma : Str.ofString ", " = SX.S [44, 32] := by decide +kernel
theorem lit_none : Str.ofString "none" = SX.S [110, 111, 110, 101] := by decide +kernel
theorem lit_store : Str.ofString "store" = SX.S [115, 116, 111, 114, 101] := by decide +kernel
theorem lit_flush : Str.ofString "flush" = SX.S [102, 108, 117, 115, 104] := by decide +kernel
theorem lit_fence : Str.ofString "fence" = SX.S [102, 101, 110, 99, 101] := by decide +kernel
theorem lit_storeb : Str.ofString "store " = SX.S [115, 116, 111, 114, 101, 32] := by decide +kernel
theorem lit_flushb : Str.ofString "flush " = SX.S [102, 108, 117, 115, 104, 32] := by decide +kernel
theorem lit_figs : (Str.ofString "0123456789").cps.toList = [48, 49, 50, 51, 52, 53, 54, 55, 56, 57] := by decide +kernel
theorem in_figs (c : Nat) (h : 48 ≤ c ∧ c ≤ 57) (cs : List Cell) : inC false 20 false (.str ⟨#[c]⟩) (.str (Str.ofString "0123456789")) cs = .ok (.bl true) cs := by
  show Out.ok (D.bl (if false = true then !decide (c ∈ (Str.ofString "0123456789").cps.toList) else decide (c ∈ (Str.ofString "0123456789").cps.toList))) cs = _
  rw [lit_figs]
  have : c ∈ [48, 49, 50, 51, 52, 53, 54, 55, 56, 57] := by
    simp only [List.mem_cons, List.not_mem_nil, or_false]
    omega
  simp [this]
theorem bls_true {α : Type} : ∀ xs : List α, blsD (xs.map fun _ => D.bl true) = some (xs.map fun _ => true)
  | [] => rfl
  | x :: xs => by
    show (blsD (xs.map fun _ => D.bl true)).map (true :: ·) = _
    rw [bls_true xs]; rfl
theorem F_read_number_ok {z : Int} (h : small z) (p : D) (cs : List Cell) : F_read_number [.str (SX.S (numZ z)), p] cs = .ok (.int z) cs := by
  obtain ⟨l1, l2⟩ := numL_len31 h
  have lz := numZ_len h
  have ib := int_back h
  generalize hL : TL.numL z.natAbs = L at l1 l2
  have dg : ∀ c ∈ L, 48 ≤ c ∧ c ≤ 57 := fun c hc => by rw [← hL] at hc; exact TL.numL_digits _ c hc
  obtain ⟨c, r, rfl⟩ : ∃ c r, L = c :: r := by
    cases L with
    | nil => simp at l1
    | cons c r => exact ⟨c, r, rfl⟩
  have hc := dg c List.mem_cons_self
  -- the figures
  have hf : ∀ cs, dIf (qB (d2 (dSl (dVar 0) oNone (oSome (dC (.int 1)))) (dC (.str "-")) (eqC false 20))) (dSl (dVar 0) (oSome (dC (.int 1))) oNone) (dVar 0) [some (.str (SX.S (numZ z))), some p, none, none] cs = .ok (.str (SX.S (c :: r))) cs := fun cs => by
    simp only [dIf, qB, d2, dSl, dVar, dC, oNone, oSome, asI, Out.bind, List.getElem?_cons_zero, cut_to _ _ (by omega : (numZ z).length ≤ 100000), cut_from _ _ (by omega : (numZ z).length ≤ 100000), lit_minus, eqS]
    unfold numZ
    by_cases hz : z < 0
    · simp [hz, hL]
    · have : ¬ c = 45 := by omega
      simp [hz, hL, this]
  have hall : ∀ cs, dLc [3] (itS (dVar 2)) (gNm 3) pYes ce_read_number_0 [some (.str (SX.S (numZ z))), some p, some (.str (SX.S (c :: r))), none] cs = .ok (.lst ((c :: r).map fun _ => .bl true)) cs := fun cs => by
    refine lc_map (chk := noChk) (c :: r) (fun c => .str ⟨#[c]⟩) (fun _ => .bl true) ?_ (fun _ => trivial) (by omega) (fun x hx acc => ⟨_, rfl, ?_⟩) (ltL_map fun x hx => rfl)
    · simp [itS, dVar, Out.bind, signsD]
    · show ce_read_number_0 [_, _, _, some (.str ⟨#[x]⟩)] _ = _
      simp only [ce_read_number_0, d2, dVar, dC, Out.bind, List.getElem?_cons_zero, List.getElem?_cons_succ, in_figs x (dg x hx)]
  have fl : fits (SX.S (c :: r)).length := fits_of (by rw [SX.S_len]; omega)
  have hal : ∀ cs, allD [.lst ((c :: r).map fun _ => .bl true)] cs = .ok (.bl true) cs := fun cs => by
    unfold allD
    simp only [itemsL, Option.bind, bls_true]
    simp
  have hln : ∀ cs, lenD [.str (SX.S (c :: r))] cs = .ok (.int (((c :: r).length : Nat) : Int)) cs := fun cs => by
    unfold lenD lenD1
    simp only [if_pos fl, SX.S_len]
  have hix : ∀ cs, ixD (.str (SX.S (c :: r))) (.int 0) cs = .ok (.str (SX.S [c])) cs := fun cs => by
    unfold ixD asI
    have : L2.atI (SX.S (c :: r)).cps.toList 0 = some c := by
      show L2.atI (c :: r) 0 = some c
      exact atI_nat (n := 0) rfl
    simp only [this, if_pos fl]
  have le : le640 (SX.S (numZ z)).length := le640_of (by rw [SX.S_len]; omega)
  have hint : ∀ cs, intX [.str (SX.S (numZ z))] cs = .ok (.int z) cs := fun cs => by
    unfold intX
    simp only [ib, if_pos le]
  have hch : decide ((1 : Int) ≤ (((c :: r).length : Nat) : Int)) = true := by simp; omega
  have hch2 : decide ((((c :: r).length : Nat) : Int) ≤ 31) = true := by simp at l2 ⊢; omega
  have hzero : c = 48 → numZ z = [48] := fun h48 => by
    have z0 : z.natAbs = 0 := by
      cases hn : z.natAbs with
      | zero => rfl
      | succ k => exact absurd h48 (numL_head (by omega) hL)
    have zz : z = 0 := by omega
    subst zz
    decide +kernel
  simp only [List.length_cons] at hch hch2 hln
  simp only [List.map_cons] at hall hal
  have F : (decide ([c] = [48]) = true → (!decide (numZ z = [48])) = false) := fun q => by
    have := hzero (by simpa using q)
    rw [this]; rfl
  unfold F_read_number b_read_number
  by_cases h48 : c = 48
  · have ez := hzero h48
    have e1 : decide ([c] = [48]) = true := by simp [h48]
    have e2 : decide (numZ z = [48]) = true := by simp [ez]
    simp only [mkF, finS, env0, sSeq, sSet, sIf, sRet, sNo, sNil, qOr, qAnd, qNot, qB, d2, dVar, Out.bind, Out.bindS, dCall, dCons, dNil, dC, chainD, List.length_cons, List.length_nil, List.map_cons, List.map_nil, List.cons_append, List.nil_append, List.replicate_succ, List.replicate_zero, Nat.reduceAdd, Nat.reduceSub, if_true, List.getElem?_cons_zero, List.getElem?_cons_succ, List.set_cons_zero, List.set_cons_succ, hf, hln, both, asI, hch, cmpD, hch2, hall, hal, hix, lit_zero, eqS, neS, Bool.not_true, Bool.not_false, Bool.false_eq_true, if_false, hint, e1, e2]
    simp only [D.lt, trim_self]
  · have e1 : decide ([c] = [48]) = false := by simp [h48]
    simp only [mkF, finS, env0, sSeq, sSet, sIf, sRet, sNo, sNil, qOr, qAnd, qNot, qB, d2, dVar, Out.bind, Out.bindS, dCall, dCons, dNil, dC, chainD, List.length_cons, List.length_nil, List.map_cons, List.map_nil, List.cons_append, List.nil_append, List.replicate_succ, List.replicate_zero, Nat.reduceAdd, Nat.reduceSub, if_true, List.getElem?_cons_zero, List.getElem?_cons_succ, List.set_cons_zero, List.set_cons_succ, hf, hln, both, asI, hch, cmpD, hch2, hall, hal, hix, lit_zero, eqS, neS, Bool.not_true, Bool.not_false, Bool.false_eq_true, if_false, hint, e1]
    simp only [D.lt, trim_self]
end K71
end

section
set_option Elab.async false
set_option linter.all false
set_option maxRecDepth 100000
namespace K71
open PySem L2 DL
/-! ### the texts of commands -/
def nums : Cm → List Int
  | .S l w n => [(l : Int), w, n]
  | .F l => [(l : Int)]
  | .X => []
def kd : Cm → List Nat
  | .S _ _ _ => [115, 116, 111, 114, 101]
  | .F _ => [102, 108, 117, 115, 104]
  | .X => [102, 101, 110, 99, 101]
def wordsL (k : Cm) : List (List Nat) := kd k :: (nums k).map numZ
def cmdL (k : Cm) : List Nat := TL.joinL [32] (wordsL k)
def smallC (k : Cm) : Prop := ∀ z ∈ nums k, small z
theorem cutL_one {α : Type} (xs : List α) : DL.cutL xs (some 1) none = xs.drop 1 := by
  have e : HT.sIx xs.length 0 (some (1 : Int)) = min 1 xs.length := HT.sIx_nat _ _ 1
  unfold DL.cutL
  rw [e, HT.sIx_none]
  cases xs with
  | nil => rfl
  | cons x r =>
    have e2 : min 1 (x :: r).length = 1 := by simp
    rw [e2]
    exact List.take_of_length_le (by simp)
theorem numZ_free (z : Int) (c : Nat) (h : c ≠ 45 ∧ (c < 48 ∨ 57 < c)) : c ∉ numZ z := by
  have := PyProof.Rows.int_text_free' c h z
  rw [numS_eq] at this
  exact this
theorem words_free (k : Cm) (c : Nat) (h : c ≠ 45 ∧ (c < 48 ∨ 57 < c)) (h2 : c < 97) : ∀ p ∈ wordsL k, c ∉ p := fun p hp => by
  unfold wordsL at hp
  rcases List.mem_cons.mp hp with e | e
  · subst e
    cases k <;> (unfold kd; simp; omega)
  · obtain ⟨z, _, rfl⟩ := List.mem_map.mp e
    exact numZ_free z c h
theorem numsL_len {k : Cm} (h : smallC k) : ∀ z ∈ nums k, (numZ z).length ≤ 32 := fun z hz => numZ_len (h z hz)
theorem cmd_len {k : Cm} (h : smallC k) : 5 ≤ (cmdL k).length ∧ (cmdL k).length ≤ 200 := by
  have hl := numsL_len h
  cases k with
  | S l w n =>
    have a := hl (l : Int) (by simp [nums])
    have b := hl w (by simp [nums])
    have c := hl n (by simp [nums])
    simp [cmdL, wordsL, kd, nums, TL.joinL]
    omega
  | F l =>
    have a := hl (l : Int) (by simp [nums])
    simp [cmdL, wordsL, kd, nums, TL.joinL]
    omega
  | X => simp [cmdL, wordsL, kd, nums, TL.joinL]
theorem split_cmd (k : Cm) (h : smallC k) (cs : List Cell) : splitD (SX.S (cmdL k)) (.str (Str.ofString " ")) cs = .ok (.lst ((wordsL k).map fun w => .str (SX.S w))) cs := by
  have f : fits ((SX.S (cmdL k)).length + 2) := fits_of (by rw [SX.S_len]; have := cmd_len h; omega)
  have e1 : ((Str.ofString " ").length == 0) = false := by decide +kernel
  unfold splitD
  simp only [e1, f, and_self, if_true]
  rw [lit_blank, SX.split_S (by simp) (by decide)]
  unfold cmdL
  rw [SX.spl_join (by unfold wordsL; simp) (words_free k 32 (by omega) (by omega)), List.map_map]
  rfl
theorem F_read_command_ok {k : Cm} (h : smallC k) (p : D) (cs : List Cell) : F_read_command [.str (SX.S (cmdL k)), p] cs = .ok k.ob cs := by
  have hs := split_cmd k h
  have hn : ∀ e0 e4 e5 e6 cs, dLc [5] (itL (dSl (dVar 2) (oSome (dC (.int 1))) oNone)) (gNm 5) pYes ce_read_command_0 [e0, some p, some (.lst ((wordsL k).map fun w => .str (SX.S w))), none, e4, e5, e6] cs = .ok (.lst ((nums k).map D.int)) cs := fun e0 e4 e5 e6 cs => by
    refine lc_map (chk := noChk) (nums k) (fun z => .str (SX.S (numZ z))) D.int ?_ (fun _ => trivial) (by cases k <;> simp [nums]) (fun x hx acc => ⟨_, rfl, ?_⟩) (ltL_map fun x hx => rfl)
    · simp only [itL, dSl, dVar, dC, oSome, oNone, asI, Out.bind, List.getElem?_cons_zero, List.getElem?_cons_succ, sliceD, itemsL, cutL_one]
      unfold wordsL
      simp [List.map_map, Function.comp_def]
    · show ce_read_command_0 [_, some p, _, _, _, some (.str (SX.S (numZ x))), _] _ = _
      simp only [ce_read_command_0, dFn, dCons, dNil, dVar, Out.bind, List.getElem?_cons_zero, List.getElem?_cons_succ, F_read_number_ok (h x hx)]
  have hw0 : ∀ cs, ixD (.lst ((wordsL k).map fun w => .str (SX.S w))) (.int 0) cs = .ok (.str (SX.S (kd k))) cs := fun cs => by
    unfold ixD asI
    have : L2.atI ((wordsL k).map fun w => D.str (SX.S w)) 0 = some (.str (SX.S (kd k))) := atI_nat (n := 0) rfl
    simp only [itemsS, itemsL, this]
  have cX : (cmdL Cm.X = [102, 101, 110, 99, 101]) = True := eq_true rfl
  unfold F_read_command b_read_command
  cases k with
  | S l w n =>
    have e1 : ∀ cs, eqC false 20 (.int 3) (.int 3) cs = .ok (.bl true) cs := fun cs => by simp [eqC, resL, D.okE, eqD]
    simp [mkF, finS, env0, sSeq, sSet, sAsg, sIf, sRet, sNo, sNil, qAnd, qB, d2, dM1, dVar, dC, dCall, dCons, dNil, dFn, gLstD, gsCons, gsNil, gNm, Out.bind, Out.bindS, hs, hn, hw0, lit_store, eqS, kd, lenD, lenD1, itemsS, itemsL, nums, e1, mkO, F_Store_init, b_Store_init, od, Cm.ob, mkF, finS, env0, sSeq, sNil, sIf, sSet, sAsg, sExpr, sRet, sRetN, sPass, sNo, sPar, sPar3, sFor, Out.bind, Out.bindS, dVar, dC, d1, d2, dNil, dCons, dTup, dLst, dLstC, dCall, dFn, dIf, dML, dSl, oNone, oSome, dFrz, qB, qNot, qAnd, qOr, qTru, eNot, eAnd, eOr, gNm, gTupD, gsCons, gsNil, gIx, addD, subD, mulD, fdivD, modD, powD, negD, ltD, leD, gtD, geD, cmpD, chainD, both, asI, asS, asB, intX, lenD, tupleD, listD, listC, absD, max2D, min2D, itemsL, itemsT, itemsS, getD, atK, isC, isNonD, List.length_cons, List.length_nil, List.map_cons, List.map_nil, List.getElem?_cons_zero, List.getElem?_cons_succ, List.set_cons_zero, List.set_cons_succ, List.cons_append, List.nil_append, List.replicate_succ, List.replicate_zero, if_true, if_false, reduceIte, decide_eq_true_eq, L2.atI, L2.ixN, lenD1, itL, itT, itS, itR1, itR2, itEn, itZ, sFldD, DL.putK, end_get, end_set, List.mem_cons, List.not_mem_nil, or_false, false_or, or_true, true_or, D.lt, D.ltL, Bool.and_true, Bool.true_and, trim_app, gA, g0, sA, s0, List.append_assoc, List.length_append, trim_len, fits_of, fitsL_of, in63_of, in63F_of, in62_of, lo63_of, hi63_of, hi63F_of, few_of, le640_of]
  | F l =>
    have hx0 : ∀ cs, ixD (.lst [.int (l : Int)]) (.int 0) cs = .ok (.int (l : Int)) cs := fun cs => rfl
    have e1 : ∀ cs, eqC false 20 (.int 1) (.int 1) cs = .ok (.bl true) cs := fun cs => by simp [eqC, resL, D.okE, eqD]
    simp [mkF, finS, env0, sSeq, sSet, sAsg, sIf, sRet, sNo, sNil, qAnd, qB, d2, dM1, dVar, dC, dCall, dCons, dNil, dFn, gLstD, gsCons, gsNil, gNm, Out.bind, Out.bindS, hs, hn, hw0, hx0, lit_store, lit_flush, eqS, kd, lenD, lenD1, itemsS, itemsL, nums, e1, mkO, F_Flush_init, b_Flush_init, od, Cm.ob, mkF, finS, env0, sSeq, sNil, sIf, sSet, sAsg, sExpr, sRet, sRetN, sPass, sNo, sPar, sPar3, sFor, Out.bind, Out.bindS, dVar, dC, d1, d2, dNil, dCons, dTup, dLst, dLstC, dCall, dFn, dIf, dML, dSl, oNone, oSome, dFrz, qB, qNot, qAnd, qOr, qTru, eNot, eAnd, eOr, gNm, gTupD, gsCons, gsNil, gIx, addD, subD, mulD, fdivD, modD, powD, negD, ltD, leD, gtD, geD, cmpD, chainD, both, asI, asS, asB, intX, lenD, tupleD, listD, listC, absD, max2D, min2D, itemsL, itemsT, itemsS, getD, atK, isC, isNonD, List.length_cons, List.length_nil, List.map_cons, List.map_nil, List.getElem?_cons_zero, List.getElem?_cons_succ, List.set_cons_zero, List.set_cons_succ, List.cons_append, List.nil_append, List.replicate_succ, List.replicate_zero, if_true, if_false, reduceIte, decide_eq_true_eq, L2.atI, L2.ixN, lenD1, itL, itT, itS, itR1, itR2, itEn, itZ, sFldD, DL.putK, end_get, end_set, List.mem_cons, List.not_mem_nil, or_false, false_or, or_true, true_or, D.lt, D.ltL, Bool.and_true, Bool.true_and, trim_app, gA, g0, sA, s0, List.append_assoc, List.length_append, trim_len, fits_of, fitsL_of, in63_of, in63F_of, in62_of, lo63_of, hi63_of, hi63F_of, few_of, le640_of]
  | X =>
    simp [mkF, finS, env0, sSeq, sSet, sAsg, sIf, sRet, sNo, sNil, qAnd, qB, d2, dM1, dVar, dC, dCall, dCons, dNil, dFn, gLstD, gsCons, gsNil, gNm, Out.bind, Out.bindS, hs, hn, hw0, lit_store, lit_flush, lit_fence, cX, eqS, kd, lenD, lenD1, itemsS, itemsL, nums, od, Cm.ob, mkF, finS, env0, sSeq, sNil, sIf, sSet, sAsg, sExpr, sRet, sRetN, sPass, sNo, sPar, sPar3, sFor, Out.bind, Out.bindS, dVar, dC, d1, d2, dNil, dCons, dTup, dLst, dLstC, dCall, dFn, dIf, dML, dSl, oNone, oSome, dFrz, qB, qNot, qAnd, qOr, qTru, eNot, eAnd, eOr, gNm, gTupD, gsCons, gsNil, gIx, addD, subD, mulD, fdivD, modD, powD, negD, ltD, leD, gtD, geD, cmpD, chainD, both, asI, asS, asB, intX, lenD, tupleD, listD, listC, absD, max2D, min2D, itemsL, itemsT, itemsS, getD, atK, isC, isNonD, List.length_cons, List.length_nil, List.map_cons, List.map_nil, List.getElem?_cons_zero, List.getElem?_cons_succ, List.set_cons_zero, List.set_cons_succ, List.cons_append, List.nil_append, List.replicate_succ, List.replicate_zero, if_true, if_false, reduceIte, decide_eq_true_eq, L2.atI, L2.ixN, lenD1, itL, itT, itS, itR1, itR2, itEn, itZ, sFldD, DL.putK, end_get, end_set, List.mem_cons, List.not_mem_nil, or_false, false_or, or_true, true_or, D.lt, D.ltL, Bool.and_true, Bool.true_and, trim_app, gA, g0, sA, s0, List.append_assoc, List.length_append, trim_len, fits_of, fitsL_of, in63_of, in63F_of, in62_of, lo63_of, hi63_of, hi63F_of, few_of, le640_of]
/-- the program's text of a command -/
theorem F_command_text_ok {k : Cm} (h : smallC k) (cs : List Cell) : F_command_text [k.ob] cs = .ok (.str (SX.S (cmdL k))) cs := by
  have hl := numsL_len h
  have hg : ∀ z ∈ nums k, lg1920 z := fun z hz => lg1920_of (by
    have h1 := h z hz
    unfold small at h1
    rcases Nat.eq_zero_or_pos z.natAbs with e | e
    · rw [e]; decide
    · exact (Nat.log2_lt (by omega)).mpr (Nat.lt_of_lt_of_le h1 (by decide +kernel)))
  have hn : ∀ z : Int, Str.ofString (toString z) = SX.S (numZ z) := numS_eq
  have cat : ∀ a b : List Nat, SX.S a ++ SX.S b = SX.S (a ++ b) := SX.S_cat
  have emp : Str.empty = SX.S [] := rfl
  have ft : ∀ a : List Nat, a.length ≤ 1000 → fits (SX.S a).length := fun a ha => fits_of (by rw [SX.S_len]; omega)
  have js : ∀ (f : Den D) (fs : List (Den D)) (acc y : List Nat) (env : DL.Env) (cs : List Cell), f env cs = .ok (.str (SX.S y)) cs → (acc ++ y).length ≤ 1000 → dJs (f :: fs) (SX.S acc) env cs = dJs fs (SX.S (acc ++ y)) env cs := fun f fs acc y env cs e hl => by
    rw [dJs]
    simp only [e, Out.bind]
    rw [cat, if_pos (ft _ hl)]
  have fmt : ∀ (i : Nat) (z : Int) (o : List D) (c : Nat) (env : DL.Env) (cs : List Cell), (d1 (dVar 0) (getD od i)) env cs = .ok (.int z) cs → z ∈ nums k → dFmt (d1 (dVar 0) (getD od i)) env cs = .ok (.str (SX.S (numZ z))) cs := fun i z o c env cs e hz => by
    unfold dFmt
    simp only [e, Out.bind, if_pos (hg z hz), hn]
  have cst : ∀ (z : String) (y : List Nat) (env : DL.Env) (cs : List Cell), Str.ofString z = SX.S y → dC (.str (Str.ofString z)) env cs = .ok (.str (SX.S y)) cs := fun z y env cs e => by
    unfold dC; rw [e]
  have d1h : ∀ (x : D) (L : List (Nat × Bool)) (cs : List Cell), d1 (dVar 0) (isiD L) [some x] cs = isiD L x cs := fun x L cs => rfl
  unfold F_command_text b_command_text
  cases k with
  | S l w n =>
    have a1 := hl (l : Int) (by simp [nums]); have a2 := hl w (by simp [nums]); have a3 := hl n (by simp [nums])
    have ej : ∀ cs, dJs [dC (.str (Str.ofString "store ")), dFmt (d1 (dVar 0) (getD od 2)), dC (.str (Str.ofString " ")), dFmt (d1 (dVar 0) (getD od 3)), dC (.str (Str.ofString " ")), dFmt (d1 (dVar 0) (getD od 6))] Str.empty [some (Cm.S l w n).ob] cs = .ok (.str (SX.S (cmdL (.S l w n)))) cs := fun cs => by
      rw [emp, js _ _ _ _ _ _ (cst _ _ _ _ lit_storeb) (by simp), js _ _ _ _ _ _ (fmt 2 (l : Int) [] 0 _ _ rfl (by simp [nums])) (by simp; omega), js _ _ _ _ _ _ (cst _ _ _ _ lit_blank) (by simp; omega),
        js _ _ _ _ _ _ (fmt 3 w [] 0 _ _ rfl (by simp [nums])) (by simp; omega), js _ _ _ _ _ _ (cst _ _ _ _ lit_blank) (by simp; omega), js _ _ _ _ _ _ (fmt 6 n [] 0 _ _ rfl (by simp [nums])) (by simp; omega)]
      show Out.ok (D.str (SX.S _)) cs = _
      simp [cmdL, wordsL, kd, nums, TL.joinL]
    unfold Cm.ob at ej ⊢
    simp [mkF, finS, env0, sSeq, sIf, sRet, sNil, qB, isiD, isi_Store, Out.bind, Out.bindS, List.lookup, D.lt, trim_self, ej, d1h]
  | F l =>
    have a1 := hl (l : Int) (by simp [nums])
    have ej : ∀ cs, dJs [dC (.str (Str.ofString "flush ")), dFmt (d1 (dVar 0) (getD od 2))] Str.empty [some (Cm.F l).ob] cs = .ok (.str (SX.S (cmdL (.F l)))) cs := fun cs => by
      rw [emp, js _ _ _ _ _ _ (cst _ _ _ _ lit_flushb) (by simp), js _ _ _ _ _ _ (fmt 2 (l : Int) [] 0 _ _ rfl (by simp [nums])) (by simp; omega)]
      show Out.ok (D.str (SX.S _)) cs = _
      simp [cmdL, wordsL, kd, nums, TL.joinL]
    unfold Cm.ob at ej ⊢
    simp [mkF, finS, env0, sSeq, sIf, sRet, sNil, qB, isiD, isi_Store, isi_Flush, Out.bind, Out.bindS, List.lookup, D.lt, trim_self, ej, d1h]
  | X =>
    have cX : cmdL Cm.X = [102, 101, 110, 99, 101] := rfl
    unfold Cm.ob
    simp [mkF, finS, env0, sSeq, sIf, sRet, sNil, qB, isiD, isi_Store, isi_Flush, Out.bind, Out.bindS, List.lookup, D.lt, trim_self, d1h, dC, cX, lit_fence]
end K71
end

section
set_option Elab.async false
set_option linter.all false
set_option maxRecDepth 100000
namespace K71
open PySem L2 DL
/-! ### programs -/
def progD (xs : List Int) (r : List Cm) : D := .obj 12 [memD xs, .tup (obs r)]
theorem lt_ob (k : Cm) (n : Nat) : D.lt n k.ob = true := by cases k <;> rfl
theorem ltL_obs (r : List Cm) (n : Nat) : D.ltL n (obs r) = true := ltL_map fun x _ => lt_ob x n
theorem lt_mem (xs : List Int) (n : Nat) : D.lt n (memD xs) = true := by
  show (D.ltL n (ilist xs) && true) = true
  rw [ltL_il]; rfl
theorem lt_prog (xs : List Int) (r : List Cm) (n : Nat) : D.lt n (progD xs r) = true := by
  show (D.lt n (memD xs) && (D.ltL n (obs r) && true)) = true
  rw [lt_mem, ltL_obs]; rfl
theorem obs_len (r : List Cm) : (obs r).length = r.length := by unfold obs; simp
theorem F_program (xs : List Int) (r : List Cm) (cs : List Cell) (hb : xs.length ≤ 6) (hr : r.length ≤ 200) (h : ∀ c ∈ r, c.ok xs) :
    mkO od 12 F_Program_init [memD xs, .lst (obs r)] cs = .ok (progD xs r) cs := by
  have e : ∀ cs, F_check_commands [memD xs, .tup (obs r)] cs = .ok .non cs := fun cs => F_chk xs r cs hb h
  have hr2 : ¬ (200 : Int) < (r.length : Int) := by omega
  have f : fits r.length := fits_of (by omega)
  have l0 : D.ltL cs.length [memD xs, .tup (obs r)] = true := by
    show (D.lt cs.length (memD xs) && (D.ltL cs.length (obs r) && true)) = true
    rw [lt_mem, ltL_obs]; rfl
  unfold mkO F_Program_init b_Program_init progD
  simp [mkF, finS, env0, sSeq, sIf, sNil, sNo, sExpr, qB, d1, d2, dVar, dC, dCall, dCons, dNil, dFn, Out.bind, Out.bindS, sFldD, DL.putK, od, tupleD, lenD, lenD1, getD, gtD, cmpD, both, asI, itemsS, itemsL, end_get, end_set, obs_len, hr2, e, few_of, atK, trim_self, trim_len, l0, trim_app]
/-! ### reading programs -/
def progL (r : List Cm) : List Nat := if r = [] then [110, 111, 110, 101] else TL.joinL [44, 32] (r.map cmdL)
theorem joinL_head (s : List Nat) (c : Nat) (p : List Nat) : ∀ ps, ∃ t, TL.joinL s ((c :: p) :: ps) = c :: t
  | [] => ⟨p, rfl⟩
  | q :: ps => ⟨_, rfl⟩
theorem joinL_mem (s : List Nat) (c : Nat) : ∀ ps, c ∈ TL.joinL s ps → c ∈ s ∨ ∃ p ∈ ps, c ∈ p
  | [], h => nomatch h
  | [p], h => .inr ⟨p, List.mem_cons_self, h⟩
  | p :: q :: r, h => by
    have h : c ∈ p ++ (s ++ TL.joinL s (q :: r)) := h
    rcases List.mem_append.mp h with h | h
    · exact .inr ⟨p, List.mem_cons_self, h⟩
    · rcases List.mem_append.mp h with h | h
      · exact .inl h
      · rcases joinL_mem s c (q :: r) h with h | ⟨x, hx, h⟩
        · exact .inl h
        · exact .inr ⟨x, List.mem_cons_of_mem _ hx, h⟩
theorem joinL_len (s : List Nat) (m : Nat) : ∀ ps, (∀ p ∈ ps, p.length ≤ m) → (TL.joinL s ps).length ≤ ps.length * (m + s.length)
  | [], _ => Nat.zero_le _
  | [p], h => by
    have := h p List.mem_cons_self
    show p.length ≤ 1 * (m + s.length)
    omega
  | p :: q :: r, h => by
    have h1 := h p List.mem_cons_self
    have ih := joinL_len s m (q :: r) fun x hx => h x (List.mem_cons_of_mem _ hx)
    show (p ++ (s ++ TL.joinL s (q :: r))).length ≤ ((q :: r).length + 1) * (m + s.length)
    rw [List.length_append, List.length_append, Nat.add_mul, Nat.one_mul]
    omega
theorem cmd_head (k : Cm) : ∃ c t, cmdL k = c :: t ∧ (c = 115 ∨ c = 102) := by
  unfold cmdL wordsL
  cases k with
  | S l w n =>
    obtain ⟨t, e⟩ := joinL_head [32] 115 [116, 111, 114, 101] ((nums (.S l w n)).map numZ)
    exact ⟨115, t, e, .inl rfl⟩
  | F l =>
    obtain ⟨t, e⟩ := joinL_head [32] 102 [108, 117, 115, 104] ((nums (.F l)).map numZ)
    exact ⟨102, t, e, .inr rfl⟩
  | X => exact ⟨102, _, rfl, .inr rfl⟩
theorem cmd_free (k : Cm) : 44 ∉ cmdL k := fun h => by
  rcases joinL_mem [32] 44 _ h with h | ⟨p, hp, h⟩
  · simp at h
  · exact words_free k 44 (by omega) (by omega) p hp h
theorem prog_ne {r : List Cm} (h : r ≠ []) : progL r ≠ [110, 111, 110, 101] := by
  unfold progL
  rw [if_neg h]
  cases r with
  | nil => exact absurd rfl h
  | cons k r =>
    obtain ⟨c, t, e, hc⟩ := cmd_head k
    rw [List.map_cons, e]
    obtain ⟨u, e2⟩ := joinL_head [44, 32] c t (r.map cmdL)
    rw [e2]
    intro z
    cases z
    omega
theorem prog_len {r : List Cm} (h : ∀ k ∈ r, smallC k) (hr : r.length ≤ 200) : (progL r).length ≤ 50000 := by
  unfold progL
  split
  · simp
  · have := joinL_len [44, 32] 200 (r.map cmdL) fun p hp => by
      obtain ⟨k, hk, rfl⟩ := List.mem_map.mp hp
      exact (cmd_len (h k hk)).2
    rw [List.length_map] at this
    simp at this
    omega
theorem enum_zip (f : Cm → D) : ∀ (r : List Cm) (i : Nat), enumD i (r.map f) = (r.zipIdx i).map fun p => .tup [.int (p.2 : Int), f p.1]
  | [], _ => rfl
  | k :: r, i => by
    rw [List.zipIdx_cons, List.map_cons, List.map_cons, ← enum_zip f r (i + 1)]
    rfl
theorem zip_obs : ∀ (r : List Cm) (i : Nat), (r.zipIdx i).map (fun p => p.1.ob) = obs r
  | [], _ => rfl
  | k :: r, i => by
    rw [List.zipIdx_cons, List.map_cons, zip_obs r (i + 1)]
    rfl
theorem F_read_program_ok (xs : List Int) (r : List Cm) (cs : List Cell) (hb : xs.length ≤ 6) (hr : r.length ≤ 200) (h : ∀ c ∈ r, c.ok xs) (hs : ∀ c ∈ r, smallC c) :
    F_read_program [memD xs, .str (SX.S (progL r))] cs = .ok (progD xs r) cs := by
  have hp := F_program xs r cs hb hr h
  have pl := prog_len hs hr
  unfold F_read_program b_read_program
  by_cases hn : r = []
  · subst hn
    have e : progL [] = [110, 111, 110, 101] := rfl
    have f0 : fits 0 := fits_of (by omega)
    have hp : mkO od 12 F_Program_init [memD xs, .lst []] cs = .ok (progD xs []) cs := hp
    simp only [mkF, finS, env0, sSeq, sIf, sRet, sNil, qB, d2, dVar, dC, dFn, dCons, dNil, dLst, Out.bind, Out.bindS, List.length_cons, List.length_nil, List.map_cons, List.map_nil, List.cons_append, List.nil_append, List.replicate_succ, List.replicate_zero, Nat.reduceAdd, Nat.reduceSub, if_true, List.getElem?_cons_zero, List.getElem?_cons_succ, lit_none, eqS, e, decide_true, if_pos f0, hp, lt_prog, trim_self]
  · have ne : decide (progL r = [110, 111, 110, 101]) = false := by simp [prog_ne hn]
    have ep : progL r = TL.joinL [44, 32] (r.map cmdL) := if_neg hn
    have sp : ∀ cs, splitD (SX.S (progL r)) (.str (Str.ofString ", ")) cs = .ok (.lst (r.map fun k => .str (SX.S (cmdL k)))) cs := fun cs => by
      have f : fits ((SX.S (progL r)).length + 2) := fits_of (by rw [SX.S_len]; omega)
      have e1 : ((Str.ofString ", ").length == 0) = false := by decide +kernel
      unfold splitD
      simp only [e1, f, and_self, if_true]
      rw [lit_comma, SX.split_S (by simp) (by decide), ep, SX.spl_join (by simpa using hn) (fun p hp => by
        obtain ⟨k, _, rfl⟩ := List.mem_map.mp hp
        exact cmd_free k), List.map_map, List.map_map]
      rfl
    have hlc : dLc [2, 3] (itEn (dCons (dM1 (dVar 1) (dC (.str (Str.ofString ", "))) splitD) dNil)) (gTupD 2 (gsCons (gNm 2) (gsCons (gNm 3) gsNil))) pYes ce_read_program_0 [some (memD xs), some (.str (SX.S (progL r))), none, none] cs = .ok (.lst (obs r)) cs := by
      rw [← zip_obs r 0]
      refine lc_map (chk := noChk) (r.zipIdx 0) (fun p => .tup [.int (p.2 : Int), .str (SX.S (cmdL p.1))]) (fun p => p.1.ob) ?_ (fun _ => trivial) (by simp; omega) (fun x hx acc => ⟨_, rfl, ?_⟩) (ltL_map fun x hx => lt_ob _ _)
      · simp only [itEn, dCons, dNil, dM1, dVar, dC, Out.bind, List.getElem?_cons_zero, List.getElem?_cons_succ, sp]
        rw [← enum_zip (fun k => .str (SX.S (cmdL k)))]
      · have hk : smallC x.1 := hs _ (List.fst_mem_of_mem_zipIdx hx)
        show ce_read_program_0 [_, _, some (.int (x.2 : Int)), some (.str (SX.S (cmdL x.1)))] _ = _
        simp only [ce_read_program_0, dFn, dCons, dNil, dVar, Out.bind, List.getElem?_cons_zero, List.getElem?_cons_succ, F_read_command_ok hk]
    simp only [mkF, finS, env0, sSeq, sIf, sRet, sNil, qB, d2, dVar, dC, dFn, dCons, dNil, Out.bind, Out.bindS, List.length_cons, List.length_nil, List.map_cons, List.map_nil, List.cons_append, List.nil_append, List.replicate_succ, List.replicate_zero, Nat.reduceAdd, Nat.reduceSub, if_true, List.getElem?_cons_zero, List.getElem?_cons_succ, lit_none, eqS, ne, Bool.false_eq_true, if_false, hp]
    simp only [hlc, hp, lt_prog, trim_self]
theorem strs_map {α : Type} (f : α → Str) : ∀ xs : List α, strsD (xs.map fun x => D.str (f x)) = some (xs.map f)
  | [] => rfl
  | x :: xs => by
    show (strsD (xs.map fun x => D.str (f x))).map (f x :: ·) = _
    rw [strs_map f xs]; rfl
theorem sum_le {α : Type} (f : α → Nat) (m : Nat) : ∀ xs : List α, (∀ x ∈ xs, f x ≤ m) → (xs.map f).sum ≤ xs.length * m
  | [], _ => Nat.zero_le _
  | x :: xs, h => by
    have h1 := h x List.mem_cons_self
    have ih := sum_le f m xs fun y hy => h y (List.mem_cons_of_mem _ hy)
    rw [List.map_cons, List.sum_cons, List.length_cons, Nat.add_mul, Nat.one_mul]
    omega
/-- the commands joined -/
theorem join_cmds (r : List Cm) (hs : ∀ c ∈ r, smallC c) (hr : r.length ≤ 200) (hn : r ≠ []) (y : D) (cs : List Cell) (hy : itemsS cs y = some (r.map fun k => .str (SX.S (cmdL k)))) : joinD (Str.ofString ", ") y cs = .ok (.str (SX.S (progL r))) cs := by
  have ep : progL r = TL.joinL [44, 32] (r.map cmdL) := if_neg hn
  have j : joinOk (((r.map fun k => SX.S (cmdL k)).map (·.length)).sum + (r.map fun k => SX.S (cmdL k)).length * (Str.ofString ", ").length) := joinOk_of (by
    rw [List.map_map]
    have := sum_le ((·.length) ∘ fun k => SX.S (cmdL k)) 200 r fun k hk => by
      show (SX.S (cmdL k)).length ≤ 200
      rw [SX.S_len]
      exact (cmd_len (hs k hk)).2
    rw [lit_comma, SX.S_len, List.length_map]
    simp
    omega)
  unfold joinD
  simp only [hy, Option.bind, strs_map (fun k => SX.S (cmdL k)), if_pos j]
  rw [ep, ← SX.join_S, lit_comma, List.map_map]
  rfl
theorem F_program_text_ok (xs : List Int) (r : List Cm) (cs : List Cell) (hr : r.length ≤ 200) (hs : ∀ c ∈ r, smallC c) :
    F_program_text [progD xs r] cs = .ok (.str (SX.S (progL r))) cs := by
  have g8 : ∀ cs, getD od 8 (progD xs r) cs = .ok (.tup (obs r)) cs := fun cs => rfl
  unfold F_program_text b_program_text
  by_cases hn : r = []
  · subst hn
    have e : SX.S (progL []) = Str.ofString "none" := lit_none.symm
    rw [e]
    have e0 : ∀ cs, eqE (.tup (obs [])) (.tup []) cs = .ok (.bl true) cs := fun cs => rfl
    have f0 : fits 0 := fits_of (by omega)
    simp [mkF, finS, env0, sSeq, sIf, sRet, sNil, qB, d1, d2, dVar, dC, dTup, dNil, Out.bind, Out.bindS, g8, e0, f0, D.lt, trim_self]
  · have e0 : ∀ cs, eqE (.tup (obs r)) (.tup []) cs = .ok (.bl false) cs := fun cs => by
      unfold eqE
      have : ((obs r).length == 0) = false := by rw [obs_len]; simpa using hn
      simp only [this]
    have f0 : fits 0 := fits_of (by omega)
    have hlc : ∀ cs, dLc [1] (itT (d1 (dVar 0) (getD od 8))) (gNm 1) pYes ce_program_text_0 [some (progD xs r), none] cs = .ok (.lst (r.map fun k => .str (SX.S (cmdL k)))) cs := fun cs => by
      refine lc_map (chk := noChk) r Cm.ob (fun k => .str (SX.S (cmdL k))) ?_ (fun _ => trivial) (by omega) (fun x hx acc => ⟨_, rfl, ?_⟩) (ltL_map fun x hx => rfl)
      · simp [itT, d1, dVar, Out.bind, g8, itemsT]; rfl
      · show ce_program_text_0 [_, some x.ob] _ = _
        simp only [ce_program_text_0, dFn, dCons, dNil, dVar, Out.bind, List.getElem?_cons_zero, List.getElem?_cons_succ, F_command_text_ok (hs x hx)]
    have hj := join_cmds r hs hr hn (.lst (r.map fun k => .str (SX.S (cmdL k)))) cs rfl
    simp [mkF, finS, env0, sSeq, sIf, sRet, sNil, qB, d1, d2, dVar, dC, dM1, dTup, dNil, Out.bind, Out.bindS, g8, e0, f0, D.lt, trim_self]
    simp only [hlc, hj, D.lt, trim_self]
end K71
end

section
set_option Elab.async false
set_option linter.all false
set_option maxRecDepth 100000
namespace K71
open PySem L2 DL
/-! ### equal to itself -/
mutual
theorem eqD_refl : ∀ {d : D} {n : Nat}, D.okE false d n = true → eqD d d = some true
  | .non, _, _ => by unfold eqD; rfl
  | .bl b, _, _ => by unfold eqD; simp
  | .int b, _, _ => by unfold eqD; simp
  | .str b, _, _ => by unfold eqD; simp
  | .tup xs, 0, h => by unfold D.okE at h; cases h
  | .tup xs, n + 1, h => by
    unfold D.okE at h
    show eqL xs xs = _
    exact eqL_refl h
  | .lst xs, 0, h => by unfold D.okE at h; cases h
  | .lst xs, n + 1, h => by
    unfold D.okE at h
    show eqL xs xs = _
    exact eqL_refl h
  | .obj c xs, 0, h => by unfold D.okE at h; cases h
  | .obj c xs, 1, h => by unfold D.okE at h; cases h
  | .obj c xs, n + 2, h => by unfold D.okE at h; simp at h
  | .dic _ _, _, h => by unfold D.okE at h; cases h
  | .cell _, _, h => by unfold D.okE at h; cases h
  | .exc _ _ _, _, h => by unfold D.okE at h; cases h
theorem eqL_refl : ∀ {xs : List D} {n : Nat}, D.okL false xs n = true → eqL xs xs = some true
  | [], _, _ => by unfold eqL; rfl
  | x :: xs, n, h => by
    unfold D.okL at h
    obtain ⟨h1, h2⟩ := Bool.and_eq_true_iff.mp h
    unfold eqL
    rw [eqD_refl h1, eqL_refl h2]
    rfl
end
theorem resL_no {cs : List Cell} {d : D} (h : ∀ n, d ≠ .cell n) : resL cs d = d := by
  cases d with
  | cell n => exact absurd rfl (h n)
  | _ => rfl
theorem eqC_refl {d : D} (h : D.okE false d 20 = true) (hn : ∀ n, d ≠ .cell n) (cs : List Cell) : eqC false 20 d d cs = .ok (.bl true) cs := by
  unfold eqC
  rw [resL_no hn, h, eqD_refl h]
  rfl
theorem neC_refl {d : D} (h : D.okE false d 20 = true) (hn : ∀ n, d ≠ .cell n) (cs : List Cell) : neC false 20 d d cs = .ok (.bl false) cs := by
  unfold neC
  rw [resL_no hn, h, eqD_refl h]
  rfl
theorem okL_il {n : Nat} : ∀ xs : List Int, D.okL false (ilist xs) n = true
  | [] => by unfold ilist; simp [D.okL]
  | x :: xs => by
    show D.okL false (.int x :: ilist xs) n = true
    unfold D.okL
    rw [okL_il xs]
    simp [D.okE]
theorem ok_mem (xs : List Int) : D.okE false (.tup [.tup (ilist xs)]) 20 = true := by
  simp [D.okE, D.okL, okL_il]
/-! ### the own == -/
theorem str_ne (s : Str) (cs : List Cell) : neC false 20 (.str s) (.str s) cs = .ok (.bl false) cs := neC_refl (by simp [D.okE]) (fun _ h => by cases h) cs
theorem isThing (c : Nat) (fs : List D) (h : c ∈ ownCS) (cs : List Cell) : isiD isi_Thing (.obj c fs) cs = .ok (.bl true) cs := by
  simp only [ownCS, List.mem_cons, List.not_mem_nil, or_false] at h
  rcases h with r | r | r | r | r <;> subst r <;> rfl
theorem eq_obj {x : D} {c : Nat} {fs ks : List D} {kn : Str} (e : x = .obj c fs) (hc : c ∈ ownCS) {fk ff : FDen} (hk : disp_kind.lookup c = some fk) (hf : disp_facts.lookup c = some ff)
    (ek : ∀ cs, fk [x] cs = .ok (.str kn) cs) (ef : ∀ cs, ff [x] cs = .ok (.tup ks) cs) (ok : D.okE false (.tup ks) 20 = true) (cs : List Cell) : F_Thing_eq [x, x] cs = .ok (.bl true) cs := by
  have q : ∀ cs, clsOf od cs x = some c := fun cs => by subst e; rfl
  have i : ∀ cs, isiD isi_Thing x cs = .ok (.bl true) cs := fun cs => by subst e; exact isThing c fs hc cs
  unfold F_Thing_eq b_Thing_eq
  simp only [mkF, finS, env0, sSeq, sIf, sRet, sNil, qOr, qNot, qB, d1, d2, dVar, dC, dMth, dNil, Out.bind, Out.bindS, List.length_cons, List.length_nil, List.map_cons, List.map_nil, List.cons_append, List.nil_append, List.replicate_zero, Nat.reduceAdd, Nat.reduceSub, if_true, List.getElem?_cons_zero, List.getElem?_cons_succ, q, i, hk, hf, ek, ef, str_ne, Bool.not_true, Bool.false_eq_true, if_false, eqC_refl ok (fun _ h => by cases h), D.lt, trim_self]
theorem eq_mem (xs : List Int) (cs : List Cell) : F_Thing_eq [memD xs, memD xs] cs = .ok (.bl true) cs :=
  eq_obj (c := 7) (kn := Str.ofString "memory") rfl (by decide) lk_kind_7 lk_facts_7 (fun cs => by unfold F_Memory_kind b_Memory_kind; simp [mkF, finS, env0, sSeq, sNil, sIf, sSet, sAsg, sExpr, sRet, sRetN, sPass, sNo, sPar, sPar3, sFor, Out.bind, Out.bindS, dVar, dC, d1, d2, dNil, dCons, dTup, dLst, dLstC, dCall, dFn, dIf, dML, dSl, oNone, oSome, dFrz, qB, qNot, qAnd, qOr, qTru, eNot, eAnd, eOr, gNm, gTupD, gsCons, gsNil, gIx, addD, subD, mulD, fdivD, modD, powD, negD, ltD, leD, gtD, geD, cmpD, chainD, both, asI, asS, asB, intX, lenD, tupleD, listD, listC, absD, max2D, min2D, itemsL, itemsT, itemsS, ixD, getD, atK, isC, isNonD, List.length_cons, List.length_nil, List.map_cons, List.map_nil, List.getElem?_cons_zero, List.getElem?_cons_succ, List.set_cons_zero, List.set_cons_succ, List.cons_append, List.nil_append, List.replicate_succ, List.replicate_zero, if_true, if_false, reduceIte, decide_eq_true_eq, L2.atI, L2.ixN, lenD1, itL, itT, itS, itR1, itR2, itEn, itZ, sFldD, DL.putK, end_get, end_set, List.mem_cons, List.not_mem_nil, or_false, false_or, or_true, true_or, D.lt, D.ltL, Bool.and_true, Bool.true_and, trim_app, gA, g0, sA, s0, List.append_assoc, List.length_append, trim_len, fits_of, fitsL_of, in63_of, in63F_of, in62_of, lo63_of, hi63_of, hi63F_of, few_of, le640_of, trim_self]) (fun cs => by unfold F_Memory_facts b_Memory_facts; simp [mkF, finS, env0, sSeq, sNil, sIf, sSet, sAsg, sExpr, sRet, sRetN, sPass, sNo, sPar, sPar3, sFor, Out.bind, Out.bindS, dVar, dC, d1, d2, dNil, dCons, dTup, dLst, dLstC, dCall, dFn, dIf, dML, dSl, oNone, oSome, dFrz, qB, qNot, qAnd, qOr, qTru, eNot, eAnd, eOr, gNm, gTupD, gsCons, gsNil, gIx, addD, subD, mulD, fdivD, modD, powD, negD, ltD, leD, gtD, geD, cmpD, chainD, both, asI, asS, asB, intX, lenD, tupleD, listD, listC, absD, max2D, min2D, itemsL, itemsT, itemsS, ixD, getD, atK, isC, isNonD, List.length_cons, List.length_nil, List.map_cons, List.map_nil, List.getElem?_cons_zero, List.getElem?_cons_succ, List.set_cons_zero, List.set_cons_succ, List.cons_append, List.nil_append, List.replicate_succ, List.replicate_zero, if_true, if_false, reduceIte, decide_eq_true_eq, L2.atI, L2.ixN, lenD1, itL, itT, itS, itR1, itR2, itEn, itZ, sFldD, DL.putK, end_get, end_set, List.mem_cons, List.not_mem_nil, or_false, false_or, or_true, true_or, D.lt, D.ltL, Bool.and_true, Bool.true_and, trim_app, gA, g0, sA, s0, List.append_assoc, List.length_append, trim_len, fits_of, fitsL_of, in63_of, in63F_of, in62_of, lo63_of, hi63_of, hi63F_of, few_of, le640_of, od, trim_self, ltL_il]) (ok_mem xs) cs
theorem eq_ob (k : Cm) (cs : List Cell) : F_Thing_eq [k.ob, k.ob] cs = .ok (.bl true) cs := by
  cases k with
  | S l w n => exact eq_obj (c := 9) (kn := Str.ofString "store") (ks := [.int (l : Int), .int w, .int n]) rfl (by decide) lk_kind_9 lk_facts_9 (fun cs => by unfold F_Store_kind b_Store_kind; simp [mkF, finS, env0, sSeq, sNil, sIf, sSet, sAsg, sExpr, sRet, sRetN, sPass, sNo, sPar, sPar3, sFor, Out.bind, Out.bindS, dVar, dC, d1, d2, dNil, dCons, dTup, dLst, dLstC, dCall, dFn, dIf, dML, dSl, oNone, oSome, dFrz, qB, qNot, qAnd, qOr, qTru, eNot, eAnd, eOr, gNm, gTupD, gsCons, gsNil, gIx, addD, subD, mulD, fdivD, modD, powD, negD, ltD, leD, gtD, geD, cmpD, chainD, both, asI, asS, asB, intX, lenD, tupleD, listD, listC, absD, max2D, min2D, itemsL, itemsT, itemsS, ixD, getD, atK, isC, isNonD, List.length_cons, List.length_nil, List.map_cons, List.map_nil, List.getElem?_cons_zero, List.getElem?_cons_succ, List.set_cons_zero, List.set_cons_succ, List.cons_append, List.nil_append, List.replicate_succ, List.replicate_zero, if_true, if_false, reduceIte, decide_eq_true_eq, L2.atI, L2.ixN, lenD1, itL, itT, itS, itR1, itR2, itEn, itZ, sFldD, DL.putK, end_get, end_set, List.mem_cons, List.not_mem_nil, or_false, false_or, or_true, true_or, D.lt, D.ltL, Bool.and_true, Bool.true_and, trim_app, gA, g0, sA, s0, List.append_assoc, List.length_append, trim_len, fits_of, fitsL_of, in63_of, in63F_of, in62_of, lo63_of, hi63_of, hi63F_of, few_of, le640_of, trim_self]) (fun cs => by unfold F_Store_facts b_Store_facts; simp [mkF, finS, env0, sSeq, sNil, sIf, sSet, sAsg, sExpr, sRet, sRetN, sPass, sNo, sPar, sPar3, sFor, Out.bind, Out.bindS, dVar, dC, d1, d2, dNil, dCons, dTup, dLst, dLstC, dCall, dFn, dIf, dML, dSl, oNone, oSome, dFrz, qB, qNot, qAnd, qOr, qTru, eNot, eAnd, eOr, gNm, gTupD, gsCons, gsNil, gIx, addD, subD, mulD, fdivD, modD, powD, negD, ltD, leD, gtD, geD, cmpD, chainD, both, asI, asS, asB, intX, lenD, tupleD, listD, listC, absD, max2D, min2D, itemsL, itemsT, itemsS, ixD, getD, atK, isC, isNonD, List.length_cons, List.length_nil, List.map_cons, List.map_nil, List.getElem?_cons_zero, List.getElem?_cons_succ, List.set_cons_zero, List.set_cons_succ, List.cons_append, List.nil_append, List.replicate_succ, List.replicate_zero, if_true, if_false, reduceIte, decide_eq_true_eq, L2.atI, L2.ixN, lenD1, itL, itT, itS, itR1, itR2, itEn, itZ, sFldD, DL.putK, end_get, end_set, List.mem_cons, List.not_mem_nil, or_false, false_or, or_true, true_or, D.lt, D.ltL, Bool.and_true, Bool.true_and, trim_app, gA, g0, sA, s0, List.append_assoc, List.length_append, trim_len, fits_of, fitsL_of, in63_of, in63F_of, in62_of, lo63_of, hi63_of, hi63F_of, few_of, le640_of, od, trim_self]) (by simp [D.okE, D.okL]) cs
  | F l => exact eq_obj (c := 10) (kn := Str.ofString "flush") (ks := [.int (l : Int)]) rfl (by decide) lk_kind_10 lk_facts_10 (fun cs => by unfold F_Flush_kind b_Flush_kind; simp [mkF, finS, env0, sSeq, sNil, sIf, sSet, sAsg, sExpr, sRet, sRetN, sPass, sNo, sPar, sPar3, sFor, Out.bind, Out.bindS, dVar, dC, d1, d2, dNil, dCons, dTup, dLst, dLstC, dCall, dFn, dIf, dML, dSl, oNone, oSome, dFrz, qB, qNot, qAnd, qOr, qTru, eNot, eAnd, eOr, gNm, gTupD, gsCons, gsNil, gIx, addD, subD, mulD, fdivD, modD, powD, negD, ltD, leD, gtD, geD, cmpD, chainD, both, asI, asS, asB, intX, lenD, tupleD, listD, listC, absD, max2D, min2D, itemsL, itemsT, itemsS, ixD, getD, atK, isC, isNonD, List.length_cons, List.length_nil, List.map_cons, List.map_nil, List.getElem?_cons_zero, List.getElem?_cons_succ, List.set_cons_zero, List.set_cons_succ, List.cons_append, List.nil_append, List.replicate_succ, List.replicate_zero, if_true, if_false, reduceIte, decide_eq_true_eq, L2.atI, L2.ixN, lenD1, itL, itT, itS, itR1, itR2, itEn, itZ, sFldD, DL.putK, end_get, end_set, List.mem_cons, List.not_mem_nil, or_false, false_or, or_true, true_or, D.lt, D.ltL, Bool.and_true, Bool.true_and, trim_app, gA, g0, sA, s0, List.append_assoc, List.length_append, trim_len, fits_of, fitsL_of, in63_of, in63F_of, in62_of, lo63_of, hi63_of, hi63F_of, few_of, le640_of, trim_self]) (fun cs => by unfold F_Flush_facts b_Flush_facts; simp [mkF, finS, env0, sSeq, sNil, sIf, sSet, sAsg, sExpr, sRet, sRetN, sPass, sNo, sPar, sPar3, sFor, Out.bind, Out.bindS, dVar, dC, d1, d2, dNil, dCons, dTup, dLst, dLstC, dCall, dFn, dIf, dML, dSl, oNone, oSome, dFrz, qB, qNot, qAnd, qOr, qTru, eNot, eAnd, eOr, gNm, gTupD, gsCons, gsNil, gIx, addD, subD, mulD, fdivD, modD, powD, negD, ltD, leD, gtD, geD, cmpD, chainD, both, asI, asS, asB, intX, lenD, tupleD, listD, listC, absD, max2D, min2D, itemsL, itemsT, itemsS, ixD, getD, atK, isC, isNonD, List.length_cons, List.length_nil, List.map_cons, List.map_nil, List.getElem?_cons_zero, List.getElem?_cons_succ, List.set_cons_zero, List.set_cons_succ, List.cons_append, List.nil_append, List.replicate_succ, List.replicate_zero, if_true, if_false, reduceIte, decide_eq_true_eq, L2.atI, L2.ixN, lenD1, itL, itT, itS, itR1, itR2, itEn, itZ, sFldD, DL.putK, end_get, end_set, List.mem_cons, List.not_mem_nil, or_false, false_or, or_true, true_or, D.lt, D.ltL, Bool.and_true, Bool.true_and, trim_app, gA, g0, sA, s0, List.append_assoc, List.length_append, trim_len, fits_of, fitsL_of, in63_of, in63F_of, in62_of, lo63_of, hi63_of, hi63F_of, few_of, le640_of, od, trim_self]) (by simp [D.okE, D.okL]) cs
  | X => exact eq_obj (c := 11) (kn := Str.ofString "fence") (ks := []) rfl (by decide) lk_kind_11 lk_facts_11 (fun cs => by unfold F_Fence_kind b_Fence_kind; simp [mkF, finS, env0, sSeq, sNil, sIf, sSet, sAsg, sExpr, sRet, sRetN, sPass, sNo, sPar, sPar3, sFor, Out.bind, Out.bindS, dVar, dC, d1, d2, dNil, dCons, dTup, dLst, dLstC, dCall, dFn, dIf, dML, dSl, oNone, oSome, dFrz, qB, qNot, qAnd, qOr, qTru, eNot, eAnd, eOr, gNm, gTupD, gsCons, gsNil, gIx, addD, subD, mulD, fdivD, modD, powD, negD, ltD, leD, gtD, geD, cmpD, chainD, both, asI, asS, asB, intX, lenD, tupleD, listD, listC, absD, max2D, min2D, itemsL, itemsT, itemsS, ixD, getD, atK, isC, isNonD, List.length_cons, List.length_nil, List.map_cons, List.map_nil, List.getElem?_cons_zero, List.getElem?_cons_succ, List.set_cons_zero, List.set_cons_succ, List.cons_append, List.nil_append, List.replicate_succ, List.replicate_zero, if_true, if_false, reduceIte, decide_eq_true_eq, L2.atI, L2.ixN, lenD1, itL, itT, itS, itR1, itR2, itEn, itZ, sFldD, DL.putK, end_get, end_set, List.mem_cons, List.not_mem_nil, or_false, false_or, or_true, true_or, D.lt, D.ltL, Bool.and_true, Bool.true_and, trim_app, gA, g0, sA, s0, List.append_assoc, List.length_append, trim_len, fits_of, fitsL_of, in63_of, in63F_of, in62_of, lo63_of, hi63_of, hi63F_of, few_of, le640_of, trim_self]) (fun cs => by unfold F_Thing_facts b_Thing_facts; simp [mkF, finS, env0, sSeq, sNil, sIf, sSet, sAsg, sExpr, sRet, sRetN, sPass, sNo, sPar, sPar3, sFor, Out.bind, Out.bindS, dVar, dC, d1, d2, dNil, dCons, dTup, dLst, dLstC, dCall, dFn, dIf, dML, dSl, oNone, oSome, dFrz, qB, qNot, qAnd, qOr, qTru, eNot, eAnd, eOr, gNm, gTupD, gsCons, gsNil, gIx, addD, subD, mulD, fdivD, modD, powD, negD, ltD, leD, gtD, geD, cmpD, chainD, both, asI, asS, asB, intX, lenD, tupleD, listD, listC, absD, max2D, min2D, itemsL, itemsT, itemsS, ixD, getD, atK, isC, isNonD, List.length_cons, List.length_nil, List.map_cons, List.map_nil, List.getElem?_cons_zero, List.getElem?_cons_succ, List.set_cons_zero, List.set_cons_succ, List.cons_append, List.nil_append, List.replicate_succ, List.replicate_zero, if_true, if_false, reduceIte, decide_eq_true_eq, L2.atI, L2.ixN, lenD1, itL, itT, itS, itR1, itR2, itEn, itZ, sFldD, DL.putK, end_get, end_set, List.mem_cons, List.not_mem_nil, or_false, false_or, or_true, true_or, D.lt, D.ltL, Bool.and_true, Bool.true_and, trim_app, gA, g0, sA, s0, List.append_assoc, List.length_append, trim_len, fits_of, fitsL_of, in63_of, in63F_of, in62_of, lo63_of, hi63_of, hi63F_of, few_of, le640_of, trim_self, fits_of]) (by simp [D.okE, D.okL]) cs
theorem own_mem (xs : List Int) : OwnT ownCS F_Thing_eq (memD xs) (memD xs) := ⟨⟨7, 7, rfl, rfl, by decide, by decide⟩, lt_mem xs 0, lt_mem xs 0, [], eq_mem xs []⟩
theorem own_ob (k : Cm) : OwnT ownCS F_Thing_eq k.ob k.ob := by
  refine ⟨?_, lt_ob k 0, lt_ob k 0, [], eq_ob k []⟩
  cases k
  · exact ⟨9, 9, rfl, rfl, by decide, by decide⟩
  · exact ⟨10, 10, rfl, rfl, by decide, by decide⟩
  · exact ⟨11, 11, rfl, rfl, by decide, by decide⟩
theorem eq_facts (xs : List Int) (r : List Cm) (cs : List Cell) : eqOT ownCS F_Thing_eq 1 (.tup [memD xs, .tup (obs r)]) (.tup [memD xs, .tup (obs r)]) cs = .ok (.bl true) cs := by
  unfold eqOT
  refine if_pos ⟨_, _, rfl, rfl, rfl, fun i p q hp hq => ?_⟩
  rw [hp] at hq; cases hq
  match i, hp with
  | 0, hp =>
    cases hp
    exact .inl (.inl (own_mem xs))
  | 1, hp =>
    cases hp
    refine .inr ⟨_, _, rfl, rfl, rfl, fun j p q hp hq => ?_⟩
    rw [hp] at hq; cases hq
    unfold obs at hp
    rw [List.getElem?_map] at hp
    cases hk : r[j]? with
    | none => rw [hk] at hp; cases hp
    | some k =>
      rw [hk] at hp; cases hp
      exact .inl (own_ob k)
  | n + 2, hp => simp at hp
theorem eq_prog (xs : List Int) (r : List Cm) (cs : List Cell) : F_Thing_eq1 [progD xs r, progD xs r] cs = .ok (.bl true) cs := by
  have q : ∀ cs, clsOf od cs (progD xs r) = some 12 := fun cs => rfl
  have i : ∀ cs, isiD isi_Thing (progD xs r) cs = .ok (.bl true) cs := fun cs => rfl
  have ek : ∀ cs, F_Program_kind [progD xs r] cs = .ok (.str (Str.ofString "program")) cs := fun cs => by unfold F_Program_kind b_Program_kind; simp [mkF, finS, env0, sSeq, sNil, sIf, sSet, sAsg, sExpr, sRet, sRetN, sPass, sNo, sPar, sPar3, sFor, Out.bind, Out.bindS, dVar, dC, d1, d2, dNil, dCons, dTup, dLst, dLstC, dCall, dFn, dIf, dML, dSl, oNone, oSome, dFrz, qB, qNot, qAnd, qOr, qTru, eNot, eAnd, eOr, gNm, gTupD, gsCons, gsNil, gIx, addD, subD, mulD, fdivD, modD, powD, negD, ltD, leD, gtD, geD, cmpD, chainD, both, asI, asS, asB, intX, lenD, tupleD, listD, listC, absD, max2D, min2D, itemsL, itemsT, itemsS, ixD, getD, atK, isC, isNonD, List.length_cons, List.length_nil, List.map_cons, List.map_nil, List.getElem?_cons_zero, List.getElem?_cons_succ, List.set_cons_zero, List.set_cons_succ, List.cons_append, List.nil_append, List.replicate_succ, List.replicate_zero, if_true, if_false, reduceIte, decide_eq_true_eq, L2.atI, L2.ixN, lenD1, itL, itT, itS, itR1, itR2, itEn, itZ, sFldD, DL.putK, end_get, end_set, List.mem_cons, List.not_mem_nil, or_false, false_or, or_true, true_or, D.lt, D.ltL, Bool.and_true, Bool.true_and, trim_app, gA, g0, sA, s0, List.append_assoc, List.length_append, trim_len, fits_of, fitsL_of, in63_of, in63F_of, in62_of, lo63_of, hi63_of, hi63F_of, few_of, le640_of, trim_self]
  have l0 : ∀ n, D.ltL n [memD xs, .tup (obs r)] = true := fun n => lt_prog xs r n
  have f2 : fits 2 := fits_of (by omega)
  have ef : ∀ cs, F_Program_facts [progD xs r] cs = .ok (.tup [memD xs, .tup (obs r)]) cs := fun cs => by
    have g7 : ∀ cs, getD od 7 (progD xs r) cs = .ok (memD xs) cs := fun cs => rfl
    have g8 : ∀ cs, getD od 8 (progD xs r) cs = .ok (.tup (obs r)) cs := fun cs => rfl
    have lt : ∀ n, D.lt n (.tup [memD xs, .tup (obs r)]) = true := fun n => l0 n
    unfold F_Program_facts b_Program_facts
    simp only [mkF, finS, env0, sRet, dTup, dCons, dNil, d1, dVar, Out.bind, Out.bindS, List.length_cons, List.length_nil, List.map_cons, List.map_nil, List.cons_append, List.nil_append, List.replicate_zero, Nat.reduceAdd, Nat.reduceSub, if_true, List.getElem?_cons_zero, g7, g8, if_pos f2, lt, trim_self]
  unfold F_Thing_eq1 b_Thing_eq1
  simp only [mkF, finS, env0, sSeq, sIf, sRet, sNil, qOr, qNot, qB, d1, d2, dVar, dC, dMth, dNil, Out.bind, Out.bindS, List.length_cons, List.length_nil, List.map_cons, List.map_nil, List.cons_append, List.nil_append, List.replicate_zero, Nat.reduceAdd, Nat.reduceSub, if_true, List.getElem?_cons_zero, List.getElem?_cons_succ, q, i, lk_kind_12, lk_facts_12, ek, ef, str_ne, Bool.not_true, Bool.false_eq_true, if_false, eq_facts, D.lt, trim_self]
theorem own_prog (neg : Bool) (xs : List Int) (r : List Cm) (cs : List Cell) : ownD ownCS F_Thing_eq1 neg (progD xs r) (progD xs r) cs = .ok (.bl (if neg then false else true)) cs := by
  have h : 12 ∈ ownCS ∧ 12 ∈ ownCS := by decide
  show (if 12 ∈ ownCS ∧ 12 ∈ ownCS then outB neg (F_Thing_eq1 [progD xs r, progD xs r] cs) else .no) = _
  rw [if_pos h, eq_prog]
  cases neg <;> rfl
theorem own_memN (xs : List Int) (cs : List Cell) : ownD ownCS F_Thing_eq true (memD xs) (memD xs) cs = .ok (.bl false) cs := by
  have h : 7 ∈ ownCS ∧ 7 ∈ ownCS := by decide
  show (if 7 ∈ ownCS ∧ 7 ∈ ownCS then outB true (F_Thing_eq [memD xs, memD xs] cs) else .no) = _
  rw [if_pos h, eq_mem]
  rfl
theorem F_programT (xs : List Int) (r : List Cm) (cs : List Cell) (hb : xs.length ≤ 6) (hr : r.length ≤ 200) (h : ∀ c ∈ r, c.ok xs) :
    mkO od 12 F_Program_init [memD xs, .tup (obs r)] cs = .ok (progD xs r) cs := by
  have e : ∀ cs, F_check_commands [memD xs, .tup (obs r)] cs = .ok .non cs := fun cs => F_chk xs r cs hb h
  have hr2 : ¬ (200 : Int) < (r.length : Int) := by omega
  have f : fits r.length := fits_of (by omega)
  have l0 : D.ltL cs.length [memD xs, .tup (obs r)] = true := by
    show (D.lt cs.length (memD xs) && (D.ltL cs.length (obs r) && true)) = true
    rw [lt_mem, ltL_obs]; rfl
  unfold mkO F_Program_init b_Program_init progD
  simp [mkF, finS, env0, sSeq, sIf, sNil, sNo, sExpr, qB, d1, d2, dVar, dC, dCall, dCons, dNil, dFn, Out.bind, Out.bindS, sFldD, DL.putK, od, tupleD, lenD, lenD1, getD, gtD, cmpD, both, asI, itemsS, itemsL, end_get, end_set, obs_len, hr2, e, few_of, atK, trim_self, trim_len, l0, trim_app]
/-- one program behind the other -/
theorem F_add (xs : List Int) (a b : List Cm) (cs : List Cell) (hb : xs.length ≤ 6) (hr : (a ++ b).length ≤ 200) (h : ∀ c ∈ a ++ b, c.ok xs) :
    ownAddD 12 F_Program_add (progD xs a) (progD xs b) cs = .ok (progD xs (a ++ b)) cs := by
  have e : F_Program_add [progD xs a, progD xs b] cs = .ok (progD xs (a ++ b)) cs := by
    have g7 : ∀ r cs, getD od 7 (progD xs r) cs = .ok (memD xs) cs := fun r cs => rfl
    have g8 : ∀ r cs, getD od 8 (progD xs r) cs = .ok (.tup (obs r)) cs := fun r cs => rfl
    have ad : ∀ cs, addD (.tup (obs a)) (.tup (obs b)) cs = .ok (.tup (obs (a ++ b))) cs := fun cs => by
      have f : fits ((obs a).length + (obs b).length) := fits_of (by rw [obs_len, obs_len]; simp at hr; omega)
      unfold addD
      simp only [both, asI, asS, itemsT, if_pos f]
      unfold obs; simp
    unfold F_Program_add b_Program_add
    simp only [mkF, finS, env0, sSeq, sIf, sRet, sNil, qB, d1, d2, dVar, dFn, dCons, dNil, Out.bind, Out.bindS, List.length_cons, List.length_nil, List.map_cons, List.map_nil, List.cons_append, List.nil_append, List.replicate_zero, Nat.reduceAdd, Nat.reduceSub, if_true, List.getElem?_cons_zero, List.getElem?_cons_succ, g7, g8, own_memN, Bool.false_eq_true, if_false, ad, F_programT xs (a ++ b) cs hb hr h, lt_prog, trim_self]
  unfold ownAddD
  rw [if_pos (⟨rfl, rfl⟩ : isOb (progD xs a) = some 12 ∧ isOb (progD xs b) = some 12), e]
  rfl
end K71
end

section
set_option Elab.async false
set_option linter.all false
set_option maxRecDepth 100000
namespace K71
open PySem L2 DL
/-! ### what the law draws -/
inductive Kd where
  | st | fl | fe
def Kd.s : Kd → Str
  | .st => Str.ofString "store"
  | .fl => Str.ofString "flush"
  | .fe => Str.ofString "fence"
structure Sq where
  k : Kd
  a : Nat
  b : Int
  c : Int
def Sq.d (s : Sq) : D := .tup [.str s.k.s, .int s.a, .int s.b, .int s.c]
def Sq.cm (s : Sq) : Cm := match s.k with
  | .st => .S s.a s.b s.c
  | .fl => .F s.a
  | .fe => .X
def Sq.ok (xs : List Int) (s : Sq) : Prop := (∃ x, xs[s.a]? = some x ∧ 0 ≤ s.b ∧ s.b < x) ∧ small s.c
def sqs (r : List Sq) : List D := r.map Sq.d
theorem sqs_len (r : List Sq) : (sqs r).length = r.length := by unfold sqs; simp
theorem lt_sq (s : Sq) (n : Nat) : D.lt n s.d = true := rfl
theorem ltL_sqs (r : List Sq) (n : Nat) : D.ltL n (sqs r) = true := ltL_map fun x _ => lt_sq x n
theorem cm_ok {xs : List Int} {s : Sq} (h : s.ok xs) : s.cm.ok xs := by
  obtain ⟨⟨x, h1, h2, h3⟩, _⟩ := h
  unfold Sq.cm
  cases s.k with
  | st => exact ⟨x, h1, h2, h3⟩
  | fl => exact (List.getElem?_eq_some_iff.mp h1).1
  | fe => trivial
theorem cm_small {xs : List Int} {s : Sq} (h6 : xs.length ≤ 6) (hy : ∀ y ∈ xs, 1 ≤ y ∧ y ≤ 4) (h : s.ok xs) : smallC s.cm := by
  obtain ⟨⟨x, h1, h2, h3⟩, h4⟩ := h
  have hl := (List.getElem?_eq_some_iff.mp h1).1
  have hx := hy x (List.mem_of_getElem? h1)
  intro z hz
  unfold Sq.cm at hz
  have ha : small (s.a : Int) := by unfold small; omega
  have hb : small s.b := by unfold small; omega
  cases hk : s.k with
  | st =>
    simp only [hk, nums, List.mem_cons, List.not_mem_nil, or_false] at hz
    rcases hz with r | r | r <;> subst r <;> assumption
  | fl =>
    simp only [hk, nums, List.mem_cons, List.not_mem_nil, or_false] at hz
    subst hz; assumption
  | fe =>
    simp only [hk, nums, List.not_mem_nil] at hz
theorem specs_loop {xs : List Int} (x1 : 1 ≤ xs.length) (h6 : xs.length ≤ 6) (hy : ∀ y ∈ xs, 1 ≤ y ∧ y ≤ 4) {n : Nat} {cs : List Cell} (hn : n < cs.length) (e2 e3 : Option D) : ∀ (k : Nat) (j : Int) (c : Cell) (acc : List Sq) (e5 e6 e7 : Option D), isS c → acc.length + k ≤ 1000 → (∀ s ∈ acc, s.ok xs) →
    ∃ (new : List Sq) (c' : Cell) (f5 f6 f7 : Option D), isS c' ∧ new.length = k ∧ (∀ s ∈ acc ++ new, s.ok xs) ∧
      forL noChk (gNm 5) lb_law_specs_0 (rngL j k) [some (.cell n), some (.lst (ilist xs)), e2, e3, some (.cell cs.length), e5, e6, e7] (cs.set n c ++ [.lst (sqs acc)])
        = .nx [some (.cell n), some (.lst (ilist xs)), e2, e3, some (.cell cs.length), f5, f6, f7] (cs.set n c' ++ [.lst (sqs (acc ++ new))])
  | 0, j, c, acc, e5, e6, e7, hs, _, ha => ⟨[], c, e5, e6, e7, hs, rfl, by simpa using ha, by rw [List.append_nil]; exact forL_nil trivial⟩
  | k + 1, j, c, acc, e5, e6, e7, hs, hk, ha => by
    have hn' : ∀ c, n < (cs.set n c).length := fun c => by simpa using hn
    obtain ⟨kd, c1, k1, s1, p1⟩ := pick_ok (cs := cs.set n c ++ [.lst (sqs acc)]) (app_get (set_get hn)) hs [.str (Str.ofString "store"), .str (Str.ofString "store"), .str (Str.ofString "store"), .str (Str.ofString "flush"), .str (Str.ofString "flush"), .str (Str.ofString "fence")] (by simp) (by simp)
    rw [app_set (hn' c), List.set_set] at p1
    have hkd : ∃ K : Kd, kd = .str K.s := by
      simp only [List.mem_cons, List.not_mem_nil, or_false] at k1
      rcases k1 with r | r | r | r | r | r <;> subst r
      · exact ⟨.st, rfl⟩
      · exact ⟨.st, rfl⟩
      · exact ⟨.st, rfl⟩
      · exact ⟨.fl, rfl⟩
      · exact ⟨.fl, rfl⟩
      · exact ⟨.fe, rfl⟩
    obtain ⟨K, rfl⟩ := hkd
    obtain ⟨a, c2, s2, a0, a1, p2⟩ := draw_ok (cs := cs.set n c1 ++ [.lst (sqs acc)]) (app_get (set_get hn)) s1 (xs.length : Int) (by omega) (by
      rw [show ((xs.length : Int).natAbs) = xs.length by omega]; exact log_small (by omega))
    rw [app_set (hn' c1), List.set_set] at p2
    have al : a.toNat < xs.length := by omega
    have ea : ((a.toNat : Nat) : Int) = a := Int.toNat_of_nonneg a0
    have hx := hy _ (List.getElem_mem al)
    obtain ⟨b, c3, s3, b0, b1, p3⟩ := draw_ok (cs := cs.set n c2 ++ [.lst (sqs acc)]) (app_get (set_get hn)) s2 xs[a.toNat] (by omega) (log_small (by omega))
    rw [app_set (hn' c2), List.set_set] at p3
    obtain ⟨z, c4, s4, z1, p4⟩ := number_ok (cs := cs.set n c3 ++ [.lst (sqs acc)]) (app_get (set_get hn)) s3
    rw [app_set (hn' c3), List.set_set] at p4
    have sok : Sq.ok xs ⟨K, a.toNat, b, z⟩ := ⟨⟨xs[a.toNat], List.getElem?_eq_getElem al, b0, b1⟩, z1⟩
    obtain ⟨new, c', f5, f6, f7, s', l', o', ih⟩ := specs_loop x1 h6 hy hn e2 e3 k (j + 1) c4 (acc ++ [⟨K, a.toNat, b, z⟩]) (some (.int j)) (some (.str K.s)) (some (.int a)) s4 (by simp; omega) (fun s hs => by
      rcases List.mem_append.mp hs with q | q
      · exact ha s q
      · simp only [List.mem_cons, List.not_mem_nil, or_false] at q
        subst q; exact sok)
    refine ⟨⟨K, a.toNat, b, z⟩ :: new, c', f5, f6, f7, s', by simp [l'], by simpa using o', ?_⟩
    have eg : ∀ z z', (cs.set n z ++ [z'])[cs.length]? = some z' := fun z z' => by
      have := end_get (cs := cs.set n z) (c := z')
      rwa [List.length_set] at this
    have es : ∀ z z1 z', (cs.set n z ++ [z1]).set cs.length z' = cs.set n z ++ [z'] := fun z z1 z' => by
      have := end_set (cs := cs.set n z) (c := z1) (d := z')
      rwa [List.length_set] at this
    have fl : fits xs.length := fits_of (by omega)
    have f6' : fits 6 := fits_of (by omega)
    have f4 : fits 4 := fits_of (by omega)
    have fa : fitsL (sqs acc).length := fitsL_of (by rw [sqs_len]; omega)
    have hL : ∀ c, isL (cs.set n c ++ [.lst (sqs acc)]) (.cell cs.length) = true := fun c => by simp [isL, itemsL, eg]
    have hix : ∀ cs, ixD (.lst (ilist xs)) (.int a) cs = .ok (.int xs[a.toNat]) cs := fun cs => by
      have ha : L2.atI (ilist xs) a = some (.int xs[a.toNat]) := atI_int a0 (by rw [il_get, List.getElem?_eq_getElem al]; rfl)
      unfold ixD asI
      simp only [itemsS, itemsL, ha]
    have hln : ∀ cs, lenD [.lst (ilist xs)] cs = .ok (.int (xs.length : Int)) cs := fun cs => by
      simp [lenD, lenD1, itemsS, itemsL, il_len]
    have hA : ∀ c, appendD (.cell cs.length) [.tup [.str K.s, .int a, .int b, .int z]] (cs.set n c ++ [.lst (sqs acc)]) = .ok .non (cs.set n c ++ [.lst (sqs (acc ++ [⟨K, a.toNat, b, z⟩]))]) := fun c => by
      unfold appendD
      simp only [eg, if_pos fa, es]
      unfold sqs
      rw [List.map_append]
      show Out.ok D.non (cs.set n c ++ [Cell.lst (acc.map Sq.d ++ [.tup [.str K.s, .int a, .int b, .int z]])]) = Out.ok D.non (cs.set n c ++ [Cell.lst (acc.map Sq.d ++ [.tup [.str K.s, .int ((a.toNat : Nat) : Int), .int b, .int z]])])
      rw [ea]
    rw [rngL_succ]
    rw [forL_step (env1 := [some (.cell n), some (.lst (ilist xs)), e2, e3, some (.cell cs.length), some (.int j), e6, e7]) (env2 := [some (.cell n), some (.lst (ilist xs)), e2, e3, some (.cell cs.length), some (.int j), some (.str K.s), some (.int a)]) (cs2 := cs.set n c4 ++ [.lst (sqs (acc ++ [⟨K, a.toNat, b, z⟩]))]) trivial rfl (by
      unfold lb_law_specs_0
      simp only [sSeq, sSet, sExpr, dML, dFn, dCons, dNil, dVar, dC, dLst, dTup, dCall, d2, Out.bind, Out.bindS, List.length_cons, List.length_nil, Nat.reduceAdd, if_pos f6', if_pos f4, List.getElem?_cons_zero, List.getElem?_cons_succ, List.set_cons_zero, List.set_cons_succ, p1, hln, p2, hL, if_true, hix, p3, p4, hA])]
    rw [ih]
    simp
theorem specs_ok {xs : List Int} (x1 : 1 ≤ xs.length) (h6 : xs.length ≤ 6) (hy : ∀ y ∈ xs, 1 ≤ y ∧ y ≤ 4) {n : Nat} {cs : List Cell} {c : Cell} (h : cs[n]? = some c) (hs : isS c) (lo hi : Int) (h0 : 0 ≤ lo) (h1 : lo ≤ hi) (h2 : hi ≤ 20) :
    ∃ (r : List Sq) (c' : Cell), isS c' ∧ lo ≤ r.length ∧ r.length ≤ hi ∧ (∀ s ∈ r, s.ok xs) ∧ F_law_specs [.cell n, .lst (ilist xs), .int lo, .int hi] cs = .ok (.cell cs.length) (cs.set n c' ++ [.lst (sqs r)]) := by
  have hn := live_len h
  obtain ⟨q, c1, s1, q0, q1, p1⟩ := draw_ok (cs := cs ++ [.lst (sqs [])]) (app_get h) hs (hi - lo + 1) (by omega) (by
    exact log_small (by omega))
  rw [app_set hn] at p1
  have hin : in62 (lo + q) := in62_of (by omega) (by omega)
  obtain ⟨new, c', f5, f6, f7, s', l', o', e⟩ := specs_loop x1 h6 hy hn (some (.int lo)) (some (.int hi)) (lo + q).toNat 0 c1 [] none none none s1 (by simp; omega) (fun s h => nomatch h)
  rw [List.nil_append] at o' e
  refine ⟨new, c', s', by omega, by omega, o', ?_⟩
  have f0 : fits 0 := fits_of (by omega)
  have ad : ∀ i j cs, addD (.int i) (.int j) cs = .ok (.int (i + j)) cs := fun _ _ _ => rfl
  have sb : ∀ i j cs, subD (.int i) (.int j) cs = .ok (.int (i - j)) cs := fun _ _ _ => rfl
  change F_law_draw _ (cs ++ [.lst []]) = Out.ok _ (cs.set n c1 ++ [.lst []]) at p1
  change forL noChk (gNm 5) lb_law_specs_0 (rngL 0 (lo + q).toNat) _ (cs.set n c1 ++ [.lst []]) = _ at e
  have lt : D.lt cs.length (.cell cs.length) = false := by simp [D.lt]
  unfold F_law_specs b_law_specs
  simp only [mkF, finS, env0, sSeq, sSet, sFor, itR1, sRet, Out.bind, Out.bindS, dLstC, dCons, dNil, dFn, dVar, dC, d2, List.length_cons, List.length_nil, List.map_cons, List.map_nil, List.cons_append, List.nil_append, List.replicate_succ, List.replicate_zero, Nat.reduceAdd, Nat.reduceSub, if_true, if_pos f0, List.getElem?_cons_zero, List.getElem?_cons_succ, List.set_cons_zero, List.set_cons_succ, sb, ad, p1, if_pos hin, e, lt, trim_no]
end K71
end

section
set_option Elab.async false
set_option linter.all false
set_option maxRecDepth 100000
namespace K71
open PySem L2 DL
def cms (r : List Sq) : List Cm := r.map Sq.cm
/-! ### the law's own words about specs -/
theorem F_command_ok (s : Sq) (cs : List Cell) : F_law_command [s.d] cs = .ok s.cm.ob cs := by
  obtain ⟨k, a, b, c⟩ := s
  unfold F_law_command b_law_command
  cases k with
  | st => simp [Sq.d, Sq.cm, Kd.s, Cm.ob, mkF, finS, env0, sSeq, sAsg, sIf, sRet, sNil, qB, d2, dVar, dC, dIf, dFn, dCons, dNil, gTupD, gsCons, gsNil, gNm, Out.bind, Out.bindS, lit_store, lit_flush, lit_fence, eqS, mkO, F_Store_init, b_Store_init, od, mkF, finS, env0, sSeq, sNil, sIf, sSet, sAsg, sExpr, sRet, sRetN, sPass, sNo, sPar, sPar3, sFor, Out.bind, Out.bindS, dVar, dC, d1, d2, dNil, dCons, dTup, dLst, dLstC, dCall, dFn, dIf, dML, dSl, oNone, oSome, dFrz, qB, qNot, qAnd, qOr, qTru, eNot, eAnd, eOr, gNm, gTupD, gsCons, gsNil, gIx, addD, subD, mulD, fdivD, modD, powD, negD, ltD, leD, gtD, geD, cmpD, chainD, both, asI, asS, asB, intX, lenD, tupleD, listD, listC, absD, max2D, min2D, itemsL, itemsT, itemsS, ixD, getD, atK, isC, isNonD, List.length_cons, List.length_nil, List.map_cons, List.map_nil, List.getElem?_cons_zero, List.getElem?_cons_succ, List.set_cons_zero, List.set_cons_succ, List.cons_append, List.nil_append, List.replicate_succ, List.replicate_zero, if_true, if_false, reduceIte, decide_eq_true_eq, L2.atI, L2.ixN, lenD1, itL, itT, itS, itR1, itR2, itEn, itZ, sFldD, DL.putK, end_get, end_set, List.mem_cons, List.not_mem_nil, or_false, false_or, or_true, true_or, D.lt, D.ltL, Bool.and_true, Bool.true_and, trim_app, gA, g0, sA, s0, List.append_assoc, List.length_append, trim_len, fits_of, fitsL_of, in63_of, in63F_of, in62_of, lo63_of, hi63_of, hi63F_of, few_of, le640_of]
  | fl => simp [Sq.d, Sq.cm, Kd.s, Cm.ob, mkF, finS, env0, sSeq, sAsg, sIf, sRet, sNil, qB, d2, dVar, dC, dIf, dFn, dCons, dNil, gTupD, gsCons, gsNil, gNm, Out.bind, Out.bindS, lit_store, lit_flush, lit_fence, eqS, mkO, F_Flush_init, b_Flush_init, od, mkF, finS, env0, sSeq, sNil, sIf, sSet, sAsg, sExpr, sRet, sRetN, sPass, sNo, sPar, sPar3, sFor, Out.bind, Out.bindS, dVar, dC, d1, d2, dNil, dCons, dTup, dLst, dLstC, dCall, dFn, dIf, dML, dSl, oNone, oSome, dFrz, qB, qNot, qAnd, qOr, qTru, eNot, eAnd, eOr, gNm, gTupD, gsCons, gsNil, gIx, addD, subD, mulD, fdivD, modD, powD, negD, ltD, leD, gtD, geD, cmpD, chainD, both, asI, asS, asB, intX, lenD, tupleD, listD, listC, absD, max2D, min2D, itemsL, itemsT, itemsS, ixD, getD, atK, isC, isNonD, List.length_cons, List.length_nil, List.map_cons, List.map_nil, List.getElem?_cons_zero, List.getElem?_cons_succ, List.set_cons_zero, List.set_cons_succ, List.cons_append, List.nil_append, List.replicate_succ, List.replicate_zero, if_true, if_false, reduceIte, decide_eq_true_eq, L2.atI, L2.ixN, lenD1, itL, itT, itS, itR1, itR2, itEn, itZ, sFldD, DL.putK, end_get, end_set, List.mem_cons, List.not_mem_nil, or_false, false_or, or_true, true_or, D.lt, D.ltL, Bool.and_true, Bool.true_and, trim_app, gA, g0, sA, s0, List.append_assoc, List.length_append, trim_len, fits_of, fitsL_of, in63_of, in63F_of, in62_of, lo63_of, hi63_of, hi63F_of, few_of, le640_of]
  | fe => simp [Sq.d, Sq.cm, Kd.s, Cm.ob, mkF, finS, env0, sSeq, sAsg, sIf, sRet, sNil, qB, d2, dVar, dC, dIf, dFn, dCons, dNil, gTupD, gsCons, gsNil, gNm, Out.bind, Out.bindS, lit_store, lit_flush, lit_fence, eqS, mkF, finS, env0, sSeq, sNil, sIf, sSet, sAsg, sExpr, sRet, sRetN, sPass, sNo, sPar, sPar3, sFor, Out.bind, Out.bindS, dVar, dC, d1, d2, dNil, dCons, dTup, dLst, dLstC, dCall, dFn, dIf, dML, dSl, oNone, oSome, dFrz, qB, qNot, qAnd, qOr, qTru, eNot, eAnd, eOr, gNm, gTupD, gsCons, gsNil, gIx, addD, subD, mulD, fdivD, modD, powD, negD, ltD, leD, gtD, geD, cmpD, chainD, both, asI, asS, asB, intX, lenD, tupleD, listD, listC, absD, max2D, min2D, itemsL, itemsT, itemsS, ixD, getD, atK, isC, isNonD, List.length_cons, List.length_nil, List.map_cons, List.map_nil, List.getElem?_cons_zero, List.getElem?_cons_succ, List.set_cons_zero, List.set_cons_succ, List.cons_append, List.nil_append, List.replicate_succ, List.replicate_zero, if_true, if_false, reduceIte, decide_eq_true_eq, L2.atI, L2.ixN, lenD1, itL, itT, itS, itR1, itR2, itEn, itZ, sFldD, DL.putK, end_get, end_set, List.mem_cons, List.not_mem_nil, or_false, false_or, or_true, true_or, D.lt, D.ltL, Bool.and_true, Bool.true_and, trim_app, gA, g0, sA, s0, List.append_assoc, List.length_append, trim_len, fits_of, fitsL_of, in63_of, in63F_of, in62_of, lo63_of, hi63_of, hi63F_of, few_of, le640_of]
/-- v is a list of specs: frozen, or a cell -/
def IsQ (v : D) (r : List Sq) (cs : List Cell) : Prop := v = .lst (sqs r) ∨ ∃ q, v = .cell q ∧ cs[q]? = some (.lst (sqs r))
theorem IsQ.items {v : D} {r : List Sq} {cs : List Cell} (h : IsQ v r cs) : itemsL cs v = some (sqs r) := by
  rcases h with h | ⟨q, h, e⟩
  · subst h; rfl
  · subst h
    simp [itemsL, e]
theorem IsQ.app {v : D} {r : List Sq} {cs : List Cell} (h : IsQ v r cs) (e : List Cell) : IsQ v r (cs ++ e) := by
  rcases h with h | ⟨q, h, k⟩
  · exact .inl h
  · exact .inr ⟨q, h, app_get k⟩
theorem IsQ.it {v : D} {r : List Sq} {cs : List Cell} (h : IsQ v r cs) (i : Nat) (env : DL.Env) (he : env[i]? = some (some v)) : ∃ chk : List Cell → Prop, itL (dVar i) env cs = .ok ⟨sqs r, chk⟩ cs ∧ ∀ cs', IsQ v r cs' → chk cs' := by
  rcases h with h | ⟨q, h, e⟩
  · subst h
    refine ⟨noChk, ?_, fun _ _ => trivial⟩
    simp [itL, dVar, he, Out.bind]
  · subst h
    refine ⟨fun cs => cs[q]? = some (.lst (sqs r)), ?_, fun cs' h' => ?_⟩
    · simp [itL, dVar, he, Out.bind, e]
    · rcases h' with h' | ⟨q', h', k⟩
      · cases h'
      · cases h'; exact k
theorem lt_cm (xs : List Int) (n : Nat) : True := trivial
theorem F_law_program_ok {xs : List Int} (x1 : 1 ≤ xs.length) (h6 : xs.length ≤ 6) (hy : ∀ y ∈ xs, 1 ≤ y ∧ y ≤ 4) {v : D} {r : List Sq} {cs : List Cell} (h : IsQ v r cs) (hr : r.length ≤ 200) (ho : ∀ s ∈ r, s.ok xs) :
    F_law_program [.lst (ilist xs), v] cs = .ok (progD xs (cms r)) cs := by
  have em := F_memory xs cs x1 h6 hy
  change mkO od 7 F_Memory_init [.lst (ilist xs)] cs = .ok (memD xs) cs at em
  obtain ⟨chk, e1, e2⟩ := h.it 1 [some (.lst (ilist xs)), some v, none] rfl
  have hlc : dLc [2] (itL (dVar 1)) (gNm 2) pYes ce_law_program_0 [some (.lst (ilist xs)), some v, none] cs = .ok (.lst (obs (cms r))) cs := by
    unfold obs cms
    rw [List.map_map]
    refine lc_map (chk := chk) r Sq.d (Cm.ob ∘ Sq.cm) e1 (fun acc => e2 _ (h.app _)) (by omega) (fun x hx acc => ⟨_, rfl, ?_⟩) (ltL_map fun x hx => lt_ob _ _)
    show ce_law_program_0 [_, _, some x.d] _ = _
    simp only [ce_law_program_0, dFn, dCons, dNil, dVar, Out.bind, List.getElem?_cons_zero, List.getElem?_cons_succ, F_command_ok]
    rfl
  have hp := F_program xs (cms r) cs h6 (by unfold cms; simpa using hr) (fun c hc => by
    obtain ⟨s, hs, rfl⟩ := List.mem_map.mp hc
    exact cm_ok (ho s hs))
  unfold F_law_program b_law_program
  simp only [mkF, finS, env0, sRet, dFn, dCons, dNil, Out.bind, Out.bindS, List.length_cons, List.length_nil, List.map_cons, List.map_nil, List.cons_append, List.nil_append, List.replicate_succ, List.replicate_zero, Nat.reduceAdd, Nat.reduceSub, if_true, hlc]
  simp only [dVar, List.getElem?_cons_zero, em, hlc, hp, lt_prog, trim_self]
/-! ### the law's text -/
theorem nd3 : ([Sum.inr (Str.ofString "store"), Sum.inr (Str.ofString "flush"), Sum.inr (Str.ofString "fence")] : List Key).Nodup := by decide +kernel
def kdN (s : Sq) : List Int := match s.k with
  | .st => [(s.a : Int), s.b, s.c]
  | .fl => [(s.a : Int)]
  | .fe => []
theorem kdN_eq (s : Sq) : kdN s = nums s.cm := by
  obtain ⟨k, a, b, c⟩ := s
  cases k <;> rfl
theorem ne_sf : (Str.ofString "store" = Str.ofString "flush") = False := eq_false (by decide +kernel)
theorem ne_se : (Str.ofString "store" = Str.ofString "fence") = False := eq_false (by decide +kernel)
theorem ne_fe : (Str.ofString "flush" = Str.ofString "fence") = False := eq_false (by decide +kernel)
theorem disp_nums (s : Sq) (e0 e1 e6 e7 : Option D) (cs : List Cell) : dTr (d2 (dDisp (((dC (.str (Str.ofString "store"))), (dLst (dCons (dVar 3) (dCons (dVar 4) (dCons (dVar 5) dNil))))) :: (((dC (.str (Str.ofString "flush"))), (dLst (dCons (dVar 3) dNil))) :: (((dC (.str (Str.ofString "fence"))), (dLst dNil)) :: [])))) (dVar 2) dgetD)
    [e0, e1, some (.str s.k.s), some (.int s.a), some (.int s.b), some (.int s.c), e6, e7] cs = .ok (.lst (ilist (kdN s))) cs := by
  have f3 : fits 3 := fits_of (by omega)
  have f1 : fits 1 := fits_of (by omega)
  have f0 : fits 0 := fits_of (by omega)
  have e : ∀ cs, dDisp (((dC (.str (Str.ofString "store"))), (dLst (dCons (dVar 3) (dCons (dVar 4) (dCons (dVar 5) dNil))))) :: (((dC (.str (Str.ofString "flush"))), (dLst (dCons (dVar 3) dNil))) :: (((dC (.str (Str.ofString "fence"))), (dLst dNil)) :: [])))
      [e0, e1, some (.str s.k.s), some (.int s.a), some (.int s.b), some (.int s.c), e6, e7] cs = .ok (.cell cs.length) (cs ++ [.dic [Sum.inr (Str.ofString "store"), Sum.inr (Str.ofString "flush"), Sum.inr (Str.ofString "fence")] [.lst [.int s.a, .int s.b, .int s.c], .lst [.int s.a], .lst []]]) := fun cs => by
    unfold dDisp
    simp only [dPairs, dC, dLst, dCons, dNil, dVar, Out.bind, List.getElem?_cons_zero, List.getElem?_cons_succ, List.length_cons, List.length_nil, Nat.reduceAdd, if_pos f3, if_pos f1, if_pos f0, keysD, keyD, end_get, end_set]
    rw [if_pos (by refine ⟨nd3, by decide, ?_, ?_⟩ <;> first | trivial | rfl)]
  have g : dgetD (.cell cs.length) (.str s.k.s) (cs ++ [.dic [Sum.inr (Str.ofString "store"), Sum.inr (Str.ofString "flush"), Sum.inr (Str.ofString "fence")] [.lst [.int s.a, .int s.b, .int s.c], .lst [.int s.a], .lst []]]) = .ok (.lst (ilist (kdN s))) (cs ++ [.dic [Sum.inr (Str.ofString "store"), Sum.inr (Str.ofString "flush"), Sum.inr (Str.ofString "fence")] [.lst [.int s.a, .int s.b, .int s.c], .lst [.int s.a], .lst []]]) := by
    unfold dgetD
    simp only [itemsK, end_get, keyD]
    obtain ⟨k, a, b, c⟩ := s
    cases k with
    | st => simp [lkD, Kd.s, kdN, ilist]
    | fl => simp [lkD, Kd.s, kdN, ilist, ne_sf]
    | fe => simp [lkD, Kd.s, kdN, ilist, ne_se, ne_fe]
  unfold dTr
  simp only [d2, e, dVar, Out.bind, List.getElem?_cons_zero, List.getElem?_cons_succ, g]
  rw [show D.lt cs.length (.lst (ilist (kdN s))) = D.ltL cs.length (ilist (kdN s)) from rfl, ltL_il, trim_app]
/-- one row of the text -/
theorem join_words (s : Sq) (hs : smallC s.cm) (cs : List Cell) : joinD (Str.ofString " ") (.lst (.str s.k.s :: (kdN s).map fun z => .str (SX.S (numZ z)))) cs = .ok (.str (SX.S (cmdL s.cm))) cs := by
  have e : (D.str s.k.s :: (kdN s).map fun z => D.str (SX.S (numZ z))) = (wordsL s.cm).map fun w => D.str (SX.S w) := by
    rw [kdN_eq]
    unfold wordsL
    rw [List.map_cons, List.map_map]
    have : s.k.s = SX.S (kd s.cm) := by
      obtain ⟨k, a, b, c⟩ := s
      cases k
      · exact lit_store
      · exact lit_flush
      · exact lit_fence
    rw [this]
    rfl
  have hl := numsL_len hs
  have j : joinOk ((((wordsL s.cm).map fun w => SX.S w).map (·.length)).sum + ((wordsL s.cm).map fun w => SX.S w).length * (Str.ofString " ").length) := joinOk_of (by
    rw [List.map_map]
    have := sum_le ((·.length) ∘ fun w => SX.S w) 32 (wordsL s.cm) fun w hw => by
      show (SX.S w).length ≤ 32
      rw [SX.S_len]
      unfold wordsL at hw
      rcases List.mem_cons.mp hw with q | q
      · subst q
        cases s.cm <;> simp [kd]
      · obtain ⟨z, hz, rfl⟩ := List.mem_map.mp q
        exact hl z hz
    have l4 : (wordsL s.cm).length ≤ 4 := by cases s.cm <;> simp [wordsL, nums]
    rw [lit_blank, SX.S_len, List.length_map]
    simp
    omega)
  rw [e]
  unfold joinD
  simp only [itemsS, itemsL, Option.bind, strs_map (fun w => SX.S w), if_pos j]
  rw [lit_blank]
  show Out.ok (D.str (Txt.join (SX.S [32]) ((wordsL s.cm).map SX.S))) cs = _
  rw [SX.join_S]
  rfl
theorem text_loop {xs : List Int} (h6 : xs.length ≤ 6) (hy : ∀ y ∈ xs, 1 ≤ y ∧ y ≤ 4) (v : D) (r0 : List Sq) (cs : List Cell) (chk : List Cell → Prop) (hc : ∀ e, chk (cs ++ e)) : ∀ (r : List Sq) (acc : List Cm) (e2 e3 e4 e5 e6 e7 : Option D), (∀ s ∈ r, s.ok xs) → acc.length + r.length ≤ 1000 →
    ∃ f2 f3 f4 f5 f6 f7, forL chk (gTupD 4 (gsCons (gNm 2) (gsCons (gNm 3) (gsCons (gNm 4) (gsCons (gNm 5) gsNil))))) lb_law_text_1 (sqs r) [some v, some (.cell cs.length), e2, e3, e4, e5, e6, e7] (cs ++ [.lst (acc.map fun k => .str (SX.S (cmdL k)))])
      = .nx [some v, some (.cell cs.length), f2, f3, f4, f5, f6, f7] (cs ++ [.lst ((acc ++ cms r).map fun k => .str (SX.S (cmdL k)))])
  | [], acc, e2, e3, e4, e5, e6, e7, _, _ => ⟨e2, e3, e4, e5, e6, e7, by
    show forL chk _ _ [] _ _ = _
    rw [show cms [] = [] from rfl, List.append_nil]
    exact forL_nil (hc _)⟩
  | s :: r, acc, e2, e3, e4, e5, e6, e7, ho, hl => by
    have so := ho s List.mem_cons_self
    have ss := cm_small h6 hy so
    obtain ⟨f2, f3, f4, f5, f6, f7, ih⟩ := text_loop h6 hy v r0 cs chk hc r (acc ++ [s.cm]) (some (.str s.k.s)) (some (.int s.a)) (some (.int s.b)) (some (.int s.c)) (some (.lst (ilist (kdN s)))) e7 (fun x hx => ho x (List.mem_cons_of_mem _ hx)) (by simp at hl ⊢; omega)
    refine ⟨f2, f3, f4, f5, f6, f7, ?_⟩
    have hg : ∀ z ∈ kdN s, lg1920 z := fun z hz => lg1920_of (by
      rw [kdN_eq] at hz
      have h1 := ss z hz
      unfold small at h1
      rcases Nat.eq_zero_or_pos z.natAbs with e | e
      · rw [e]; decide
      · exact (Nat.log2_lt (by omega)).mpr (Nat.lt_of_lt_of_le h1 (by decide +kernel)))
    have l3 : (kdN s).length ≤ 3 := by rw [kdN_eq]; cases s.cm <;> simp [nums]
    have hlc : ∀ (e1 : Option D) (cs : List Cell), dLc [7] (itL (dVar 6)) (gNm 7) pYes ce_law_text_0 [some v, e1, some (.str s.k.s), some (.int s.a), some (.int s.b), some (.int s.c), some (.lst (ilist (kdN s))), e7] cs = .ok (.lst ((kdN s).map fun z => .str (SX.S (numZ z)))) cs := fun e1 cs => by
      refine lc_map (chk := noChk) (kdN s) D.int (fun z => .str (SX.S (numZ z))) ?_ (fun _ => trivial) (by omega) (fun x hx acc => ⟨_, rfl, ?_⟩) (ltL_map fun x hx => rfl)
      · simp [itL, dVar, Out.bind, itemsL, ilist]
      · show ce_law_text_0 [_, _, _, _, _, _, _, some (.int x)] _ = _
        unfold ce_law_text_0
        simp only [dCall, dCons, dNil, dVar, Out.bind, List.getElem?_cons_zero, List.getElem?_cons_succ, strD, if_pos (hg x hx), numS_eq]
    have f1 : fits 1 := fits_of (by omega)
    have ad : ∀ cs, addD (.lst [.str s.k.s]) (.lst ((kdN s).map fun z => .str (SX.S (numZ z)))) cs = .ok (.lst (.str s.k.s :: (kdN s).map fun z => .str (SX.S (numZ z)))) cs := fun cs => by
      have f : fits ([D.str s.k.s].length + ((kdN s).map fun z => D.str (SX.S (numZ z))).length) := fits_of (by simp; omega)
      unfold addD
      simp only [both, asI, asS, itemsT, itemsL, if_pos f]
      rfl
    have hL : isL (cs ++ [.lst (acc.map fun k => .str (SX.S (cmdL k)))]) (.cell cs.length) = true := by simp [isL, itemsL]
    have hA : appendD (.cell cs.length) [.str (SX.S (cmdL s.cm))] (cs ++ [.lst (acc.map fun k => .str (SX.S (cmdL k)))]) = .ok .non (cs ++ [.lst ((acc ++ [s.cm]).map fun k => .str (SX.S (cmdL k)))]) := by
      have fl : fitsL (acc.map fun k => D.str (SX.S (cmdL k))).length := fitsL_of (by simp at hl ⊢; omega)
      unfold appendD
      simp only [end_get, if_pos fl, end_set]
      simp
    show forL chk _ _ (s.d :: sqs r) _ _ = _
    rw [forL_step (env1 := [some v, some (.cell cs.length), some (.str s.k.s), some (.int s.a), some (.int s.b), some (.int s.c), e6, e7]) (env2 := [some v, some (.cell cs.length), some (.str s.k.s), some (.int s.a), some (.int s.b), some (.int s.c), some (.lst (ilist (kdN s))), e7]) (cs2 := cs ++ [.lst ((acc ++ [s.cm]).map fun k => .str (SX.S (cmdL k)))]) (hc _) rfl (by
      unfold lb_law_text_1
      simp only [sSeq, sSet, sExpr, Out.bind, Out.bindS, disp_nums s, List.set_cons_zero, List.set_cons_succ, dML, dCons, dNil, dM1, dC, dVar, List.getElem?_cons_zero, List.getElem?_cons_succ, hL, if_true]
      simp only [d2, dLst, dCons, dNil, dVar, Out.bind, List.length_cons, List.length_nil, Nat.reduceAdd, if_pos f1, List.getElem?_cons_zero, List.getElem?_cons_succ, hlc, ad, join_words s ss, hA])]
    rw [ih]
    show SO.nx _ (cs ++ [Cell.lst ((acc ++ [s.cm] ++ cms r).map _)]) = SO.nx _ (cs ++ [Cell.lst ((acc ++ cms (s :: r)).map _)])
    rw [show acc ++ cms (s :: r) = acc ++ [s.cm] ++ cms r by unfold cms; simp]
theorem cms_ok {xs : List Int} {r : List Sq} (ho : ∀ s ∈ r, s.ok xs) : ∀ c ∈ cms r, c.ok xs := fun c hc => by
  obtain ⟨s, hs, rfl⟩ := List.mem_map.mp hc
  exact cm_ok (ho s hs)
theorem cms_small {xs : List Int} (h6 : xs.length ≤ 6) (hy : ∀ y ∈ xs, 1 ≤ y ∧ y ≤ 4) {r : List Sq} (ho : ∀ s ∈ r, s.ok xs) : ∀ c ∈ cms r, smallC c := fun c hc => by
  obtain ⟨s, hs, rfl⟩ := List.mem_map.mp hc
  exact cm_small h6 hy (ho s hs)
theorem cms_len (r : List Sq) : (cms r).length = r.length := by unfold cms; simp
theorem F_law_text_ok {xs : List Int} (h6 : xs.length ≤ 6) (hy : ∀ y ∈ xs, 1 ≤ y ∧ y ≤ 4) {v : D} {r : List Sq} {cs : List Cell} (h : IsQ v r cs) (hr : r.length ≤ 200) (ho : ∀ s ∈ r, s.ok xs) :
    F_law_text [v] cs = .ok (.str (SX.S (progL (cms r)))) cs := by
  obtain ⟨chk, e1, e2⟩ := (h.app [.lst []]).it 0 [some v, some (.cell cs.length), none, none, none, none, none, none] rfl
  obtain ⟨f2, f3, f4, f5, f6, f7, e⟩ := text_loop h6 hy v r cs chk (fun e => e2 _ (h.app e)) r [] none none none none none none ho (by simp; omega)
  rw [List.nil_append] at e
  change forL chk _ _ (sqs r) _ (cs ++ [.lst []]) = _ at e
  have f0 : fits 0 := fits_of (by omega)
  have hE : eqC false 20 (.cell cs.length) (.lst []) (cs ++ [.lst (cms r |>.map fun k => .str (SX.S (cmdL k)))]) = .ok (.bl (decide (r = []))) (cs ++ [.lst (cms r |>.map fun k => .str (SX.S (cmdL k)))]) := by
    have okl : ∀ xs : List Cm, D.okL false (xs.map fun k => D.str (SX.S (cmdL k))) 19 = true := fun xs => by
      induction xs with
      | nil => simp [D.okL]
      | cons x xs ih =>
        rw [List.map_cons]
        unfold D.okL
        rw [ih]; simp [D.okE]
    unfold eqC
    simp only [resL, end_get]
    have o1 : D.okE false (.lst ((cms r).map fun k => .str (SX.S (cmdL k)))) 20 = true := by
      unfold D.okE; exact okl _
    have o2 : D.okE false (.lst []) 20 = true := by simp [D.okE, D.okL]
    rw [o1, o2]
    cases r with
    | nil => simp [cms, eqD, eqL]
    | cons s r => simp [cms, eqD, eqL]
  unfold F_law_text b_law_text
  simp only [mkF, finS, env0, sSeq, sSet, sFor, sRet, Out.bind, Out.bindS, dLstC, dCons, dNil, List.length_cons, List.length_nil, List.map_cons, List.map_nil, List.cons_append, List.nil_append, List.replicate_succ, List.replicate_zero, Nat.reduceAdd, Nat.reduceSub, if_true, if_pos f0, List.set_cons_zero, List.set_cons_succ, e1, e]
  by_cases hn : r = []
  · subst hn
    have e0 : SX.S (progL (cms [])) = Str.ofString "none" := lit_none.symm
    rw [e0]
    simp only [dIf, qB, d2, dVar, dC, dLst, dNil, Out.bind, List.getElem?_cons_zero, List.getElem?_cons_succ, List.length_nil, if_pos f0, hE, decide_true, if_true, D.lt, trim_app]
  · have hn2 : cms r ≠ [] := fun z => hn (List.map_eq_nil_iff.mp z)
    have hj := join_cmds (cms r) (cms_small h6 hy ho) (by rw [cms_len]; exact hr) hn2 (.cell cs.length) (cs ++ [.lst ((cms r).map fun k => .str (SX.S (cmdL k)))]) (by simp [itemsS, itemsL])
    simp only [dIf, qB, d2, dM1, dVar, dC, dLst, dNil, Out.bind, List.getElem?_cons_zero, List.getElem?_cons_succ, List.length_nil, if_pos f0, hE, decide_eq_false hn, Bool.false_eq_true, if_false, hj, D.lt, trim_app]
end K71
end

section
set_option Elab.async false
set_option linter.all false
set_option maxRecDepth 100000
namespace K71
open PySem L2 DL
def shD : Cm → D
  | .S l w n => .tup [.str (Str.ofString "store"), .int l, .int w, .int n]
  | .F l => .tup [.str (Str.ofString "flush"), .int l]
  | .X => .tup [.str (Str.ofString "fence")]
theorem cutL_to {α : Type} (xs : List α) (l : Nat) : DL.cutL xs none (some (l : Int)) = xs.take l := by
  have e : HT.sIx xs.length xs.length (some (l : Int)) = min l xs.length := HT.sIx_nat _ _ l
  unfold DL.cutL
  rw [e, HT.sIx_none]
  simp only [List.drop_zero, Nat.sub_zero]
  rcases Nat.le_total l xs.length with h | h
  · rw [Nat.min_eq_left h]
  · rw [Nat.min_eq_right h, List.take_of_length_le h, List.take_of_length_le (Nat.le_refl _)]
theorem shown_loop (a : Option D) (cs : List Cell) : ∀ (r acc : List Cm) (e2 : Option D), acc.length + r.length ≤ 1000 →
    ∃ f2, forL noChk (gNm 2) lb_law_shown_0 (obs r) [a, some (.cell cs.length), e2] (cs ++ [.lst (acc.map shD)]) = .nx [a, some (.cell cs.length), f2] (cs ++ [.lst ((acc ++ r).map shD)])
  | [], acc, e2, _ => ⟨e2, by rw [List.append_nil]; exact forL_nil trivial⟩
  | k :: r, acc, e2, hl => by
    obtain ⟨f2, ih⟩ := shown_loop a cs r (acc ++ [k]) (some k.ob) (by simp at hl ⊢; omega)
    refine ⟨f2, ?_⟩
    have hL : isL (cs ++ [.lst (acc.map shD)]) (.cell cs.length) = true := by simp [isL, itemsL]
    have fl : fitsL (acc.map shD).length := fitsL_of (by simp at hl ⊢; omega)
    have hA : appendD (.cell cs.length) [shD k] (cs ++ [.lst (acc.map shD)]) = .ok .non (cs ++ [.lst ((acc ++ [k]).map shD)]) := by
      unfold appendD
      simp only [end_get, if_pos fl, end_set]
      simp
    have f4 : fits 4 := fits_of (by omega)
    have f2' : fits 2 := fits_of (by omega)
    have f1 : fits 1 := fits_of (by omega)
    show forL noChk (gNm 2) lb_law_shown_0 (k.ob :: obs r) _ _ = _
    rw [forL_step (env1 := [a, some (.cell cs.length), some k.ob]) (env2 := [a, some (.cell cs.length), some k.ob]) (cs2 := cs ++ [.lst ((acc ++ [k]).map shD)]) trivial rfl (by
      unfold lb_law_shown_0
      cases k with
      | S l w n =>
        have i : ∀ cs, isiD isi_Store (Cm.S l w n).ob cs = .ok (.bl true) cs := fun cs => rfl
        have g2 : ∀ cs, getD od 2 (Cm.S l w n).ob cs = .ok (.int (l : Int)) cs := fun cs => rfl
        have g3 : ∀ cs, getD od 3 (Cm.S l w n).ob cs = .ok (.int w) cs := fun cs => rfl
        have g6 : ∀ cs, getD od 6 (Cm.S l w n).ob cs = .ok (.int n) cs := fun cs => rfl
        simp only [sIf, sExpr, qB, d1, dVar, dC, dML, dTup, dCons, dNil, Out.bind, Out.bindS, List.getElem?_cons_zero, List.getElem?_cons_succ, List.length_cons, List.length_nil, Nat.reduceAdd, i, g2, g3, g6, if_true, hL, if_pos f4]
        have hA' : appendD (.cell cs.length) [.tup [.str (Str.ofString "store"), .int l, .int w, .int n]] (cs ++ [.lst (acc.map shD)]) = .ok .non (cs ++ [.lst ((acc ++ [Cm.S l w n]).map shD)]) := hA
        rw [hA']
      | F l =>
        have i : ∀ cs, isiD isi_Store (Cm.F l).ob cs = .ok (.bl false) cs := fun cs => rfl
        have i2 : ∀ cs, isiD isi_Flush (Cm.F l).ob cs = .ok (.bl true) cs := fun cs => rfl
        have g2 : ∀ cs, getD od 2 (Cm.F l).ob cs = .ok (.int (l : Int)) cs := fun cs => rfl
        simp only [sIf, sExpr, qB, d1, dVar, dC, dIf, dML, dTup, dCons, dNil, Out.bind, Out.bindS, List.getElem?_cons_zero, List.getElem?_cons_succ, List.length_cons, List.length_nil, Nat.reduceAdd, i, i2, g2, Bool.false_eq_true, if_false, if_true, hL, if_pos f2']
        have hA' : appendD (.cell cs.length) [.tup [.str (Str.ofString "flush"), .int l]] (cs ++ [.lst (acc.map shD)]) = .ok .non (cs ++ [.lst ((acc ++ [Cm.F l]).map shD)]) := hA
        rw [hA']
      | X =>
        have i : ∀ cs, isiD isi_Store (Cm.X).ob cs = .ok (.bl false) cs := fun cs => rfl
        have i2 : ∀ cs, isiD isi_Flush (Cm.X).ob cs = .ok (.bl false) cs := fun cs => rfl
        simp only [sIf, sExpr, qB, d1, dVar, dC, dIf, dML, dTup, dCons, dNil, Out.bind, Out.bindS, List.getElem?_cons_zero, List.getElem?_cons_succ, List.length_cons, List.length_nil, Nat.reduceAdd, i, i2, Bool.false_eq_true, if_false, if_true, hL, if_pos f1]
        have hA' : appendD (.cell cs.length) [.tup [.str (Str.ofString "fence")]] (cs ++ [.lst (acc.map shD)]) = .ok .non (cs ++ [.lst ((acc ++ [Cm.X]).map shD)]) := hA
        rw [hA'])]
    rw [ih]
    simp
theorem lt_sh (k : Cm) (n : Nat) : D.lt n (shD k) = true := by cases k <;> rfl
theorem F_shown (r : List Cm) (cs : List Cell) (hr : r.length ≤ 900) : F_law_shown [.tup (obs r)] cs = .ok (.lst (r.map shD)) cs := by
  obtain ⟨f2, e⟩ := shown_loop (some (.tup (obs r))) cs r [] none (by simp; omega)
  rw [List.nil_append] at e
  change forL noChk (gNm 2) lb_law_shown_0 (obs r) _ (cs ++ [.lst []]) = _ at e
  have f0 : fits 0 := fits_of (by omega)
  have lt : D.lt cs.length (.lst (r.map shD)) = true := ltL_map fun x _ => lt_sh x _
  unfold F_law_shown b_law_shown
  simp only [mkF, finS, env0, sSeq, sSet, sFor, itT, itemsT, sRet, dFrz, Out.bind, Out.bindS, dLstC, dNil, dVar, List.length_cons, List.length_nil, List.map_cons, List.map_nil, List.cons_append, List.nil_append, List.replicate_succ, List.replicate_zero, Nat.reduceAdd, Nat.reduceSub, if_true, if_pos f0, List.getElem?_cons_zero, List.getElem?_cons_succ, List.set_cons_zero, List.set_cons_succ, e, end_get, end_set, lt, trim_app]
theorem nd3' : ([Sum.inr (Str.ofString "store"), Sum.inr (Str.ofString "flush"), Sum.inr (Str.ofString "fence")] : List Key).Nodup := nd3
def kdn (s : Sq) : Nat := match s.k with
  | .st => 4
  | .fl => 2
  | .fe => 1
theorem disp_n (s : Sq) (e0 : Option D) (cs : List Cell) : dTr (d2 (dDisp (((dC (.str (Str.ofString "store"))), (dC (.int 4))) :: (((dC (.str (Str.ofString "flush"))), (dC (.int 2))) :: (((dC (.str (Str.ofString "fence"))), (dC (.int 1))) :: [])))) (d2 (dVar 1) (dC (.int 0)) ixD) dgetD)
    [e0, some s.d] cs = .ok (.int (kdn s : Nat)) cs := by
  have e : ∀ cs, dDisp (((dC (.str (Str.ofString "store"))), (dC (.int 4))) :: (((dC (.str (Str.ofString "flush"))), (dC (.int 2))) :: (((dC (.str (Str.ofString "fence"))), (dC (.int 1))) :: [])))
      [e0, some s.d] cs = .ok (.cell cs.length) (cs ++ [.dic [Sum.inr (Str.ofString "store"), Sum.inr (Str.ofString "flush"), Sum.inr (Str.ofString "fence")] [.int 4, .int 2, .int 1]]) := fun cs => by
    unfold dDisp
    simp only [dPairs, dC, Out.bind, List.length_cons, List.length_nil, Nat.reduceAdd, keysD, keyD, end_get, end_set]
    rw [if_pos (by refine ⟨nd3, by decide, ?_, ?_⟩ <;> first | trivial | rfl)]
  have ix : ∀ cs, ixD s.d (.int 0) cs = .ok (.str s.k.s) cs := fun cs => rfl
  have g : dgetD (.cell cs.length) (.str s.k.s) (cs ++ [.dic [Sum.inr (Str.ofString "store"), Sum.inr (Str.ofString "flush"), Sum.inr (Str.ofString "fence")] [.int 4, .int 2, .int 1]]) = .ok (.int (kdn s : Nat)) (cs ++ [.dic [Sum.inr (Str.ofString "store"), Sum.inr (Str.ofString "flush"), Sum.inr (Str.ofString "fence")] [.int 4, .int 2, .int 1]]) := by
    unfold dgetD
    simp only [itemsK, end_get, keyD]
    obtain ⟨k, a, b, c⟩ := s
    cases k with
    | st => simp [lkD, Kd.s, kdn]
    | fl => simp [lkD, Kd.s, kdn, ne_sf]
    | fe => simp [lkD, Kd.s, kdn, ne_se, ne_fe]
  unfold dTr
  simp only [d2, e, dVar, dC, Out.bind, List.getElem?_cons_zero, List.getElem?_cons_succ, ix, g]
  rw [show D.lt cs.length (.int (kdn s : Nat)) = true from rfl, trim_app]
theorem F_due {v : D} {r : List Sq} {cs : List Cell} (h : IsQ v r cs) (hr : r.length ≤ 900) : F_law_due [v] cs = .ok (.lst ((cms r).map shD)) cs := by
  obtain ⟨chk, e1, e2⟩ := h.it 0 [some v, none] rfl
  have hlc : dLc [1] (itL (dVar 0)) (gNm 1) pYes ce_law_due_0 [some v, none] cs = .ok (.lst ((cms r).map shD)) cs := by
    unfold cms
    rw [List.map_map]
    refine lc_map (chk := chk) r Sq.d (shD ∘ Sq.cm) e1 (fun acc => e2 _ (h.app _)) (by omega) (fun x hx acc => ⟨_, rfl, ?_⟩) (ltL_map fun x hx => lt_sh _ _)
    show ce_law_due_0 [_, some x.d] _ = _
    unfold ce_law_due_0
    have q : ∀ cs, sliceD x.d none (some ((kdn x : Nat) : Int)) cs = .ok (shD x.cm) cs := fun cs => by
      unfold Sq.d sliceD
      simp only [cutL_to]
      obtain ⟨k, a, b, c⟩ := x
      cases k <;> rfl
    simp only [dSl, dVar, oNone, oSome, asI, Out.bind, List.getElem?_cons_zero, List.getElem?_cons_succ, disp_n x, q]
    rfl
  have lt : D.lt cs.length (.lst ((cms r).map shD)) = true := ltL_map fun x _ => lt_sh x _
  unfold F_law_due b_law_due
  simp only [mkF, finS, env0, sRet, Out.bindS, List.length_cons, List.length_nil, List.map_cons, List.map_nil, List.cons_append, List.nil_append, List.replicate_succ, List.replicate_zero, Nat.reduceAdd, Nat.reduceSub, if_true, hlc, lt, trim_self]
end K71
end

section
set_option Elab.async false
set_option linter.all false
set_option maxRecDepth 100000
namespace K71
open PySem L2 DL
theorem ok_sh (r : List Cm) : D.okE false (.lst (r.map shD)) 20 = true := by
  have : ∀ r : List Cm, D.okL false (r.map shD) 19 = true := fun r => by
    induction r with
    | nil => simp [D.okL]
    | cons k r ih =>
      rw [List.map_cons]
      unfold D.okL
      rw [ih]
      cases k <;> simp [shD, D.okE, D.okL]
  unfold D.okE; exact this r
/-- one of the five programs -/
theorem body_ok {xs : List Int} (x1 : 1 ≤ xs.length) (h6 : xs.length ≤ 6) (hy : ∀ y ∈ xs, 1 ≤ y ∧ y ≤ 4) {v : D} {r : List Sq} {cs : List Cell} (h : IsQ v r cs) (hr : r.length ≤ 200) (ho : ∀ s ∈ r, s.ok xs) (e0 e3 e4 e5 e6 e8 e9 e10 e11 : Option D) :
    ∃ f9 f10 f11, lb_law_right_0 [e0, some (.lst (ilist xs)), some (memD xs), e3, e4, e5, e6, some v, e8, e9, e10, e11] cs = .nx [e0, some (.lst (ilist xs)), some (memD xs), e3, e4, e5, e6, some v, e8, f9, f10, f11] cs := by
  refine ⟨some (.str (SX.S (progL (cms r)))), some (progD xs (cms r)), some (progD xs (cms r)), ?_⟩
  have t1 := F_law_text_ok h6 hy h hr ho
  have t2 := F_law_program_ok x1 h6 hy h hr ho
  have hc := cms_ok ho
  have hs := cms_small h6 hy ho
  have hl : (cms r).length ≤ 200 := by rw [cms_len]; exact hr
  have t3 := F_read_program_ok xs (cms r) cs h6 hl hc hs
  have t4 := F_program_text_ok xs (cms r) cs hl hs
  have t5 := own_prog true xs (cms r) cs
  have t6 := F_shown (cms r) cs (by omega)
  have t7 := F_due h (by omega)
  have t8 := neC_refl (ok_sh (cms r)) (fun _ h => by cases h) cs
  have t9 : neC false 20 (.tup (ilist xs)) (.tup (ilist xs)) cs = .ok (.bl false) cs := neC_refl (by unfold D.okE; exact okL_il xs) (fun _ h => by cases h) cs
  have g7 : ∀ cs, getD od 7 (progD xs (cms r)) cs = .ok (memD xs) cs := fun cs => rfl
  have g8 : ∀ cs, getD od 8 (progD xs (cms r)) cs = .ok (.tup (obs (cms r))) cs := fun cs => rfl
  have g5 : ∀ cs, getD od 5 (memD xs) cs = .ok (.tup (ilist xs)) cs := fun cs => rfl
  have tp : ∀ cs, tupleD [.lst (ilist xs)] cs = .ok (.tup (ilist xs)) cs := fun cs => rfl
  unfold lb_law_right_0
  simp only [sSeq, sSet, sIf, sRet, sNil, qOr, qB, d1, d2, dVar, dFn, dCall, dCons, dNil, Out.bind, Out.bindS, List.getElem?_cons_zero, List.getElem?_cons_succ, List.set_cons_zero, List.set_cons_succ, t1, t2, t3, t4, str_ne, t5, if_true, g8, t6, t7, t8, g7, g5, tp, t9, Bool.false_eq_true, if_false]
theorem joinL_app (s : List Nat) : ∀ (a b : List (List Nat)), a ≠ [] → b ≠ [] → TL.joinL s (a ++ b) = TL.joinL s a ++ (s ++ TL.joinL s b)
  | [], _, h, _ => absurd rfl h
  | [p], [], _, h => absurd rfl h
  | [p], q :: r, _, _ => rfl
  | p :: q :: a, b, _, hb => by
    show p ++ (s ++ TL.joinL s (q :: a ++ b)) = (p ++ (s ++ TL.joinL s (q :: a))) ++ (s ++ TL.joinL s b)
    rw [joinL_app s (q :: a) b (by simp) hb]
    simp
theorem prog_app {a b : List Cm} (ha : a ≠ []) (hb : b ≠ []) : progL (a ++ b) = progL a ++ ([44, 32] ++ progL b) := by
  unfold progL
  rw [if_neg (by simp [ha]), if_neg ha, if_neg hb, List.map_append, joinL_app _ _ _ (by simpa using ha) (by simpa using hb)]
theorem cms_app (a b : List Sq) : cms (a ++ b) = cms a ++ cms b := by unfold cms; simp
theorem sqs_app (a b : List Sq) : sqs (a ++ b) = sqs a ++ sqs b := by unfold sqs; simp
theorem sqs_rep (t : Nat) (b : List Sq) : (List.replicate t (sqs b)).flatten = sqs ((List.replicate t b).flatten) := by
  induction t with
  | zero => rfl
  | succ n ih => rw [List.replicate_succ, List.flatten_cons, ih, List.replicate_succ, List.flatten_cons, sqs_app]
theorem right_ok {n : Nat} {cs : List Cell} {c : Cell} (h : cs[n]? = some c) (hs : isS c) : ∃ cs', F_law_right [.cell n] cs = .ok (.bl true) cs' := by
  have hn := live_len h
  obtain ⟨xs, c1, s1, x1, h6, hy, e1⟩ := sizes_ok h hs
  have em := F_memory xs (cs.set n c1) x1 h6 hy
  change mkO od 7 F_Memory_init [.lst (ilist xs)] (cs.set n c1) = .ok (memD xs) (cs.set n c1) at em
  obtain ⟨r1, c2, s2, _, l1, o1, e2⟩ := specs_ok x1 h6 hy (set_get (c := c1) hn) s1 0 12 (by omega) (by omega) (by omega)
  rw [List.set_set, List.length_set] at e2
  have hn2 : n < (cs.set n c2).length := by simpa using hn
  have ln : ∀ c, (cs.set n c).length = cs.length := fun c => by simp
  have gone : (cs.set n c2 ++ [Cell.lst (sqs r1)]).set cs.length .gone = cs.set n c2 ++ [.gone] := by
    have := end_set (cs := cs.set n c2) (c := .lst (sqs r1)) (d := .gone)
    rwa [ln] at this
  have gone1 : (cs.set n c2 ++ [Cell.lst (sqs r1)])[cs.length]? = some (.lst (sqs r1)) := by
    have := end_get (cs := cs.set n c2) (c := .lst (sqs r1))
    rwa [ln] at this
  obtain ⟨r2, c3, s3, l20, l2, o2, e3⟩ := specs_ok (cs := cs.set n c2 ++ [.gone]) x1 h6 hy (app_get (set_get hn)) s2 1 12 (by omega) (by omega) (by omega)
  rw [app_set hn2, List.set_set] at e3
  generalize hq : (cs.set n c2 ++ [Cell.gone]).length = q at e3
  have lq : q = cs.length + 1 := by rw [← hq]; simp
  have lB : ∀ c, (cs.set n c ++ [Cell.gone]).length = q := fun c => by rw [lq]; simp
  have gB : ∀ c y, ((cs.set n c ++ [Cell.gone]) ++ [y])[q]? = some y := fun c y => by
    have := end_get (cs := cs.set n c ++ [Cell.gone]) (c := y)
    rwa [lB] at this
  have sB : ∀ c y z, ((cs.set n c ++ [Cell.gone]) ++ [y]).set q z = (cs.set n c ++ [Cell.gone]) ++ [z] := fun c y z => by
    have := end_set (cs := cs.set n c ++ [Cell.gone]) (c := y) (d := z)
    rwa [lB] at this
  obtain ⟨ed, c4, d4, s4, e4⟩ := pick_ok (cs := (cs.set n c3 ++ [.gone]) ++ [.lst (sqs r2)]) (app_get (app_get (set_get hn))) s3 [.int (10000000000000000000000000000000 - 1), .int (1 - 10000000000000000000000000000000), .int 1000000000000000000000000000000, .int 0] (by simp) (by simp)
  rw [app_set (by simp; omega), app_set (by simpa using hn), List.set_set] at e4
  have hed : ∃ z, ed = .int z ∧ small z := by
    simp only [List.mem_cons, List.not_mem_nil, or_false] at d4
    rcases d4 with r | r | r | r <;> exact ⟨_, r, by unfold small; omega⟩
  obtain ⟨ez, rfl, hz⟩ := hed
  generalize hr3 : r2.set 0 ⟨.st, 0, 0, ez⟩ = r3
  have l3 : r3.length = r2.length := by rw [← hr3]; simp
  have ez0 : Sq.ok xs ⟨.st, 0, 0, ez⟩ := by
    refine ⟨⟨xs[0]'(by omega), List.getElem?_eq_getElem (show 0 < xs.length by omega), (show (0 : Int) ≤ 0 by decide), ?_⟩, hz⟩
    have := hy _ (List.getElem_mem (show 0 < xs.length by omega))
    show (0 : Int) < xs[0]
    omega
  have o3 : ∀ s ∈ r3, s.ok xs := fun s hs => by
    rw [← hr3] at hs
    rcases List.mem_or_eq_of_mem_set hs with k | k
    · exact o2 s k
    · subst k; exact ez0
  have sq3 : (sqs r2).set 0 (.tup [.str (Str.ofString "store"), .int 0, .int 0, .int ez]) = sqs r3 := by
    rw [← hr3]
    unfold sqs
    rw [List.map_set]
    rfl
  generalize hA : (cs.set n c4 ++ [Cell.gone]) ++ [Cell.lst (sqs r3)] = A
  have gA2 : A[q]? = some (.lst (sqs r3)) := by rw [← hA]; exact gB c4 _
  have q3 : IsQ (.lst (sqs r1)) r1 A := .inl rfl
  have q4 : IsQ (.cell q) r3 A := .inr ⟨q, rfl, gA2⟩
  have ad0 : ∀ cs', cs'[q]? = some (.lst (sqs r3)) → addD (.lst (sqs r1)) (.cell q) cs' = .ok (.lst (sqs (r1 ++ r3))) cs' := fun cs' g => by
    have f : fits ((sqs r1).length + (sqs r3).length) := fits_of (by rw [sqs_len, sqs_len]; omega)
    unfold addD
    simp only [both, asI, asS, itemsT, itemsL, g, if_pos f, sqs_app]
  have q5 : IsQ (.lst (sqs (r1 ++ r3))) (r1 ++ r3) A := .inl rfl
  have o5 : ∀ s ∈ r1 ++ r3, s.ok xs := fun s hs => by
    rcases List.mem_append.mp hs with k | k
    · exact o1 s k
    · exact o3 s k
  have l5 : (r1 ++ r3).length ≤ 24 := by rw [List.length_append]; omega
  have q6 : IsQ (.lst []) [] A := .inl rfl
  generalize hlong : (List.replicate 200 (r1 ++ r3)).flatten = long
  have ol : ∀ s ∈ long, s.ok xs := fun s hs => by
    rw [← hlong] at hs
    obtain ⟨l, hl, hs⟩ := List.mem_flatten.mp hs
    rw [List.eq_of_mem_replicate hl] at hs
    exact o5 s hs
  have ml : ∀ cs, mulD (.lst (sqs (r1 ++ r3))) (.int 200) cs = .ok (.lst (sqs long)) cs := fun cs => by
    unfold mulD both itemsL itemsT asI
    simp only []
    rw [if_pos (in63F_of (by omega) (by omega) (by rw [sqs_len]; have : (r1 ++ r3).length * 200 ≤ 4800 := by omega
                                                   simpa using (by omega : (r1 ++ r3).length * 200 ≤ 1000000)))]
    rw [← hlong, ← sqs_rep]
    rfl
  have q7 : IsQ (.lst (sqs (long.take 200))) (long.take 200) A := .inl rfl
  have sl : ∀ cs, sliceD (.lst (sqs long)) none (some 200) cs = .ok (.lst (sqs (long.take 200))) cs := fun cs => by
    unfold sliceD
    simp only [itemsL]
    rw [show (some (200 : Int)) = some ((200 : Nat) : Int) from rfl, cutL_to]
    unfold sqs
    rw [List.map_take]
  obtain ⟨a9, a10, a11, b1⟩ := body_ok x1 h6 hy q3 (by omega) o1 (some (.cell n)) (some (.lst (sqs r1))) (some (.cell q)) (some (.int ez)) (some (.lst (sqs long))) none none none none
  obtain ⟨b9, b10, b11, b2⟩ := body_ok x1 h6 hy q4 (by omega) o3 (some (.cell n)) (some (.lst (sqs r1))) (some (.cell q)) (some (.int ez)) (some (.lst (sqs long))) none a9 a10 a11
  obtain ⟨c9, c10, c11, b3⟩ := body_ok x1 h6 hy q5 (by omega) o5 (some (.cell n)) (some (.lst (sqs r1))) (some (.cell q)) (some (.int ez)) (some (.lst (sqs long))) none b9 b10 b11
  obtain ⟨d9, d10, d11, b4⟩ := body_ok x1 h6 hy q6 (by simp) (fun s h => nomatch h) (some (.cell n)) (some (.lst (sqs r1))) (some (.cell q)) (some (.int ez)) (some (.lst (sqs long))) none c9 c10 c11
  obtain ⟨g9, g10, g11, b5⟩ := body_ok x1 h6 hy q7 (by simp; omega) (fun s hs => ol s (List.mem_of_mem_take hs)) (some (.cell n)) (some (.lst (sqs r1))) (some (.cell q)) (some (.int ez)) (some (.lst (sqs long))) none d9 d10 d11
  have efor : forL noChk (gNm 7) lb_law_right_0 [.lst (sqs r1), .cell q, .lst (sqs (r1 ++ r3)), .lst [], .lst (sqs (long.take 200))] [some (.cell n), some (.lst (ilist xs)), some (memD xs), some (.lst (sqs r1)), some (.cell q), some (.int ez), some (.lst (sqs long)), none, none, none, none, none] A
      = .nx [some (.cell n), some (.lst (ilist xs)), some (memD xs), some (.lst (sqs r1)), some (.cell q), some (.int ez), some (.lst (sqs long)), some (.lst (sqs (long.take 200))), none, g9, g10, g11] A := by
    rw [forL_step trivial rfl b1, forL_step trivial rfl b2, forL_step trivial rfl b3, forL_step trivial rfl b4, forL_step trivial rfl b5]
    exact forL_nil trivial
  have hb13 : ∀ c ∈ cms r1 ++ cms r3, c.ok xs := fun c hc => by rw [← cms_app] at hc; exact cms_ok o5 c hc
  have hs13 : ∀ c ∈ cms r1 ++ cms r3, smallC c := fun c hc => by rw [← cms_app] at hc; exact cms_small h6 hy o5 c hc
  have hl13 : (cms r1 ++ cms r3).length ≤ 200 := by rw [← cms_app, cms_len]; omega
  have t1 := F_law_text_ok h6 hy q3 (by omega) o1
  have t3 := F_law_text_ok h6 hy q4 (by omega) o3
  have t5 := F_law_text_ok h6 hy q5 (by omega) o5
  rw [cms_app] at t5
  have p1 := F_law_program_ok x1 h6 hy q3 (by omega) o1
  have p3 := F_law_program_ok x1 h6 hy q4 (by omega) o3
  have rd := F_read_program_ok xs (cms r1 ++ cms r3) A h6 hl13 hb13 hs13
  have pa := F_add xs (cms r1) (cms r3) A h6 hl13 hb13
  have oe := own_prog false xs (cms r1 ++ cms r3) A
  have f0 : fits 0 := fits_of (by omega)
  have f4 : fits 4 := fits_of (by omega)
  have f5 : fits 5 := fits_of (by omega)
  have eqr : ∀ cs, eqC false 20 (.lst (sqs r1)) (.lst []) cs = .ok (.bl (decide (r1 = []))) cs := fun cs => by
    have okl : ∀ xs : List Sq, D.okL false (sqs xs) 19 = true := fun xs => by
      induction xs with
      | nil => simp [D.okL, sqs]
      | cons x xs ih =>
        show D.okL false (x.d :: sqs xs) 19 = true
        unfold D.okL
        rw [ih]; simp [Sq.d, D.okE, D.okL]
    have o1' : D.okE false (.lst (sqs r1)) 20 = true := by unfold D.okE; exact okl _
    have o2' : D.okE false (.lst []) 20 = true := by simp [D.okE, D.okL]
    unfold eqC
    simp only [resL, o1', o2', Bool.and_self, if_true]
    cases r1 with
    | nil => simp [sqs, eqD, eqL]
    | cons s r => simp [sqs, eqD, eqL]
  have n3 : cms r3 ≠ [] := fun z => by
    have := congrArg List.length z
    rw [cms_len, l3] at this
    simp at this
    rw [this] at l20
    simp at l20
  -- the two texts together
  have btx : ∀ e0 e1 e2 e5 e6 e7 e8 e9 e10 e11, dIf (qB (d2 (dVar 3) (dLst dNil) (eqC false 20))) (dFn F_law_text (dCons (d2 (dVar 3) (dVar 4) addD) dNil)) (d2 (d2 (dFn F_law_text (dCons (dVar 3) dNil)) (dC (.str (Str.ofString ", "))) addD) (dFn F_law_text (dCons (dVar 4) dNil)) addD)
      [e0, e1, e2, some (.lst (sqs r1)), some (.cell q), e5, e6, e7, e8, e9, e10, e11] A = .ok (.str (SX.S (progL (cms r1 ++ cms r3)))) A := fun e0 e1 e2 e5 e6 e7 e8 e9 e10 e11 => by
    by_cases hn1 : r1 = []
    · simp only [dIf, qB, d2, dVar, dLst, dNil, dFn, dCons, Out.bind, List.getElem?_cons_zero, List.getElem?_cons_succ, List.length_nil, if_pos f0, eqr, decide_eq_true hn1, if_true, ad0 A gA2, t5]
    · have n1 : cms r1 ≠ [] := fun z => hn1 (List.map_eq_nil_iff.mp z)
      have pl1 := prog_len (cms_small h6 hy o1) (by rw [cms_len]; omega)
      have pl3 := prog_len (cms_small h6 hy o3) (by rw [cms_len]; omega)
      have s1' : ∀ cs, addD (.str (SX.S (progL (cms r1)))) (.str (Str.ofString ", ")) cs = .ok (.str (SX.S (progL (cms r1) ++ [44, 32]))) cs := fun cs => by
        have f : fits ((SX.S (progL (cms r1))).length + (SX.S [44, 32]).length) := fits_of (by rw [SX.S_len, SX.S_len]; simp; omega)
        rw [lit_comma]
        unfold addD
        simp only [both, asI, asS, if_pos f]
        rw [SX.S_cat]
      have s2' : ∀ cs, addD (.str (SX.S (progL (cms r1) ++ [44, 32]))) (.str (SX.S (progL (cms r3)))) cs = .ok (.str (SX.S (progL (cms r1 ++ cms r3)))) cs := fun cs => by
        have f : fits ((SX.S (progL (cms r1) ++ [44, 32])).length + (SX.S (progL (cms r3))).length) := fits_of (by rw [SX.S_len, SX.S_len]; simp; omega)
        unfold addD
        simp only [both, asI, asS, if_pos f]
        rw [SX.S_cat, prog_app n1 n3, List.append_assoc]
      simp only [dIf, qB, d2, dVar, dC, dLst, dNil, dFn, dCons, Out.bind, List.getElem?_cons_zero, List.getElem?_cons_succ, List.length_nil, if_pos f0, eqr, decide_eq_false hn1, Bool.false_eq_true, if_false, t1, s1', t3, s2']
  have pw31 : ∀ cs, powD (.int 10) (.int 31) cs = .ok (.int 10000000000000000000000000000000) cs := fun cs => by
    have p : CPow 10 31 := by unfold CPow; decide
    unfold powD; simp [both, asI, p]
  have pw30 : ∀ cs, powD (.int 10) (.int 30) cs = .ok (.int 1000000000000000000000000000000) cs := fun cs => by
    have p : CPow 10 30 := by unfold CPow; decide
    unfold powD; simp [both, asI, p]
  have sb : ∀ i j cs, subD (.int i) (.int j) cs = .ok (.int (i - j)) cs := fun _ _ _ => rfl
  have ixn : L2.ixN (sqs r2).length 0 = some 0 := by
    have : 0 < (sqs r2).length := by rw [sqs_len]; omega
    exact ixN_nat this
  have gix : gIx (dVar 4) (dC (.int 0)) (.tup [.str (Str.ofString "store"), .int 0, .int 0, .int ez]) [some (.cell n), some (.lst (ilist xs)), some (memD xs), some (.lst (sqs r1)), some (.cell q), some (.int ez), none, none, none, none, none, none] ((cs.set n c4 ++ [.gone]) ++ [.lst (sqs r2)])
      = .nx [some (.cell n), some (.lst (ilist xs)), some (memD xs), some (.lst (sqs r1)), some (.cell q), some (.int ez), none, none, none, none, none, none] A := by
    unfold gIx
    simp only [dVar, dC, Out.bindS, List.getElem?_cons_zero, List.getElem?_cons_succ, asI, gB, ixn, sB, sq3, hA]
  refine ⟨DL.trim cs A true, ?_⟩
  unfold F_law_right b_law_right
  simp only [mkF, finS, env0, sSeq, sSet, sAsg, sPar, sFor, itL, sRet, Out.bind, Out.bindS, List.length_cons, List.length_nil, List.map_cons, List.map_nil, List.cons_append, List.nil_append, List.replicate_succ, List.replicate_zero, Nat.reduceAdd, Nat.reduceSub, if_true, dFn, dCons, dNil, dC, dVar, dLst, dTup, d2, dSl, oNone, oSome, dFrz, List.getElem?_cons_zero, List.getElem?_cons_succ, List.set_cons_zero, List.set_cons_succ, e1, em, e2, gone1, gone, e3, pw31, pw30, sb, if_pos f4, e4]
  rw [gix]
  simp only [List.getElem?_cons_zero, List.getElem?_cons_succ, List.set_cons_zero, List.set_cons_succ, ad0 A gA2, ml, sl, asI, if_pos f0, if_pos f5, itemsL, efor, Out.bind, Out.bindS, List.length_cons, List.length_nil, Nat.reduceAdd, btx]
  simp only [rd, p1, p3, pa, oe, D.lt]
  rfl
theorem law_loop (e0 : Option D) : ∀ (ns : List Int) (e1 e2 : Option D) (cs : List Cell), ∃ f1 f2 cs', forL noChk (gNm 1) lb_law_0 (ilist ns) [e0, e1, e2] cs = .nx [e0, f1, f2] cs'
  | [], e1, e2, cs => ⟨e1, e2, cs, forL_nil trivial⟩
  | z :: ns, e1, e2, cs => by
    obtain ⟨c, hs, es⟩ := F_source z cs
    obtain ⟨cs1, er⟩ := right_ok (cs := cs ++ [c]) (n := cs.length) end_get hs
    obtain ⟨f1, f2, cs', ih⟩ := law_loop e0 ns (some (.int z)) (some (.cell cs.length)) cs1
    refine ⟨f1, f2, cs', ?_⟩
    show forL noChk (gNm 1) lb_law_0 (.int z :: ilist ns) _ _ = _
    rw [forL_step (env1 := [e0, some (.int z), e2]) (env2 := [e0, some (.int z), some (.cell cs.length)]) (cs2 := cs1) trivial rfl (by
      unfold lb_law_0
      simp only [sSeq, sSet, sIf, sNil, qNot, qB, dFn, dCons, dNil, dVar, Out.bind, Out.bindS, List.getElem?_cons_zero, List.getElem?_cons_succ, List.set_cons_zero, List.set_cons_succ, es, er, Bool.not_true, Bool.false_eq_true, if_false])]
    exact ih
theorem law_true (ns : List Int) (hl : ns.length ≤ 63) (hb : ∀ z ∈ ns, Builtin.Int.intBits z ≤ 1048576) : ∃ cs, F_law [.lst (ns.map D.int)] [] = .ok (.bl true) cs := by
  show ∃ cs, F_law [.lst (ilist ns)] [] = .ok (.bl true) cs
  have f1 : fits 1 := fits_of (by omega)
  have ad : ∀ cs, addD (.lst (ilist ns)) (.lst [.int 0]) cs = .ok (.lst (ilist (ns ++ [0]))) cs := fun cs => by
    have f : fits ((ilist ns).length + [D.int 0].length) := fits_of (by rw [il_len]; simp; omega)
    unfold addD
    simp only [both, asI, asS, itemsT, itemsL, if_pos f]
    unfold ilist; simp
  have sl : ∀ cs, sliceD (.lst (ilist (ns ++ [0]))) none (some 4) cs = .ok (.lst (ilist ((ns ++ [0]).take 4))) cs := fun cs => by
    unfold sliceD
    simp only [itemsL]
    rw [show (some (4 : Int)) = some ((4 : Nat) : Int) from rfl, cutL_to]
    unfold ilist
    rw [List.map_take]
  obtain ⟨g1, g2, cs', e⟩ := law_loop (some (.lst (ilist ns))) ((ns ++ [0]).take 4) none none []
  unfold F_law b_law
  simp only [mkF, finS, env0, sSeq, sFor, itL, dSl, oNone, oSome, asI, d2, dLst, dCons, dNil, dVar, dC, Out.bind, Out.bindS, List.length_cons, List.length_nil, List.map_cons, List.map_nil, List.cons_append, List.nil_append, List.replicate_succ, List.replicate_zero, Nat.reduceAdd, Nat.reduceSub, if_true, if_pos f1, List.getElem?_cons_zero, ad, sl, itemsL, e, sRet]
  exact ⟨_, rfl⟩
end K71
end

section
set_option Elab.async false
set_option linter.all false
set_option maxRecDepth 100000
set_option maxHeartbeats 0
namespace K71
open PySem PySem.Spec L2 DL
def top (i : Nat) : Stmt := PySem.Challenge.pw_lateststore_k71_programs_written_and_rea.main.body.getD i (.Pass ⟨0, 0, 0, 0⟩)
abbrev st_law_source : Stmt := (top 31)
def dd_law_source : He.DefD := ⟨("_law_source", none), "_law_source", "_law_source", defArgs st_law_source, defBody st_law_source, defScope st_law_source, [], []⟩
abbrev st_law_draw : Stmt := (top 32)
def dd_law_draw : He.DefD := ⟨("_law_draw", none), "_law_draw", "_law_draw", defArgs st_law_draw, defBody st_law_draw, defScope st_law_draw, [], []⟩
abbrev st_law_sizes : Stmt := (top 34)
def dd_law_sizes : He.DefD := ⟨("_law_sizes", none), "_law_sizes", "_law_sizes", defArgs st_law_sizes, defBody st_law_sizes, defScope st_law_sizes, [], []⟩
abbrev st_Memory_init : Stmt := ((C8.clsBody (top 14)).getD 0 (.Pass ⟨0, 0, 0, 0⟩))
def dd_Memory_init : He.DefD := ⟨("Memory", some "__init__"), "__init__", "Memory.__init__", defArgs st_Memory_init, defBody st_Memory_init, defScope st_Memory_init, [], []⟩
abbrev st_law_pick : Stmt := (top 33)
def dd_law_pick : He.DefD := ⟨("_law_pick", none), "_law_pick", "_law_pick", defArgs st_law_pick, defBody st_law_pick, defScope st_law_pick, [], []⟩
abbrev st_law_number : Stmt := (top 35)
def dd_law_number : He.DefD := ⟨("_law_number", none), "_law_number", "_law_number", defArgs st_law_number, defBody st_law_number, defScope st_law_number, [], []⟩
abbrev st_law_specs : Stmt := (top 36)
def dd_law_specs : He.DefD := ⟨("_law_specs", none), "_law_specs", "_law_specs", defArgs st_law_specs, defBody st_law_specs, defScope st_law_specs, [], []⟩
abbrev st_law_text : Stmt := (top 39)
def dd_law_text : He.DefD := ⟨("_law_text", none), "_law_text", "_law_text", defArgs st_law_text, defBody st_law_text, defScope st_law_text, [], []⟩
abbrev st_Memory_check_line : Stmt := ((C8.clsBody (top 14)).getD 3 (.Pass ⟨0, 0, 0, 0⟩))
def dd_Memory_check_line : He.DefD := ⟨("Memory", some "check_line"), "check_line", "Memory.check_line", defArgs st_Memory_check_line, defBody st_Memory_check_line, defScope st_Memory_check_line, [], []⟩
abbrev st_Memory_check_word : Stmt := ((C8.clsBody (top 14)).getD 4 (.Pass ⟨0, 0, 0, 0⟩))
def dd_Memory_check_word : He.DefD := ⟨("Memory", some "check_word"), "check_word", "Memory.check_word", defArgs st_Memory_check_word, defBody st_Memory_check_word, defScope st_Memory_check_word, [], []⟩
abbrev st_Store_check : Stmt := ((C8.clsBody (top 16)).getD 3 (.Pass ⟨0, 0, 0, 0⟩))
def dd_Store_check : He.DefD := ⟨("Store", some "check"), "check", "Store.check", defArgs st_Store_check, defBody st_Store_check, defScope st_Store_check, [], []⟩
abbrev st_Flush_check : Stmt := ((C8.clsBody (top 17)).getD 3 (.Pass ⟨0, 0, 0, 0⟩))
def dd_Flush_check : He.DefD := ⟨("Flush", some "check"), "check", "Flush.check", defArgs st_Flush_check, defBody st_Flush_check, defScope st_Flush_check, [], []⟩
abbrev st_Command_check : Stmt := ((C8.clsBody (top 15)).getD 0 (.Pass ⟨0, 0, 0, 0⟩))
def dd_Command_check : He.DefD := ⟨("Command", some "check"), "check", "Command.check", defArgs st_Command_check, defBody st_Command_check, defScope st_Command_check, [], []⟩
abbrev st_check_commands : Stmt := (top 19)
def dd_check_commands : He.DefD := ⟨("check_commands", none), "check_commands", "check_commands", defArgs st_check_commands, defBody st_check_commands, defScope st_check_commands, [], []⟩
abbrev st_Program_init : Stmt := ((C8.clsBody (top 20)).getD 0 (.Pass ⟨0, 0, 0, 0⟩))
def dd_Program_init : He.DefD := ⟨("Program", some "__init__"), "__init__", "Program.__init__", defArgs st_Program_init, defBody st_Program_init, defScope st_Program_init, [], []⟩
abbrev st_Store_init : Stmt := ((C8.clsBody (top 16)).getD 0 (.Pass ⟨0, 0, 0, 0⟩))
def dd_Store_init : He.DefD := ⟨("Store", some "__init__"), "__init__", "Store.__init__", defArgs st_Store_init, defBody st_Store_init, defScope st_Store_init, [], []⟩
abbrev st_Flush_init : Stmt := ((C8.clsBody (top 17)).getD 0 (.Pass ⟨0, 0, 0, 0⟩))
def dd_Flush_init : He.DefD := ⟨("Flush", some "__init__"), "__init__", "Flush.__init__", defArgs st_Flush_init, defBody st_Flush_init, defScope st_Flush_init, [], []⟩
abbrev st_law_command : Stmt := (top 37)
def dd_law_command : He.DefD := ⟨("_law_command", none), "_law_command", "_law_command", defArgs st_law_command, defBody st_law_command, defScope st_law_command, [], []⟩
abbrev st_law_program : Stmt := (top 38)
def dd_law_program : He.DefD := ⟨("_law_program", none), "_law_program", "_law_program", defArgs st_law_program, defBody st_law_program, defScope st_law_program, [], []⟩
abbrev st_read_number : Stmt := (top 25)
def dd_read_number : He.DefD := ⟨("read_number", none), "read_number", "read_number", defArgs st_read_number, defBody st_read_number, defScope st_read_number, [], []⟩
abbrev st_read_command : Stmt := (top 27)
def dd_read_command : He.DefD := ⟨("read_command", none), "read_command", "read_command", defArgs st_read_command, defBody st_read_command, defScope st_read_command, [], []⟩
abbrev st_read_program : Stmt := (top 29)
def dd_read_program : He.DefD := ⟨("read_program", none), "read_program", "read_program", defArgs st_read_program, defBody st_read_program, defScope st_read_program, [], []⟩
abbrev st_command_text : Stmt := (top 26)
def dd_command_text : He.DefD := ⟨("command_text", none), "command_text", "command_text", defArgs st_command_text, defBody st_command_text, defScope st_command_text, [], []⟩
abbrev st_program_text : Stmt := (top 28)
def dd_program_text : He.DefD := ⟨("program_text", none), "program_text", "program_text", defArgs st_program_text, defBody st_program_text, defScope st_program_text, [], []⟩
abbrev st_Memory_kind : Stmt := ((C8.clsBody (top 14)).getD 1 (.Pass ⟨0, 0, 0, 0⟩))
def dd_Memory_kind : He.DefD := ⟨("Memory", some "kind"), "kind", "Memory.kind", defArgs st_Memory_kind, defBody st_Memory_kind, defScope st_Memory_kind, [], []⟩
abbrev st_Store_kind : Stmt := ((C8.clsBody (top 16)).getD 1 (.Pass ⟨0, 0, 0, 0⟩))
def dd_Store_kind : He.DefD := ⟨("Store", some "kind"), "kind", "Store.kind", defArgs st_Store_kind, defBody st_Store_kind, defScope st_Store_kind, [], []⟩
abbrev st_Flush_kind : Stmt := ((C8.clsBody (top 17)).getD 1 (.Pass ⟨0, 0, 0, 0⟩))
def dd_Flush_kind : He.DefD := ⟨("Flush", some "kind"), "kind", "Flush.kind", defArgs st_Flush_kind, defBody st_Flush_kind, defScope st_Flush_kind, [], []⟩
abbrev st_Fence_kind : Stmt := ((C8.clsBody (top 18)).getD 0 (.Pass ⟨0, 0, 0, 0⟩))
def dd_Fence_kind : He.DefD := ⟨("Fence", some "kind"), "kind", "Fence.kind", defArgs st_Fence_kind, defBody st_Fence_kind, defScope st_Fence_kind, [], []⟩
abbrev st_Program_kind : Stmt := ((C8.clsBody (top 20)).getD 1 (.Pass ⟨0, 0, 0, 0⟩))
def dd_Program_kind : He.DefD := ⟨("Program", some "kind"), "kind", "Program.kind", defArgs st_Program_kind, defBody st_Program_kind, defScope st_Program_kind, [], []⟩
abbrev st_Memory_facts : Stmt := ((C8.clsBody (top 14)).getD 2 (.Pass ⟨0, 0, 0, 0⟩))
def dd_Memory_facts : He.DefD := ⟨("Memory", some "facts"), "facts", "Memory.facts", defArgs st_Memory_facts, defBody st_Memory_facts, defScope st_Memory_facts, [], []⟩
abbrev st_Store_facts : Stmt := ((C8.clsBody (top 16)).getD 2 (.Pass ⟨0, 0, 0, 0⟩))
def dd_Store_facts : He.DefD := ⟨("Store", some "facts"), "facts", "Store.facts", defArgs st_Store_facts, defBody st_Store_facts, defScope st_Store_facts, [], []⟩
abbrev st_Flush_facts : Stmt := ((C8.clsBody (top 17)).getD 2 (.Pass ⟨0, 0, 0, 0⟩))
def dd_Flush_facts : He.DefD := ⟨("Flush", some "facts"), "facts", "Flush.facts", defArgs st_Flush_facts, defBody st_Flush_facts, defScope st_Flush_facts, [], []⟩
abbrev st_Thing_facts : Stmt := ((C8.clsBody (top 13)).getD 0 (.Pass ⟨0, 0, 0, 0⟩))
def dd_Thing_facts : He.DefD := ⟨("Thing", some "facts"), "facts", "Thing.facts", defArgs st_Thing_facts, defBody st_Thing_facts, defScope st_Thing_facts, [], []⟩
abbrev st_Program_facts : Stmt := ((C8.clsBody (top 20)).getD 2 (.Pass ⟨0, 0, 0, 0⟩))
def dd_Program_facts : He.DefD := ⟨("Program", some "facts"), "facts", "Program.facts", defArgs st_Program_facts, defBody st_Program_facts, defScope st_Program_facts, [], []⟩
abbrev st_Thing_eq : Stmt := ((C8.clsBody (top 13)).getD 2 (.Pass ⟨0, 0, 0, 0⟩))
def dd_Thing_eq : He.DefD := ⟨("Thing", some "__eq__"), "__eq__", "Thing.__eq__", defArgs st_Thing_eq, defBody st_Thing_eq, defScope st_Thing_eq, [], []⟩
abbrev st_Thing_eq1 : Stmt := ((C8.clsBody (top 13)).getD 2 (.Pass ⟨0, 0, 0, 0⟩))
def dd_Thing_eq1 : He.DefD := ⟨("Thing", some "__eq__"), "__eq__", "Thing.__eq__", defArgs st_Thing_eq1, defBody st_Thing_eq1, defScope st_Thing_eq1, [], []⟩
abbrev st_law_shown : Stmt := (top 40)
def dd_law_shown : He.DefD := ⟨("_law_shown", none), "_law_shown", "_law_shown", defArgs st_law_shown, defBody st_law_shown, defScope st_law_shown, [], []⟩
abbrev st_law_due : Stmt := (top 41)
def dd_law_due : He.DefD := ⟨("_law_due", none), "_law_due", "_law_due", defArgs st_law_due, defBody st_law_due, defScope st_law_due, [], []⟩
abbrev st_Program_add : Stmt := ((C8.clsBody (top 20)).getD 3 (.Pass ⟨0, 0, 0, 0⟩))
def dd_Program_add : He.DefD := ⟨("Program", some "__add__"), "__add__", "Program.__add__", defArgs st_Program_add, defBody st_Program_add, defScope st_Program_add, [], []⟩
abbrev st_law_right : Stmt := (top 42)
def dd_law_right : He.DefD := ⟨("_law_right", none), "_law_right", "_law_right", defArgs st_law_right, defBody st_law_right, defScope st_law_right, [], []⟩
abbrev st_law : Stmt := (top 43)
def dd_law : He.DefD := ⟨("law", none), "law", "law", defArgs st_law, defBody st_law, defScope st_law, [], []⟩
def fn0 : List He.DefD := [dd_law_source, dd_law_draw, dd_law_sizes, dd_Memory_init, dd_law_pick, dd_law_number, dd_law_specs, dd_law_text, dd_Memory_check_line, dd_Memory_check_word, dd_Store_check, dd_Flush_check, dd_Command_check, dd_check_commands, dd_Program_init, dd_Store_init, dd_Flush_init, dd_law_command, dd_law_program, dd_read_number]
def fn1 : List He.DefD := [dd_read_command, dd_read_program, dd_command_text, dd_program_text, dd_Memory_kind, dd_Store_kind, dd_Flush_kind, dd_Fence_kind, dd_Program_kind, dd_Memory_facts, dd_Store_facts, dd_Flush_facts, dd_Thing_facts, dd_Program_facts, dd_Thing_eq, dd_Thing_eq1, dd_law_shown, dd_law_due, dd_Program_add, dd_law_right]
def fn2 : List He.DefD := [dd_law]
def fn : List He.DefD := fn0 ++ fn1 ++ fn2
def fa0 : List He.Fa := [.free "abs", .free "int", .glo "_law_source", .free "range", .glo "_law_draw", .glo "_law_sizes", .glo "Memory", .free "tuple", .free "len", .int "MOST_LINES" 6, .int "MOST_WORDS" 4, .glo "_law_pick", .glo "_law_number", .glo "_law_specs", .free "str", .glo "_law_text", .glo "Program", .int "MOST_COMMANDS" 200, .glo "check_commands", .glo "Store"]
def fa1 : List He.Fa := [.glo "Flush", .glo "Fence", .glo "_law_command", .glo "_law_program", .str "NONE" "none", .free "enumerate", .str "BETWEEN" ", ", .int "MOST_FIGURES" 31, .free "all", .str "FIGURES" "0123456789", .glo "read_number", .glo "read_command", .glo "read_program", .free "isinstance", .glo "command_text", .glo "program_text", .glo "Thing", .glo "_law_shown", .glo "_law_due", .meth "Program" "__add__"]
def fa2 : List He.Fa := [.glo "_law_right", .mkr "Memory", .cls "Memory", .meth "Memory" "check_line", .meth "Memory" "check_word", .cls "Store", .meth "Store" "check", .cls "Flush", .meth "Flush" "check", .cls "Fence", .meth "Fence" "check", .mkr "Program", .mkr "Store", .mkr "Flush", .meth "Memory" "kind", .meth "Store" "kind", .meth "Flush" "kind", .meth "Fence" "kind", .cls "Program", .meth "Program" "kind"]
def fa3 : List He.Fa := [.meth "Memory" "facts", .meth "Store" "facts", .meth "Flush" "facts", .meth "Fence" "facts", .meth "Program" "facts", .meth "Memory" "__eq__", .meth "Store" "__eq__", .meth "Flush" "__eq__", .meth "Fence" "__eq__", .meth "Program" "__eq__", .noat "Memory" "sizes", .noat "Store" "number", .noat "Store" "word", .noat "Store" "line", .noat "Flush" "line", .noat "Program" "commands", .noat "Program" "memory", .glo "law"]
def fa : List He.Fa := fa0 ++ fa1 ++ fa2 ++ fa3
def fb0 : List Fb := [.mk0 "Fence", .slf "Program", .meq "Fence" "check" "Command", .meq "Fence" "facts" "Thing", .meq "Memory" "__eq__" "Thing", .meq "Store" "__eq__" "Thing", .meq "Flush" "__eq__" "Thing", .meq "Fence" "__eq__" "Thing", .meq "Program" "__eq__" "Thing", .kitN "Flush", .isx "Memory", .kit "Memory" "Flush" false, .isx "Store", .kit "Store" "Flush" false, .isx "Flush", .kit "Flush" "Flush" true, .isx "Fence", .kit "Fence" "Flush" false, .isx "Program", .kit "Program" "Flush" false]
def fb1 : List Fb := [.kitN "Store", .kit "Memory" "Store" false, .kit "Store" "Store" true, .kit "Flush" "Store" false, .kit "Fence" "Store" false, .kit "Program" "Store" false, .kitN "Thing", .kit "Memory" "Thing" true, .kit "Store" "Thing" true, .kit "Flush" "Thing" true, .kit "Fence" "Thing" true, .kit "Program" "Thing" true, .own "Memory" ("Thing", some "__eq__"), .own "Store" ("Thing", some "__eq__"), .own "Flush" ("Thing", some "__eq__"), .own "Fence" ("Thing", some "__eq__"), .own "Program" ("Thing", some "__eq__"), .nf "Memory" "Memory", .nf "Memory" "Store", .nf "Memory" "Flush"]
def fb2 : List Fb := [.nf "Memory" "Fence", .nf "Memory" "Program", .nf "Store" "Memory", .nf "Store" "Store", .nf "Store" "Flush", .nf "Store" "Fence", .nf "Store" "Program", .nf "Flush" "Memory", .nf "Flush" "Store", .nf "Flush" "Flush", .nf "Flush" "Fence", .nf "Flush" "Program", .nf "Fence" "Memory", .nf "Fence" "Store", .nf "Fence" "Flush", .nf "Fence" "Fence", .nf "Fence" "Program", .nf "Program" "Memory", .nf "Program" "Store", .nf "Program" "Flush"]
def fb3 : List Fb := [.nf "Program" "Fence", .nf "Program" "Program"]
def fb : List Fb := fb0 ++ fb1 ++ fb2 ++ fb3
def names0 : List PySem.Str := ["_wall", "StoreError", "BadCount", "NoLine", "NoWord", "OtherMemory", "BadText", "FIGURES", "MOST_LINES", "MOST_WORDS", "MOST_COMMANDS", "Thing", "Memory", "Command", "Store", "Flush", "Fence", "check_commands", "Program", "NONE"]
def names1 : List PySem.Str := ["BETWEEN", "MOST_FIGURES", "read_number", "command_text", "read_command", "program_text", "read_program", "_law_source", "_law_draw", "_law_pick", "_law_sizes", "_law_number", "_law_specs", "_law_command", "_law_program", "_law_text", "_law_shown", "_law_due", "_law_right"]
def names : List PySem.Str := names0 ++ names1
abbrev TT (K : PySem.W.Frag) (xi : Option (Addr × Value × Option Addr)) : DL.Tab := ⟨nm, fun c => He.ga K (cn c), od, xi⟩
theorem nm_inj : ∀ i j, nm i = nm j → i = j := nmOf_inj (by decide +kernel)
section
variable {P : Program} {w : World} {K : PySem.W.Frag} {mg : PySem.Str → Option Value} {base : Heap}
theorem tabOk (z : Kn fa fn fb K mg) (xi) : TabOk K (TT K xi) := by
  intro c k hk
  have hk : k ∈ od c := hk
  unfold od at hk
  split at hk
  · exact ⟨z.cls 42, (show ∀ k ∈ od 7, NoAttr K (He.ga K "Memory") (nm k) from List.forall_mem_cons.mpr ⟨z.noat 70, fun _ h => nomatch h⟩) k hk⟩
  · exact ⟨z.cls 45, (show ∀ k ∈ od 9, NoAttr K (He.ga K "Store") (nm k) from List.forall_mem_cons.mpr ⟨z.noat 73, List.forall_mem_cons.mpr ⟨z.noat 72, List.forall_mem_cons.mpr ⟨z.noat 71, fun _ h => nomatch h⟩⟩⟩) k hk⟩
  · exact ⟨z.cls 47, (show ∀ k ∈ od 10, NoAttr K (He.ga K "Flush") (nm k) from List.forall_mem_cons.mpr ⟨z.noat 74, fun _ h => nomatch h⟩) k hk⟩
  · exact ⟨z.cls 58, (show ∀ k ∈ od 12, NoAttr K (He.ga K "Program") (nm k) from List.forall_mem_cons.mpr ⟨z.noat 76, List.forall_mem_cons.mpr ⟨z.noat 75, fun _ h => nomatch h⟩⟩) k hk⟩
  · exact absurd hk (by simp)

theorem ist_Flush (z : Kn fa fn fb K mg) (xi) : IsT K (TT K xi) (He.ga K "Flush") isi_Flush := by
  refine ⟨?_, z.kitN 9⟩
  intro p hp
  simp only [isi_Flush, List.mem_cons, List.not_mem_nil, or_false] at hp
  rcases hp with rfl | rfl | rfl | rfl | rfl
  · exact ⟨z.isx 10, z.kit 11⟩
  · exact ⟨z.isx 12, z.kit 13⟩
  · exact ⟨z.isx 14, z.kit 15⟩
  · exact ⟨z.isx 16, z.kit 17⟩
  · exact ⟨z.isx 18, z.kit 19⟩

theorem ist_Store (z : Kn fa fn fb K mg) (xi) : IsT K (TT K xi) (He.ga K "Store") isi_Store := by
  refine ⟨?_, z.kitN 20⟩
  intro p hp
  simp only [isi_Store, List.mem_cons, List.not_mem_nil, or_false] at hp
  rcases hp with rfl | rfl | rfl | rfl | rfl
  · exact ⟨z.isx 10, z.kit 21⟩
  · exact ⟨z.isx 12, z.kit 22⟩
  · exact ⟨z.isx 14, z.kit 23⟩
  · exact ⟨z.isx 16, z.kit 24⟩
  · exact ⟨z.isx 18, z.kit 25⟩

theorem ist_Thing (z : Kn fa fn fb K mg) (xi) : IsT K (TT K xi) (He.ga K "Thing") isi_Thing := by
  refine ⟨?_, z.kitN 26⟩
  intro p hp
  simp only [isi_Thing, List.mem_cons, List.not_mem_nil, or_false] at hp
  rcases hp with rfl | rfl | rfl | rfl | rfl
  · exact ⟨z.isx 10, z.kit 27⟩
  · exact ⟨z.isx 12, z.kit 28⟩
  · exact ⟨z.isx 14, z.kit 29⟩
  · exact ⟨z.isx 16, z.kit 30⟩
  · exact ⟨z.isx 18, z.kit 31⟩

theorem own_S (z : Kn fa fn fb K mg) (xi) : OwnS (TT K xi) K (He.fAd K ("Thing", some "__eq__")) ownCS := ⟨List.forall_mem_cons.mpr ⟨z.own 32, List.forall_mem_cons.mpr ⟨z.own 33, List.forall_mem_cons.mpr ⟨z.own 34, List.forall_mem_cons.mpr ⟨z.own 35, List.forall_mem_cons.mpr ⟨z.own 36, fun _ h => nomatch h⟩⟩⟩⟩⟩, List.forall_mem_cons.mpr ⟨(show ∀ c ∈ ownCS, PySem.W.notFirst K (He.ga K "Memory") (.ref (He.ga K (cn c))) = true from List.forall_mem_cons.mpr ⟨z.nf 37, List.forall_mem_cons.mpr ⟨z.nf 38, List.forall_mem_cons.mpr ⟨z.nf 39, List.forall_mem_cons.mpr ⟨z.nf 40, List.forall_mem_cons.mpr ⟨z.nf 41, fun _ h => nomatch h⟩⟩⟩⟩⟩), List.forall_mem_cons.mpr ⟨(show ∀ c ∈ ownCS, PySem.W.notFirst K (He.ga K "Store") (.ref (He.ga K (cn c))) = true from List.forall_mem_cons.mpr ⟨z.nf 42, List.forall_mem_cons.mpr ⟨z.nf 43, List.forall_mem_cons.mpr ⟨z.nf 44, List.forall_mem_cons.mpr ⟨z.nf 45, List.forall_mem_cons.mpr ⟨z.nf 46, fun _ h => nomatch h⟩⟩⟩⟩⟩), List.forall_mem_cons.mpr ⟨(show ∀ c ∈ ownCS, PySem.W.notFirst K (He.ga K "Flush") (.ref (He.ga K (cn c))) = true from List.forall_mem_cons.mpr ⟨z.nf 47, List.forall_mem_cons.mpr ⟨z.nf 48, List.forall_mem_cons.mpr ⟨z.nf 49, List.forall_mem_cons.mpr ⟨z.nf 50, List.forall_mem_cons.mpr ⟨z.nf 51, fun _ h => nomatch h⟩⟩⟩⟩⟩), List.forall_mem_cons.mpr ⟨(show ∀ c ∈ ownCS, PySem.W.notFirst K (He.ga K "Fence") (.ref (He.ga K (cn c))) = true from List.forall_mem_cons.mpr ⟨z.nf 52, List.forall_mem_cons.mpr ⟨z.nf 53, List.forall_mem_cons.mpr ⟨z.nf 54, List.forall_mem_cons.mpr ⟨z.nf 55, List.forall_mem_cons.mpr ⟨z.nf 56, fun _ h => nomatch h⟩⟩⟩⟩⟩), List.forall_mem_cons.mpr ⟨(show ∀ c ∈ ownCS, PySem.W.notFirst K (He.ga K "Program") (.ref (He.ga K (cn c))) = true from List.forall_mem_cons.mpr ⟨z.nf 57, List.forall_mem_cons.mpr ⟨z.nf 58, List.forall_mem_cons.mpr ⟨z.nf 59, List.forall_mem_cons.mpr ⟨z.nf 60, List.forall_mem_cons.mpr ⟨z.nf 61, fun _ h => nomatch h⟩⟩⟩⟩⟩), fun _ h => nomatch h⟩⟩⟩⟩⟩⟩
theorem sc_law_source : FnScope ["_law_cell"] ["_law_cell"] (defScope st_law_source) := C8.fnScope_by (by decide +kernel)
theorem df_law_source (z : Kn fa fn fb K mg) (xi) : DF P w K mg base (TT K xi) 1 (He.fAd K ("_law_source", none)) 1 F_law_source := by
  refine df_mk (z.fd 0 (d := dd_law_source) rfl rfl rfl) sc_law_source rfl rfl (fun _ _ _ _ _ _ us hl => match us, hl with | [_], _ => rfl) fun cdv A outer s H E hr => ?_
  exact (dss_one (ds_ret (de_lstC (da_cons (de_abs (z.free 0) (da_cons (de_var (pv 0)) da_nil)) (da_cons (de_mod (de_int1 (z.free 1) (da_cons (de_var (pv 0)) da_nil)) de_int) (da_cons de_int da_nil))))))
theorem sc_law_draw : FnScope ["_law_source_here", "_law_many", "_law_number_here", "_law_found"] ["_law_source_here", "_law_many"] (defScope st_law_draw) := C8.fnScope_by (by decide +kernel)
theorem df_law_draw (z : Kn fa fn fb K mg) (xi) : DF P w K mg base (TT K xi) 1 (He.fAd K ("_law_draw", none)) 2 F_law_draw := by
  refine df_mk (z.fd 1 (d := dd_law_draw) rfl rfl rfl) sc_law_draw rfl rfl (fun _ _ _ _ _ _ us hl => match us, hl with | [_, _], _ => rfl) fun cdv A outer s H E hr => ?_
  exact (dss_cons (ds_if (DC.tt (dc_ge (de_ix (de_var (pv 0)) de_int) (de_pow de_int de_int)))
  (dss_cons (ds_set sc_law_draw.nd (de_mod (de_int1 (z.free 1) (da_cons (de_ix (de_var (pv 0)) de_int) da_nil)) (de_var (pv 1))))
  (dss_cons (ds_asg (de_fdiv (de_ix (de_var (pv 0)) de_int) (de_var (pv 1))) (dg_ix rfl (de_var (pv 0)) de_int))
  (dss_one (ds_ret (de_var (pv 3))))))
  dss_nil)
  (dss_cons (ds_asg (de_add (de_ix (de_var (pv 0)) de_int) de_int) (dg_ix rfl (de_var (pv 0)) de_int))
  (dss_cons (ds_set sc_law_draw.nd (de_mod (de_int1 (z.free 1) (da_cons (de_mul (de_add (de_add (de_ix (de_var (pv 0)) de_int) (de_mul de_int (de_ix (de_var (pv 0)) de_int))) de_int) de_int) da_nil)) de_int))
  (dss_cons (ds_set sc_law_draw.nd (de_mod (de_int1 (z.free 1) (da_cons (de_mul (de_var (pv 2)) (de_add (de_fdiv (de_var (pv 2)) de_int) de_int)) da_nil)) de_int))
  (dss_one (ds_ret (de_mod (de_int1 (z.free 1) (da_cons (de_mod (de_int1 (z.free 1) (da_cons (de_add (de_fdiv (de_var (pv 2)) de_int) (de_mul (de_mod (de_int1 (z.free 1) (da_cons (de_var (pv 2)) da_nil)) de_int) de_int)) da_nil)) de_int) da_nil)) (de_var (pv 1)))))))))
theorem sc_law_sizes : FnScope ["_law_source_here", "_law_most", "_law_k"] ["_law_source_here", "_law_most"] (defScope st_law_sizes) := C8.fnScope_by (by decide +kernel)
theorem df_law_sizes (z : Kn fa fn fb K mg) (xi) : DF P w K mg base (TT K xi) 2 (He.fAd K ("_law_sizes", none)) 2 F_law_sizes := by
  refine df_mk (z.fd 2 (d := dd_law_sizes) rfl rfl rfl) sc_law_sizes rfl rfl (fun _ _ _ _ _ _ us hl => match us, hl with | [_, _], _ => rfl) fun cdv A outer s H E hr => ?_
  exact (dss_one (ds_ret (de_lc (de_lcC (own := [("_law_k", 2)]) rfl sc_law_sizes.nd (di_range1 rfl (z.free 3) (da_cons (de_add de_int (de_call (df_law_draw z xi) (z.glo 4) hr (takes_of rfl rfl rfl rfl) (da_cons (de_var (pv 0)) (da_cons (de_var (pv 1)) da_nil)))) da_nil)) (blk_by (by kernel_rfl)) (fun _ _ _ _ _ => (dgk_name (pg_name sc_law_sizes.nd (i := 2) rfl (by first | exact Or.inl rfl | exact Or.inr rfl)))) (fun _ _ _ _ _ => dts_nil) (fun _ _ _ _ _ => (de_add de_int (de_call (df_law_draw z xi) (z.glo 4) hr takes_no (da_cons (de_var (pv 0)) (da_cons de_int da_nil)))))))))
theorem sc_Memory_init : FnScope ["self", "sizes", "size"] ["self", "sizes"] (defScope st_Memory_init) := C8.fnScope_by (by decide +kernel)
theorem df_Memory_init (z : Kn fa fn fb K mg) (xi) : DF P w K mg base (TT K xi) 1 (He.fAd K ("Memory", some "__init__")) 2 F_Memory_init := by
  refine df_mk (z.fd 3 (d := dd_Memory_init) rfl rfl rfl) sc_Memory_init rfl rfl (fun _ _ _ _ _ _ us hl => match us, hl with | [_, _], _ => rfl) fun cdv A outer s H E hr => ?_
  exact (dss_cons (ds_fld (tabOk z xi) nm_inj rfl (k := 5) rfl (de_var (pv 0)) (de_tuple (z.free 7) (da_cons (de_var (pv 1)) da_nil)))
  (dss_cons (ds_if (dt_not (dt_chain op_le op_le de_int (de_len (z.free 8) (da_cons (de_get (tabOk z xi) nm_inj rfl (k := 5) rfl (de_var (pv 0))) da_nil)) (de_gint rfl (z.int 9))))
  (dss_one ds_no)
  dss_nil)
  (dss_one (ds_for (passes_of rfl) rfl (di_tup (de_get (tabOk z xi) nm_inj rfl (k := 5) rfl (de_var (pv 0)))) (dg_name (pg_name sc_Memory_init.nd (i := 2) rfl (by first | exact Or.inl rfl | exact Or.inr rfl)))
  (dss_one (ds_if (dt_not (dt_chain op_le op_le de_int (de_var (pv 2)) (de_gint rfl (z.int 10))))
  (dss_one ds_no)
  dss_nil))))))
theorem dk_Memory {X : Cx} (z : Kn fa fn fb K mg) (xi) (h1 : X.prog = P) (h2 : X.w = w) (h3 : X.K = K) (h4 : X.mg = mg) (h5 : X.base = base) : DK X (TT K xi) 1 7 1 F_Memory_init := by
  subst h1 h2 h3 h4 h5
  exact ⟨⟨_, z.mkr 41, df_Memory_init z xi⟩⟩
theorem sc_law_pick : FnScope ["_law_source_here", "_law_items"] ["_law_source_here", "_law_items"] (defScope st_law_pick) := C8.fnScope_by (by decide +kernel)
theorem df_law_pick (z : Kn fa fn fb K mg) (xi) : DF P w K mg base (TT K xi) 2 (He.fAd K ("_law_pick", none)) 2 F_law_pick := by
  refine df_mk (z.fd 4 (d := dd_law_pick) rfl rfl rfl) sc_law_pick rfl rfl (fun _ _ _ _ _ _ us hl => match us, hl with | [_, _], _ => rfl) fun cdv A outer s H E hr => ?_
  exact (dss_one (ds_ret (de_ix (de_var (pv 1)) (de_call (df_law_draw z xi) (z.glo 4) hr (takes_of rfl rfl rfl rfl) (da_cons (de_var (pv 0)) (da_cons (de_len (z.free 8) (da_cons (de_var (pv 1)) da_nil)) da_nil))))))
theorem sc_law_number : FnScope ["_law_source_here", "_law_great"] ["_law_source_here"] (defScope st_law_number) := C8.fnScope_by (by decide +kernel)
theorem df_law_number (z : Kn fa fn fb K mg) (xi) : DF P w K mg base (TT K xi) 3 (He.fAd K ("_law_number", none)) 1 F_law_number := by
  refine df_mk (z.fd 5 (d := dd_law_number) rfl rfl rfl) sc_law_number rfl rfl (fun _ _ _ _ _ _ us hl => match us, hl with | [_], _ => rfl) fun cdv A outer s H E hr => ?_
  exact (dss_cons (ds_set sc_law_number.nd (de_add (de_pow de_int de_int) (de_call (df_law_draw z xi) (z.glo 4) hr (takes_of rfl rfl rfl rfl) (da_cons (de_var (pv 0)) (da_cons (de_pow de_int de_int) da_nil)))))
  (dss_one (ds_ret (de_call (df_law_pick z xi) (z.glo 11) hr (takes_of rfl rfl rfl rfl) (da_cons (de_var (pv 0)) (da_cons (de_lst (da_cons de_int (da_cons de_int (da_cons de_int (da_cons (de_neg de_int) (da_cons de_int (da_cons (de_var (pv 1)) (da_cons (de_sub de_int (de_var (pv 1))) (da_cons (de_call (df_law_draw z xi) (z.glo 4) hr (takes_of rfl rfl rfl rfl) (da_cons (de_var (pv 0)) (da_cons de_int da_nil))) da_nil))))))))) da_nil))))))
theorem sc_law_specs : FnScope ["_law_source_here", "_law_sizes_so", "_law_least", "_law_most", "_law_result", "_law_k", "_law_kind", "_law_a"] ["_law_source_here", "_law_sizes_so", "_law_least", "_law_most"] (defScope st_law_specs) := C8.fnScope_by (by decide +kernel)
theorem df_law_specs (z : Kn fa fn fb K mg) (xi) : DF P w K mg base (TT K xi) 4 (He.fAd K ("_law_specs", none)) 4 F_law_specs := by
  refine df_mk (z.fd 6 (d := dd_law_specs) rfl rfl rfl) sc_law_specs rfl rfl (fun _ _ _ _ _ _ us hl => match us, hl with | [_, _, _, _], _ => rfl) fun cdv A outer s H E hr => ?_
  exact (dss_cons (ds_set sc_law_specs.nd (de_lstC da_nil))
  (dss_cons (ds_for (passes_of rfl) rfl (di_range1 rfl (z.free 3) (da_cons (de_add (de_var (pv 2)) (de_call (df_law_draw z xi) (z.glo 4) hr (takes_of rfl rfl rfl rfl) (da_cons (de_var (pv 0)) (da_cons (de_add (de_sub (de_var (pv 3)) (de_var (pv 2))) de_int) da_nil)))) da_nil)) (dg_name (pg_name sc_law_specs.nd (i := 5) rfl (by first | exact Or.inl rfl | exact Or.inr rfl)))
  (dss_cons (ds_set sc_law_specs.nd (de_call (df_law_pick z xi) (z.glo 11) hr (takes_of rfl rfl rfl rfl) (da_cons (de_var (pv 0)) (da_cons (de_lst (da_cons de_str (da_cons de_str (da_cons de_str (da_cons de_str (da_cons de_str (da_cons de_str da_nil))))))) da_nil))))
  (dss_cons (ds_set sc_law_specs.nd (de_call (df_law_draw z xi) (z.glo 4) hr (takes_of rfl rfl rfl rfl) (da_cons (de_var (pv 0)) (da_cons (de_len (z.free 8) (da_cons (de_var (pv 1)) da_nil)) da_nil))))
  (dss_one (ds_expr (de_append (de_var (pv 4)) (da_cons (de_tup (da_cons (de_var (pv 6)) (da_cons (de_var (pv 7)) (da_cons (de_call (df_law_draw z xi) (z.glo 4) hr (takes_of rfl rfl rfl rfl) (da_cons (de_var (pv 0)) (da_cons (de_ix (de_var (pv 1)) (de_var (pv 7))) da_nil))) (da_cons (de_call (df_law_number z xi) (z.glo 12) hr (takes_of rfl rfl rfl rfl) (da_cons (de_var (pv 0)) da_nil)) da_nil))))) da_nil)))))))
  (dss_one (ds_ret (de_var (pv 4))))))
theorem sc_law_text : FnScope ["_law_specs_here", "_law_result", "_law_kind", "_law_a", "_law_b", "_law_c", "_law_numbers_so", "_law_one"] ["_law_specs_here"] (defScope st_law_text) := C8.fnScope_by (by decide +kernel)
theorem df_law_text (z : Kn fa fn fb K mg) (xi) : DF P w K mg base (TT K xi) 2 (He.fAd K ("_law_text", none)) 1 F_law_text := by
  refine df_mk (z.fd 7 (d := dd_law_text) rfl rfl rfl) sc_law_text rfl rfl (fun _ _ _ _ _ _ us hl => match us, hl with | [_], _ => rfl) fun cdv A outer s H E hr => ?_
  exact (dss_cons (ds_set sc_law_text.nd (de_lstC da_nil))
  (dss_cons (ds_for (passes_of rfl) rfl (di_list (de_var (pv 0))) (dg_tup rfl (dgs_cons (dg_name (pg_name sc_law_text.nd (i := 2) rfl (by first | exact Or.inl rfl | exact Or.inr rfl))) (dgs_cons (dg_name (pg_name sc_law_text.nd (i := 3) rfl (by first | exact Or.inl rfl | exact Or.inr rfl))) (dgs_cons (dg_name (pg_name sc_law_text.nd (i := 4) rfl (by first | exact Or.inl rfl | exact Or.inr rfl))) (dgs_cons (dg_name (pg_name sc_law_text.nd (i := 5) rfl (by first | exact Or.inl rfl | exact Or.inr rfl))) dgs_nil)))))
  (dss_cons (ds_set sc_law_text.nd (de_tr (de_dget (L2.hu_of hr) (de_disp (dp_cons de_str (de_lst (da_cons (de_var (pv 3)) (da_cons (de_var (pv 4)) (da_cons (de_var (pv 5)) da_nil)))) (dp_cons de_str (de_lst (da_cons (de_var (pv 3)) da_nil)) (dp_cons de_str (de_lst da_nil) dp_nil)))) (de_var (pv 2)) (fun _ _ => rfl))))
  (dss_one (ds_expr (de_append (de_var (pv 1)) (da_cons (de_join de_str (de_add (de_lst (da_cons (de_var (pv 2)) da_nil)) (de_lc (de_lcC (own := [("_law_one", 7)]) rfl sc_law_text.nd (di_list (de_var (pv 6))) (blk_by (by kernel_rfl)) (fun _ _ _ _ _ => (dgk_name (pg_name sc_law_text.nd (i := 7) rfl (by first | exact Or.inl rfl | exact Or.inr rfl)))) (fun _ _ _ _ _ => dts_nil) (fun _ _ _ _ _ => (de_tostr (z.free 14) (da_cons (de_var (pv 7)) da_nil))))))) da_nil))))))
  (dss_one (ds_ret (de_if (DC.tt (dc_eq (eqB0 (n := 0) (h := 20) (by decide)) (hr.mono (Nat.zero_le _)) (de_var (pv 1)) (de_lst da_nil))) de_str (de_join de_str (de_var (pv 1))))))))
theorem sc_Memory_check_line : FnScope ["self", "line"] ["self", "line"] (defScope st_Memory_check_line) := C8.fnScope_by (by decide +kernel)
theorem df_Memory_check_line (z : Kn fa fn fb K mg) (xi) : DF P w K mg base (TT K xi) 1 (He.fAd K ("Memory", some "check_line")) 2 F_Memory_check_line := by
  refine df_mk (z.fd 8 (d := dd_Memory_check_line) rfl rfl rfl) sc_Memory_check_line rfl rfl (fun _ _ _ _ _ _ us hl => match us, hl with | [_, _], _ => rfl) fun cdv A outer s H E hr => ?_
  exact (dss_one (ds_if (dt_not (dt_chain op_le op_lt de_int (de_var (pv 1)) (de_len (z.free 8) (da_cons (de_get (tabOk z xi) nm_inj rfl (k := 5) rfl (de_var (pv 0))) da_nil))))
  (dss_one ds_no)
  dss_nil))
theorem dm_check_line {X : Cx} (z : Kn fa fn fb K mg) (xi) (h1 : X.prog = P) (h2 : X.w = w) (h3 : X.K = K) (h4 : X.mg = mg) (h5 : X.base = base) : DM X (TT K xi) 1 "check_line" 2 (fun c => disp_check_line.lookup c) := by
  subst h1 h2 h3 h4 h5
  refine dm_of ?_
  intro p hp
  simp only [disp_check_line, List.mem_cons, List.not_mem_nil, or_false] at hp
  rcases hp with rfl
  · exact ⟨(show ∀ i ∈ od 7, nm i ≠ "check_line" from by decide +kernel), z.cls 42, _, z.meth 43, (df_Memory_check_line z xi).mono (by decide)⟩

theorem sc_Memory_check_word : FnScope ["self", "line", "word"] ["self", "line", "word"] (defScope st_Memory_check_word) := C8.fnScope_by (by decide +kernel)
theorem df_Memory_check_word (z : Kn fa fn fb K mg) (xi) : DF P w K mg base (TT K xi) 2 (He.fAd K ("Memory", some "check_word")) 3 F_Memory_check_word := by
  refine df_mk (z.fd 9 (d := dd_Memory_check_word) rfl rfl rfl) sc_Memory_check_word rfl rfl (fun _ _ _ _ _ _ us hl => match us, hl with | [_, _, _], _ => rfl) fun cdv A outer s H E hr => ?_
  exact (dss_cons (ds_expr (de_meth rfl (dm_check_line z xi rfl rfl rfl rfl rfl) hr (takes_of rfl rfl rfl rfl) (de_var (pv 0)) (da_cons (de_var (pv 1)) da_nil)))
  (dss_one (ds_if (dt_not (dt_chain op_le op_lt de_int (de_var (pv 2)) (de_ix (de_get (tabOk z xi) nm_inj rfl (k := 5) rfl (de_var (pv 0))) (de_var (pv 1)))))
  (dss_one ds_no)
  dss_nil)))
theorem dm_check_word {X : Cx} (z : Kn fa fn fb K mg) (xi) (h1 : X.prog = P) (h2 : X.w = w) (h3 : X.K = K) (h4 : X.mg = mg) (h5 : X.base = base) : DM X (TT K xi) 2 "check_word" 3 (fun c => disp_check_word.lookup c) := by
  subst h1 h2 h3 h4 h5
  refine dm_of ?_
  intro p hp
  simp only [disp_check_word, List.mem_cons, List.not_mem_nil, or_false] at hp
  rcases hp with rfl
  · exact ⟨(show ∀ i ∈ od 7, nm i ≠ "check_word" from by decide +kernel), z.cls 42, _, z.meth 44, (df_Memory_check_word z xi).mono (by decide)⟩

theorem sc_Store_check : FnScope ["self", "memory"] ["self", "memory"] (defScope st_Store_check) := C8.fnScope_by (by decide +kernel)
theorem df_Store_check (z : Kn fa fn fb K mg) (xi) : DF P w K mg base (TT K xi) 3 (He.fAd K ("Store", some "check")) 2 F_Store_check := by
  refine df_mk (z.fd 10 (d := dd_Store_check) rfl rfl rfl) sc_Store_check rfl rfl (fun _ _ _ _ _ _ us hl => match us, hl with | [_, _], _ => rfl) fun cdv A outer s H E hr => ?_
  exact (dss_one (ds_expr (de_meth rfl (dm_check_word z xi rfl rfl rfl rfl rfl) hr (takes_of rfl rfl rfl rfl) (de_var (pv 1)) (da_cons (de_get (tabOk z xi) nm_inj rfl (k := 2) rfl (de_var (pv 0))) (da_cons (de_get (tabOk z xi) nm_inj rfl (k := 3) rfl (de_var (pv 0))) da_nil)))))
theorem sc_Flush_check : FnScope ["self", "memory"] ["self", "memory"] (defScope st_Flush_check) := C8.fnScope_by (by decide +kernel)
theorem df_Flush_check (z : Kn fa fn fb K mg) (xi) : DF P w K mg base (TT K xi) 2 (He.fAd K ("Flush", some "check")) 2 F_Flush_check := by
  refine df_mk (z.fd 11 (d := dd_Flush_check) rfl rfl rfl) sc_Flush_check rfl rfl (fun _ _ _ _ _ _ us hl => match us, hl with | [_, _], _ => rfl) fun cdv A outer s H E hr => ?_
  exact (dss_one (ds_expr (de_meth rfl (dm_check_line z xi rfl rfl rfl rfl rfl) hr (takes_of rfl rfl rfl rfl) (de_var (pv 1)) (da_cons (de_get (tabOk z xi) nm_inj rfl (k := 2) rfl (de_var (pv 0))) da_nil))))
theorem sc_Command_check : FnScope ["self", "memory"] ["self", "memory"] (defScope st_Command_check) := C8.fnScope_by (by decide +kernel)
theorem df_Command_check (z : Kn fa fn fb K mg) (xi) : DF P w K mg base (TT K xi) 1 (He.fAd K ("Command", some "check")) 2 F_Command_check := by
  refine df_mk (z.fd 12 (d := dd_Command_check) rfl rfl rfl) sc_Command_check rfl rfl (fun _ _ _ _ _ _ us hl => match us, hl with | [_, _], _ => rfl) fun cdv A outer s H E hr => ?_
  exact (dss_one ds_pass)
theorem dm_check {X : Cx} (z : Kn fa fn fb K mg) (xi) (h1 : X.prog = P) (h2 : X.w = w) (h3 : X.K = K) (h4 : X.mg = mg) (h5 : X.base = base) : DM X (TT K xi) 3 "check" 2 (fun c => disp_check.lookup c) := by
  subst h1 h2 h3 h4 h5
  refine dm_of ?_
  intro p hp
  simp only [disp_check, List.mem_cons, List.not_mem_nil, or_false] at hp
  rcases hp with rfl | rfl | rfl
  · exact ⟨(show ∀ i ∈ od 9, nm i ≠ "check" from by decide +kernel), z.cls 45, _, z.meth 46, (df_Store_check z xi).mono (by decide)⟩
  · exact ⟨(show ∀ i ∈ od 10, nm i ≠ "check" from by decide +kernel), z.cls 47, _, z.meth 48, (df_Flush_check z xi).mono (by decide)⟩
  · have e := z.meq 2
    have d := (df_Command_check z xi (P := X.prog) (w := X.w) (base := X.base)).mono (j := 3) (by decide)
    have d2 : DF X.prog X.w X.K X.mg X.base (TT X.K xi) 3 (He.ma X.K (He.ga X.K "Fence") "check") 2 F_Command_check := by
      rw [e]; exact d
    exact ⟨(show ∀ i ∈ od 11, nm i ≠ "check" from by decide +kernel), z.cls 49, _, z.meth 50, d2⟩

theorem sc_check_commands : FnScope ["memory", "commands", "command"] ["memory", "commands"] (defScope st_check_commands) := C8.fnScope_by (by decide +kernel)
theorem df_check_commands (z : Kn fa fn fb K mg) (xi) : DF P w K mg base (TT K xi) 4 (He.fAd K ("check_commands", none)) 2 F_check_commands := by
  refine df_mk (z.fd 13 (d := dd_check_commands) rfl rfl rfl) sc_check_commands rfl rfl (fun _ _ _ _ _ _ us hl => match us, hl with | [_, _], _ => rfl) fun cdv A outer s H E hr => ?_
  exact (dss_one (ds_for (passes_of rfl) rfl (di_tup (de_var (pv 1))) (dg_name (pg_name sc_check_commands.nd (i := 2) rfl (by first | exact Or.inl rfl | exact Or.inr rfl)))
  (dss_one (ds_expr (de_meth rfl (dm_check z xi rfl rfl rfl rfl rfl) hr (takes_of rfl rfl rfl rfl) (de_var (pv 2)) (da_cons (de_var (pv 0)) da_nil))))))
theorem sc_Program_init : FnScope ["self", "memory", "commands"] ["self", "memory", "commands"] (defScope st_Program_init) := C8.fnScope_by (by decide +kernel)
theorem df_Program_init (z : Kn fa fn fb K mg) (xi) : DF P w K mg base (TT K xi) 5 (He.fAd K ("Program", some "__init__")) 3 F_Program_init := by
  refine df_mk (z.fd 14 (d := dd_Program_init) rfl rfl rfl) sc_Program_init rfl rfl (fun _ _ _ _ _ _ us hl => match us, hl with | [_, _, _], _ => rfl) fun cdv A outer s H E hr => ?_
  exact (dss_cons (ds_fld (tabOk z xi) nm_inj rfl (k := 7) rfl (de_var (pv 0)) (de_var (pv 1)))
  (dss_cons (ds_fld (tabOk z xi) nm_inj rfl (k := 8) rfl (de_var (pv 0)) (de_tuple (z.free 7) (da_cons (de_var (pv 2)) da_nil)))
  (dss_cons (ds_if (DC.tt (dc_gt (de_len (z.free 8) (da_cons (de_get (tabOk z xi) nm_inj rfl (k := 8) rfl (de_var (pv 0))) da_nil)) (de_gint rfl (z.int 17))))
  (dss_one ds_no)
  dss_nil)
  (dss_one (ds_expr (de_call (df_check_commands z xi) (z.glo 18) hr (takes_of rfl rfl rfl rfl) (da_cons (de_var (pv 1)) (da_cons (de_get (tabOk z xi) nm_inj rfl (k := 8) rfl (de_var (pv 0))) da_nil))))))))
theorem dk_Program {X : Cx} (z : Kn fa fn fb K mg) (xi) (h1 : X.prog = P) (h2 : X.w = w) (h3 : X.K = K) (h4 : X.mg = mg) (h5 : X.base = base) : DK X (TT K xi) 5 12 2 F_Program_init := by
  subst h1 h2 h3 h4 h5
  exact ⟨⟨_, z.mkr 51, df_Program_init z xi⟩⟩
theorem sc_Store_init : FnScope ["self", "line", "word", "number"] ["self", "line", "word", "number"] (defScope st_Store_init) := C8.fnScope_by (by decide +kernel)
theorem df_Store_init (z : Kn fa fn fb K mg) (xi) : DF P w K mg base (TT K xi) 1 (He.fAd K ("Store", some "__init__")) 4 F_Store_init := by
  refine df_mk (z.fd 15 (d := dd_Store_init) rfl rfl rfl) sc_Store_init rfl rfl (fun _ _ _ _ _ _ us hl => match us, hl with | [_, _, _, _], _ => rfl) fun cdv A outer s H E hr => ?_
  exact (dss_cons (ds_fld (tabOk z xi) nm_inj rfl (k := 2) rfl (de_var (pv 0)) (de_var (pv 1)))
  (dss_cons (ds_fld (tabOk z xi) nm_inj rfl (k := 3) rfl (de_var (pv 0)) (de_var (pv 2)))
  (dss_one (ds_fld (tabOk z xi) nm_inj rfl (k := 6) rfl (de_var (pv 0)) (de_var (pv 3))))))
theorem dk_Store {X : Cx} (z : Kn fa fn fb K mg) (xi) (h1 : X.prog = P) (h2 : X.w = w) (h3 : X.K = K) (h4 : X.mg = mg) (h5 : X.base = base) : DK X (TT K xi) 1 9 3 F_Store_init := by
  subst h1 h2 h3 h4 h5
  exact ⟨⟨_, z.mkr 52, df_Store_init z xi⟩⟩
theorem sc_Flush_init : FnScope ["self", "line"] ["self", "line"] (defScope st_Flush_init) := C8.fnScope_by (by decide +kernel)
theorem df_Flush_init (z : Kn fa fn fb K mg) (xi) : DF P w K mg base (TT K xi) 1 (He.fAd K ("Flush", some "__init__")) 2 F_Flush_init := by
  refine df_mk (z.fd 16 (d := dd_Flush_init) rfl rfl rfl) sc_Flush_init rfl rfl (fun _ _ _ _ _ _ us hl => match us, hl with | [_, _], _ => rfl) fun cdv A outer s H E hr => ?_
  exact (dss_one (ds_fld (tabOk z xi) nm_inj rfl (k := 2) rfl (de_var (pv 0)) (de_var (pv 1))))
theorem dk_Flush {X : Cx} (z : Kn fa fn fb K mg) (xi) (h1 : X.prog = P) (h2 : X.w = w) (h3 : X.K = K) (h4 : X.mg = mg) (h5 : X.base = base) : DK X (TT K xi) 1 10 1 F_Flush_init := by
  subst h1 h2 h3 h4 h5
  exact ⟨⟨_, z.mkr 53, df_Flush_init z xi⟩⟩
theorem sc_law_command : FnScope ["_law_spec", "_law_kind", "_law_a", "_law_b", "_law_c"] ["_law_spec"] (defScope st_law_command) := C8.fnScope_by (by decide +kernel)
theorem df_law_command (z : Kn fa fn fb K mg) (xi) : DF P w K mg base (TT K xi) 3 (He.fAd K ("_law_command", none)) 1 F_law_command := by
  refine df_mk (z.fd 17 (d := dd_law_command) rfl rfl rfl) sc_law_command rfl rfl (fun _ _ _ _ _ _ us hl => match us, hl with | [_], _ => rfl) fun cdv A outer s H E hr => ?_
  exact (dss_cons (ds_asg (de_var (pv 0)) (dg_tup rfl (dgs_cons (dg_name (pg_name sc_law_command.nd (i := 1) rfl (by first | exact Or.inl rfl | exact Or.inr rfl))) (dgs_cons (dg_name (pg_name sc_law_command.nd (i := 2) rfl (by first | exact Or.inl rfl | exact Or.inr rfl))) (dgs_cons (dg_name (pg_name sc_law_command.nd (i := 3) rfl (by first | exact Or.inl rfl | exact Or.inr rfl))) (dgs_cons (dg_name (pg_name sc_law_command.nd (i := 4) rfl (by first | exact Or.inl rfl | exact Or.inr rfl))) dgs_nil))))))
  (dss_cons (ds_if (DC.tt (dc_eq (eqB0 (n := 0) (h := 20) (by decide)) (hr.mono (Nat.zero_le _)) (de_var (pv 1)) de_str))
  (dss_one (ds_ret (de_mkO rfl (dk_Store z xi rfl rfl rfl rfl rfl) (z.glo 19) hr (takes_of rfl rfl rfl rfl) (da_cons (de_var (pv 2)) (da_cons (de_var (pv 3)) (da_cons (de_var (pv 4)) da_nil))))))
  dss_nil)
  (dss_one (ds_ret (de_if (DC.tt (dc_eq (eqB0 (n := 0) (h := 20) (by decide)) (hr.mono (Nat.zero_le _)) (de_var (pv 1)) de_str)) (de_mkO rfl (dk_Flush z xi rfl rfl rfl rfl rfl) (z.glo 20) hr (takes_of rfl rfl rfl rfl) (da_cons (de_var (pv 2)) da_nil)) (de_mk0 (z.mk0 0) rfl (z.glo 21)))))))
theorem sc_law_program : FnScope ["_law_sizes_so", "_law_specs_here", "_law_spec"] ["_law_sizes_so", "_law_specs_here"] (defScope st_law_program) := C8.fnScope_by (by decide +kernel)
theorem df_law_program (z : Kn fa fn fb K mg) (xi) : DF P w K mg base (TT K xi) 7 (He.fAd K ("_law_program", none)) 2 F_law_program := by
  refine df_mk (z.fd 18 (d := dd_law_program) rfl rfl rfl) sc_law_program rfl rfl (fun _ _ _ _ _ _ us hl => match us, hl with | [_, _], _ => rfl) fun cdv A outer s H E hr => ?_
  exact (dss_one (ds_ret (de_mkO rfl (dk_Program z xi rfl rfl rfl rfl rfl) (z.glo 16) hr (takes_of rfl rfl rfl rfl) (da_cons (de_mkO rfl (dk_Memory z xi rfl rfl rfl rfl rfl) (z.glo 6) hr (takes_of rfl rfl rfl rfl) (da_cons (de_var (pv 0)) da_nil)) (da_cons (de_lc (de_lcC (own := [("_law_spec", 2)]) rfl sc_law_program.nd (di_list (de_var (pv 1))) (blk_by (by kernel_rfl)) (fun _ _ _ _ _ => (dgk_name (pg_name sc_law_program.nd (i := 2) rfl (by first | exact Or.inl rfl | exact Or.inr rfl)))) (fun _ _ _ _ _ => dts_nil) (fun _ _ _ _ _ => (de_call (df_law_command z xi) (z.glo 22) hr takes_no (da_cons (de_var (pv 2)) da_nil))))) da_nil)))))
theorem sc_read_number : FnScope ["text", "place", "figures", "sign"] ["text", "place"] (defScope st_read_number) := C8.fnScope_by (by decide +kernel)
theorem df_read_number (z : Kn fa fn fb K mg) (xi) : DF P w K mg base (TT K xi) 1 (He.fAd K ("read_number", none)) 2 F_read_number := by
  refine df_mk (z.fd 19 (d := dd_read_number) rfl rfl rfl) sc_read_number rfl rfl (fun _ _ _ _ _ _ us hl => match us, hl with | [_, _], _ => rfl) fun cdv A outer s H E hr => ?_
  exact (dss_cons (ds_set sc_read_number.nd (de_if (DC.tt (dc_eq (eqB0 (n := 0) (h := 20) (by decide)) (hr.mono (Nat.zero_le _)) (de_slice (de_var (pv 0)) do_none (do_some de_int)) de_str)) (de_slice (de_var (pv 0)) (do_some de_int) do_none) (de_var (pv 0))))
  (dss_cons (ds_if (DW.tt (dw_or (dt_not (dt_chain op_le op_le de_int (de_len (z.free 8) (da_cons (de_var (pv 2)) da_nil)) (de_gint rfl (z.int 27)))) (dw_or1 (dt_not (dt_val (de_all rfl (z.free 28) (da_cons (de_lc (de_lcC (own := [("sign", 3)]) rfl sc_read_number.nd (di_str (de_var (pv 2))) (blk_by (by kernel_rfl)) (fun _ _ _ _ _ => (dgk_name (pg_name sc_read_number.nd (i := 3) rfl (by first | exact Or.inl rfl | exact Or.inr rfl)))) (fun _ _ _ _ _ => dts_nil) (fun _ _ _ _ _ => (DC.ex (dc_in (eqB0 (n := 0) (h := 20) (by decide)) (hr.mono (Nat.zero_le _)) (de_var (pv 3)) (de_gstr rfl (z.str 29))))))) da_nil)))))))
  (dss_one ds_no)
  dss_nil)
  (dss_cons (ds_if (DW.tt (dw_and (DC.tt (dc_eq (eqB0 (n := 0) (h := 20) (by decide)) (hr.mono (Nat.zero_le _)) (de_ix (de_var (pv 2)) de_int) de_str)) (dw_and1 (DC.tt (dc_ne (eqB0 (n := 0) (h := 20) (by decide)) (hr.mono (Nat.zero_le _)) (de_var (pv 0)) de_str)))))
  (dss_one ds_no)
  dss_nil)
  (dss_one (ds_ret (de_int1 (z.free 1) (da_cons (de_var (pv 0)) da_nil)))))))
theorem sc_read_command : FnScope ["text", "place", "words", "numbers", "line", "word", "number"] ["text", "place"] (defScope st_read_command) := C8.fnScope_by (by decide +kernel)
theorem df_read_command (z : Kn fa fn fb K mg) (xi) : DF P w K mg base (TT K xi) 3 (He.fAd K ("read_command", none)) 2 F_read_command := by
  refine df_mk (z.fd 20 (d := dd_read_command) rfl rfl rfl) sc_read_command rfl rfl (fun _ _ _ _ _ _ us hl => match us, hl with | [_, _], _ => rfl) fun cdv A outer s H E hr => ?_
  exact (dss_cons (ds_set sc_read_command.nd (de_split (de_var (pv 0)) de_str))
  (dss_cons (ds_setLc (own := [("word", 5)]) rfl sc_read_command.nd (di_list (de_slice (de_var (pv 2)) (do_some de_int) do_none)) (blk_by (by kernel_rfl)) (fun _ _ _ _ _ => (dgk_name (pg_name sc_read_command.nd (i := 5) rfl (by first | exact Or.inl rfl | exact Or.inr rfl)))) (fun _ _ _ _ _ => dts_nil) (fun _ _ _ _ _ => (de_call (df_read_number z xi) (z.glo 30) hr takes_no (da_cons (de_var (pv 5)) (da_cons (de_var (pv 1)) da_nil)))))
  (dss_cons (ds_if (DW.tt (dw_and (DC.tt (dc_eq (eqB0 (n := 0) (h := 20) (by decide)) (hr.mono (Nat.zero_le _)) (de_ix (de_var (pv 2)) de_int) de_str)) (dw_and1 (DC.tt (dc_eq (eqB0 (n := 0) (h := 20) (by decide)) (hr.mono (Nat.zero_le _)) (de_len (z.free 8) (da_cons (de_var (pv 3)) da_nil)) de_int)))))
  (dss_cons (ds_asg (de_var (pv 3)) (dg_lst rfl (dgs_cons (dg_name (pg_name sc_read_command.nd (i := 4) rfl (by first | exact Or.inl rfl | exact Or.inr rfl))) (dgs_cons (dg_name (pg_name sc_read_command.nd (i := 5) rfl (by first | exact Or.inl rfl | exact Or.inr rfl))) (dgs_cons (dg_name (pg_name sc_read_command.nd (i := 6) rfl (by first | exact Or.inl rfl | exact Or.inr rfl))) dgs_nil)))))
  (dss_one (ds_ret (de_mkO rfl (dk_Store z xi rfl rfl rfl rfl rfl) (z.glo 19) hr (takes_of rfl rfl rfl rfl) (da_cons (de_var (pv 4)) (da_cons (de_var (pv 5)) (da_cons (de_var (pv 6)) da_nil)))))))
  dss_nil)
  (dss_cons (ds_if (DW.tt (dw_and (DC.tt (dc_eq (eqB0 (n := 0) (h := 20) (by decide)) (hr.mono (Nat.zero_le _)) (de_ix (de_var (pv 2)) de_int) de_str)) (dw_and1 (DC.tt (dc_eq (eqB0 (n := 0) (h := 20) (by decide)) (hr.mono (Nat.zero_le _)) (de_len (z.free 8) (da_cons (de_var (pv 3)) da_nil)) de_int)))))
  (dss_one (ds_ret (de_mkO rfl (dk_Flush z xi rfl rfl rfl rfl rfl) (z.glo 20) hr (takes_of rfl rfl rfl rfl) (da_cons (de_ix (de_var (pv 3)) de_int) da_nil))))
  dss_nil)
  (dss_cons (ds_if (DC.tt (dc_eq (eqB0 (n := 0) (h := 20) (by decide)) (hr.mono (Nat.zero_le _)) (de_var (pv 0)) de_str))
  (dss_one (ds_ret (de_mk0 (z.mk0 0) rfl (z.glo 21))))
  dss_nil)
  (dss_one ds_no))))))
theorem sc_read_program : FnScope ["memory", "text", "place", "part"] ["memory", "text"] (defScope st_read_program) := C8.fnScope_by (by decide +kernel)
theorem df_read_program (z : Kn fa fn fb K mg) (xi) : DF P w K mg base (TT K xi) 7 (He.fAd K ("read_program", none)) 2 F_read_program := by
  refine df_mk (z.fd 21 (d := dd_read_program) rfl rfl rfl) sc_read_program rfl rfl (fun _ _ _ _ _ _ us hl => match us, hl with | [_, _], _ => rfl) fun cdv A outer s H E hr => ?_
  exact (dss_cons (ds_if (DC.tt (dc_eq (eqB0 (n := 0) (h := 20) (by decide)) (hr.mono (Nat.zero_le _)) (de_var (pv 1)) (de_gstr rfl (z.str 24))))
  (dss_one (ds_ret (de_mkO rfl (dk_Program z xi rfl rfl rfl rfl rfl) (z.glo 16) hr (takes_of rfl rfl rfl rfl) (da_cons (de_var (pv 0)) (da_cons (de_lst da_nil) da_nil)))))
  dss_nil)
  (dss_one (ds_ret (de_mkO rfl (dk_Program z xi rfl rfl rfl rfl rfl) (z.glo 16) hr (takes_of rfl rfl rfl rfl) (da_cons (de_var (pv 0)) (da_cons (de_lc (de_lcC (own := [("place", 2), ("part", 3)]) rfl sc_read_program.nd (di_enum (z.free 25) (da_cons (de_split (de_var (pv 1)) (de_gstr rfl (z.str 26))) da_nil)) (blk_by (by kernel_rfl)) (fun _ _ _ _ _ => (dgk_tup rfl (dgks_cons (dgk_name (pg_name sc_read_program.nd (i := 2) rfl (by first | exact Or.inl rfl | exact Or.inr rfl))) (dgks_cons (dgk_name (pg_name sc_read_program.nd (i := 3) rfl (by first | exact Or.inl rfl | exact Or.inr rfl))) dgks_nil)))) (fun _ _ _ _ _ => dts_nil) (fun _ _ _ _ _ => (de_call (df_read_command z xi) (z.glo 31) hr takes_no (da_cons (de_var (pv 3)) (da_cons (de_var (pv 2)) da_nil)))))) da_nil))))))
theorem sc_command_text : FnScope ["command"] ["command"] (defScope st_command_text) := C8.fnScope_by (by decide +kernel)
theorem df_command_text (z : Kn fa fn fb K mg) (xi) : DF P w K mg base (TT K xi) 1 (He.fAd K ("command_text", none)) 1 F_command_text := by
  refine df_mk (z.fd 22 (d := dd_command_text) rfl rfl rfl) sc_command_text rfl rfl (fun _ _ _ _ _ _ us hl => match us, hl with | [_], _ => rfl) fun cdv A outer s H E hr => ?_
  exact (dss_cons (ds_if (dt_val (de_isi (ist_Store z xi) (z.free 33) (z.glo 19) (de_var (pv 0))))
  (dss_one (ds_ret (de_joined (dj_cons de_str (dj_cons (de_fmt (de_get (tabOk z xi) nm_inj rfl (k := 2) rfl (de_var (pv 0)))) (dj_cons de_str (dj_cons (de_fmt (de_get (tabOk z xi) nm_inj rfl (k := 3) rfl (de_var (pv 0)))) (dj_cons de_str (dj_cons (de_fmt (de_get (tabOk z xi) nm_inj rfl (k := 6) rfl (de_var (pv 0)))) dj_nil)))))))))
  dss_nil)
  (dss_cons (ds_if (dt_val (de_isi (ist_Flush z xi) (z.free 33) (z.glo 20) (de_var (pv 0))))
  (dss_one (ds_ret (de_joined (dj_cons de_str (dj_cons (de_fmt (de_get (tabOk z xi) nm_inj rfl (k := 2) rfl (de_var (pv 0)))) dj_nil)))))
  dss_nil)
  (dss_one (ds_ret de_str))))
theorem sc_program_text : FnScope ["program", "command"] ["program"] (defScope st_program_text) := C8.fnScope_by (by decide +kernel)
theorem df_program_text (z : Kn fa fn fb K mg) (xi) : DF P w K mg base (TT K xi) 2 (He.fAd K ("program_text", none)) 1 F_program_text := by
  refine df_mk (z.fd 23 (d := dd_program_text) rfl rfl rfl) sc_program_text rfl rfl (fun _ _ _ _ _ _ us hl => match us, hl with | [_], _ => rfl) fun cdv A outer s H E hr => ?_
  exact (dss_cons (ds_if (DC.tt (dc_eqE hr (de_get (tabOk z xi) nm_inj rfl (k := 8) rfl (de_var (pv 0))) (de_tup da_nil)))
  (dss_one (ds_ret (de_gstr rfl (z.str 24))))
  dss_nil)
  (dss_one (ds_ret (de_join (de_gstr rfl (z.str 26)) (de_lc (de_lcC (own := [("command", 1)]) rfl sc_program_text.nd (di_tup (de_get (tabOk z xi) nm_inj rfl (k := 8) rfl (de_var (pv 0)))) (blk_by (by kernel_rfl)) (fun _ _ _ _ _ => (dgk_name (pg_name sc_program_text.nd (i := 1) rfl (by first | exact Or.inl rfl | exact Or.inr rfl)))) (fun _ _ _ _ _ => dts_nil) (fun _ _ _ _ _ => (de_call (df_command_text z xi) (z.glo 34) hr takes_no (da_cons (de_var (pv 1)) da_nil)))))))))
theorem sc_Memory_kind : FnScope ["self"] ["self"] (defScope st_Memory_kind) := C8.fnScope_by (by decide +kernel)
theorem df_Memory_kind (z : Kn fa fn fb K mg) (xi) : DF P w K mg base (TT K xi) 1 (He.fAd K ("Memory", some "kind")) 1 F_Memory_kind := by
  refine df_mk (z.fd 24 (d := dd_Memory_kind) rfl rfl rfl) sc_Memory_kind rfl rfl (fun _ _ _ _ _ _ us hl => match us, hl with | [_], _ => rfl) fun cdv A outer s H E hr => ?_
  exact (dss_one (ds_ret de_str))
theorem sc_Store_kind : FnScope ["self"] ["self"] (defScope st_Store_kind) := C8.fnScope_by (by decide +kernel)
theorem df_Store_kind (z : Kn fa fn fb K mg) (xi) : DF P w K mg base (TT K xi) 1 (He.fAd K ("Store", some "kind")) 1 F_Store_kind := by
  refine df_mk (z.fd 25 (d := dd_Store_kind) rfl rfl rfl) sc_Store_kind rfl rfl (fun _ _ _ _ _ _ us hl => match us, hl with | [_], _ => rfl) fun cdv A outer s H E hr => ?_
  exact (dss_one (ds_ret de_str))
theorem sc_Flush_kind : FnScope ["self"] ["self"] (defScope st_Flush_kind) := C8.fnScope_by (by decide +kernel)
theorem df_Flush_kind (z : Kn fa fn fb K mg) (xi) : DF P w K mg base (TT K xi) 1 (He.fAd K ("Flush", some "kind")) 1 F_Flush_kind := by
  refine df_mk (z.fd 26 (d := dd_Flush_kind) rfl rfl rfl) sc_Flush_kind rfl rfl (fun _ _ _ _ _ _ us hl => match us, hl with | [_], _ => rfl) fun cdv A outer s H E hr => ?_
  exact (dss_one (ds_ret de_str))
theorem sc_Fence_kind : FnScope ["self"] ["self"] (defScope st_Fence_kind) := C8.fnScope_by (by decide +kernel)
theorem df_Fence_kind (z : Kn fa fn fb K mg) (xi) : DF P w K mg base (TT K xi) 1 (He.fAd K ("Fence", some "kind")) 1 F_Fence_kind := by
  refine df_mk (z.fd 27 (d := dd_Fence_kind) rfl rfl rfl) sc_Fence_kind rfl rfl (fun _ _ _ _ _ _ us hl => match us, hl with | [_], _ => rfl) fun cdv A outer s H E hr => ?_
  exact (dss_one (ds_ret de_str))
theorem sc_Program_kind : FnScope ["self"] ["self"] (defScope st_Program_kind) := C8.fnScope_by (by decide +kernel)
theorem df_Program_kind (z : Kn fa fn fb K mg) (xi) : DF P w K mg base (TT K xi) 1 (He.fAd K ("Program", some "kind")) 1 F_Program_kind := by
  refine df_mk (z.fd 28 (d := dd_Program_kind) rfl rfl rfl) sc_Program_kind rfl rfl (fun _ _ _ _ _ _ us hl => match us, hl with | [_], _ => rfl) fun cdv A outer s H E hr => ?_
  exact (dss_one (ds_ret de_str))
theorem dm_kind {X : Cx} (z : Kn fa fn fb K mg) (xi) (h1 : X.prog = P) (h2 : X.w = w) (h3 : X.K = K) (h4 : X.mg = mg) (h5 : X.base = base) : DM X (TT K xi) 1 "kind" 1 (fun c => disp_kind.lookup c) := by
  subst h1 h2 h3 h4 h5
  refine dm_of ?_
  intro p hp
  simp only [disp_kind, List.mem_cons, List.not_mem_nil, or_false] at hp
  rcases hp with rfl | rfl | rfl | rfl | rfl
  · exact ⟨(show ∀ i ∈ od 7, nm i ≠ "kind" from by decide +kernel), z.cls 42, _, z.meth 54, (df_Memory_kind z xi).mono (by decide)⟩
  · exact ⟨(show ∀ i ∈ od 9, nm i ≠ "kind" from by decide +kernel), z.cls 45, _, z.meth 55, (df_Store_kind z xi).mono (by decide)⟩
  · exact ⟨(show ∀ i ∈ od 10, nm i ≠ "kind" from by decide +kernel), z.cls 47, _, z.meth 56, (df_Flush_kind z xi).mono (by decide)⟩
  · exact ⟨(show ∀ i ∈ od 11, nm i ≠ "kind" from by decide +kernel), z.cls 49, _, z.meth 57, (df_Fence_kind z xi).mono (by decide)⟩
  · exact ⟨(show ∀ i ∈ od 12, nm i ≠ "kind" from by decide +kernel), z.cls 58, _, z.meth 59, (df_Program_kind z xi).mono (by decide)⟩

theorem sc_Memory_facts : FnScope ["self"] ["self"] (defScope st_Memory_facts) := C8.fnScope_by (by decide +kernel)
theorem df_Memory_facts (z : Kn fa fn fb K mg) (xi) : DF P w K mg base (TT K xi) 1 (He.fAd K ("Memory", some "facts")) 1 F_Memory_facts := by
  refine df_mk (z.fd 29 (d := dd_Memory_facts) rfl rfl rfl) sc_Memory_facts rfl rfl (fun _ _ _ _ _ _ us hl => match us, hl with | [_], _ => rfl) fun cdv A outer s H E hr => ?_
  exact (dss_one (ds_ret (de_tup (da_cons (de_get (tabOk z xi) nm_inj rfl (k := 5) rfl (de_var (pv 0))) da_nil))))
theorem sc_Store_facts : FnScope ["self"] ["self"] (defScope st_Store_facts) := C8.fnScope_by (by decide +kernel)
theorem df_Store_facts (z : Kn fa fn fb K mg) (xi) : DF P w K mg base (TT K xi) 1 (He.fAd K ("Store", some "facts")) 1 F_Store_facts := by
  refine df_mk (z.fd 30 (d := dd_Store_facts) rfl rfl rfl) sc_Store_facts rfl rfl (fun _ _ _ _ _ _ us hl => match us, hl with | [_], _ => rfl) fun cdv A outer s H E hr => ?_
  exact (dss_one (ds_ret (de_tup (da_cons (de_get (tabOk z xi) nm_inj rfl (k := 2) rfl (de_var (pv 0))) (da_cons (de_get (tabOk z xi) nm_inj rfl (k := 3) rfl (de_var (pv 0))) (da_cons (de_get (tabOk z xi) nm_inj rfl (k := 6) rfl (de_var (pv 0))) da_nil))))))
theorem sc_Flush_facts : FnScope ["self"] ["self"] (defScope st_Flush_facts) := C8.fnScope_by (by decide +kernel)
theorem df_Flush_facts (z : Kn fa fn fb K mg) (xi) : DF P w K mg base (TT K xi) 1 (He.fAd K ("Flush", some "facts")) 1 F_Flush_facts := by
  refine df_mk (z.fd 31 (d := dd_Flush_facts) rfl rfl rfl) sc_Flush_facts rfl rfl (fun _ _ _ _ _ _ us hl => match us, hl with | [_], _ => rfl) fun cdv A outer s H E hr => ?_
  exact (dss_one (ds_ret (de_tup (da_cons (de_get (tabOk z xi) nm_inj rfl (k := 2) rfl (de_var (pv 0))) da_nil))))
theorem sc_Thing_facts : FnScope ["self"] ["self"] (defScope st_Thing_facts) := C8.fnScope_by (by decide +kernel)
theorem df_Thing_facts (z : Kn fa fn fb K mg) (xi) : DF P w K mg base (TT K xi) 1 (He.fAd K ("Thing", some "facts")) 1 F_Thing_facts := by
  refine df_mk (z.fd 32 (d := dd_Thing_facts) rfl rfl rfl) sc_Thing_facts rfl rfl (fun _ _ _ _ _ _ us hl => match us, hl with | [_], _ => rfl) fun cdv A outer s H E hr => ?_
  exact (dss_one (ds_ret (de_tup da_nil)))
theorem sc_Program_facts : FnScope ["self"] ["self"] (defScope st_Program_facts) := C8.fnScope_by (by decide +kernel)
theorem df_Program_facts (z : Kn fa fn fb K mg) (xi) : DF P w K mg base (TT K xi) 1 (He.fAd K ("Program", some "facts")) 1 F_Program_facts := by
  refine df_mk (z.fd 33 (d := dd_Program_facts) rfl rfl rfl) sc_Program_facts rfl rfl (fun _ _ _ _ _ _ us hl => match us, hl with | [_], _ => rfl) fun cdv A outer s H E hr => ?_
  exact (dss_one (ds_ret (de_tup (da_cons (de_get (tabOk z xi) nm_inj rfl (k := 7) rfl (de_var (pv 0))) (da_cons (de_get (tabOk z xi) nm_inj rfl (k := 8) rfl (de_var (pv 0))) da_nil)))))
theorem dm_facts {X : Cx} (z : Kn fa fn fb K mg) (xi) (h1 : X.prog = P) (h2 : X.w = w) (h3 : X.K = K) (h4 : X.mg = mg) (h5 : X.base = base) : DM X (TT K xi) 1 "facts" 1 (fun c => disp_facts.lookup c) := by
  subst h1 h2 h3 h4 h5
  refine dm_of ?_
  intro p hp
  simp only [disp_facts, List.mem_cons, List.not_mem_nil, or_false] at hp
  rcases hp with rfl | rfl | rfl | rfl | rfl
  · exact ⟨(show ∀ i ∈ od 7, nm i ≠ "facts" from by decide +kernel), z.cls 42, _, z.meth 60, (df_Memory_facts z xi).mono (by decide)⟩
  · exact ⟨(show ∀ i ∈ od 9, nm i ≠ "facts" from by decide +kernel), z.cls 45, _, z.meth 61, (df_Store_facts z xi).mono (by decide)⟩
  · exact ⟨(show ∀ i ∈ od 10, nm i ≠ "facts" from by decide +kernel), z.cls 47, _, z.meth 62, (df_Flush_facts z xi).mono (by decide)⟩
  · have e := z.meq 3
    have d := (df_Thing_facts z xi (P := X.prog) (w := X.w) (base := X.base)).mono (j := 1) (by decide)
    have d2 : DF X.prog X.w X.K X.mg X.base (TT X.K xi) 1 (He.ma X.K (He.ga X.K "Fence") "facts") 1 F_Thing_facts := by
      rw [e]; exact d
    exact ⟨(show ∀ i ∈ od 11, nm i ≠ "facts" from by decide +kernel), z.cls 49, _, z.meth 63, d2⟩
  · exact ⟨(show ∀ i ∈ od 12, nm i ≠ "facts" from by decide +kernel), z.cls 58, _, z.meth 64, (df_Program_facts z xi).mono (by decide)⟩

theorem sc_Thing_eq : FnScope ["self", "other"] ["self", "other"] (defScope st_Thing_eq) := C8.fnScope_by (by decide +kernel)
theorem df_Thing_eq (z : Kn fa fn fb K mg) (xi) : DF P w K mg base (TT K xi) 2 (He.fAd K ("Thing", some "__eq__")) 2 F_Thing_eq := by
  refine df_mk (z.fd 34 (d := dd_Thing_eq) rfl rfl rfl) sc_Thing_eq rfl rfl (fun _ _ _ _ _ _ us hl => match us, hl with | [_, _], _ => rfl) fun cdv A outer s H E hr => ?_
  exact (dss_cons (ds_if (DW.tt (dw_or (dt_not (dt_val (de_isi (ist_Thing z xi) (z.free 33) (z.glo 36) (de_var (pv 1))))) (dw_or1 (DC.tt (dc_ne (eqB0 (n := 0) (h := 20) (by decide)) (hr.mono (Nat.zero_le _)) (de_meth0 rfl (dm_kind z xi rfl rfl rfl rfl rfl) hr (takes_of rfl rfl rfl rfl) (de_var (pv 0))) (de_meth0 rfl (dm_kind z xi rfl rfl rfl rfl rfl) hr (takes_of rfl rfl rfl rfl) (de_var (pv 1))))))))
  (dss_one (ds_ret de_bl))
  dss_nil)
  (dss_one (ds_ret (DC.ex (dc_eq (eqB0 (n := 0) (h := 20) (by decide)) (hr.mono (Nat.zero_le _)) (de_meth0 rfl (dm_facts z xi rfl rfl rfl rfl rfl) hr (takes_of rfl rfl rfl rfl) (de_var (pv 0))) (de_meth0 rfl (dm_facts z xi rfl rfl rfl rfl rfl) hr (takes_of rfl rfl rfl rfl) (de_var (pv 1))))))))
theorem dm_eq {X : Cx} (z : Kn fa fn fb K mg) (xi) (h1 : X.prog = P) (h2 : X.w = w) (h3 : X.K = K) (h4 : X.mg = mg) (h5 : X.base = base) : DM X (TT K xi) 2 "__eq__" 2 (fun c => disp_eq.lookup c) := by
  subst h1 h2 h3 h4 h5
  refine dm_of ?_
  intro p hp
  simp only [disp_eq, List.mem_cons, List.not_mem_nil, or_false] at hp
  rcases hp with rfl | rfl | rfl | rfl | rfl
  · have e := z.meq 4
    have d := (df_Thing_eq z xi (P := X.prog) (w := X.w) (base := X.base)).mono (j := 2) (by decide)
    have d2 : DF X.prog X.w X.K X.mg X.base (TT X.K xi) 2 (He.ma X.K (He.ga X.K "Memory") "__eq__") 2 F_Thing_eq := by
      rw [e]; exact d
    exact ⟨(show ∀ i ∈ od 7, nm i ≠ "__eq__" from by decide +kernel), z.cls 42, _, z.meth 65, d2⟩
  · have e := z.meq 5
    have d := (df_Thing_eq z xi (P := X.prog) (w := X.w) (base := X.base)).mono (j := 2) (by decide)
    have d2 : DF X.prog X.w X.K X.mg X.base (TT X.K xi) 2 (He.ma X.K (He.ga X.K "Store") "__eq__") 2 F_Thing_eq := by
      rw [e]; exact d
    exact ⟨(show ∀ i ∈ od 9, nm i ≠ "__eq__" from by decide +kernel), z.cls 45, _, z.meth 66, d2⟩
  · have e := z.meq 6
    have d := (df_Thing_eq z xi (P := X.prog) (w := X.w) (base := X.base)).mono (j := 2) (by decide)
    have d2 : DF X.prog X.w X.K X.mg X.base (TT X.K xi) 2 (He.ma X.K (He.ga X.K "Flush") "__eq__") 2 F_Thing_eq := by
      rw [e]; exact d
    exact ⟨(show ∀ i ∈ od 10, nm i ≠ "__eq__" from by decide +kernel), z.cls 47, _, z.meth 67, d2⟩
  · have e := z.meq 7
    have d := (df_Thing_eq z xi (P := X.prog) (w := X.w) (base := X.base)).mono (j := 2) (by decide)
    have d2 : DF X.prog X.w X.K X.mg X.base (TT X.K xi) 2 (He.ma X.K (He.ga X.K "Fence") "__eq__") 2 F_Thing_eq := by
      rw [e]; exact d
    exact ⟨(show ∀ i ∈ od 11, nm i ≠ "__eq__" from by decide +kernel), z.cls 49, _, z.meth 68, d2⟩
  · have e := z.meq 8
    have d := (df_Thing_eq z xi (P := X.prog) (w := X.w) (base := X.base)).mono (j := 2) (by decide)
    have d2 : DF X.prog X.w X.K X.mg X.base (TT X.K xi) 2 (He.ma X.K (He.ga X.K "Program") "__eq__") 2 F_Thing_eq := by
      rw [e]; exact d
    exact ⟨(show ∀ i ∈ od 12, nm i ≠ "__eq__" from by decide +kernel), z.cls 58, _, z.meth 69, d2⟩

theorem sc_Thing_eq1 : FnScope ["self", "other"] ["self", "other"] (defScope st_Thing_eq1) := C8.fnScope_by (by decide +kernel)
theorem df_Thing_eq1 (z : Kn fa fn fb K mg) (xi) : DF P w K mg base (TT K xi) 5 (He.fAd K ("Thing", some "__eq__")) 2 F_Thing_eq1 := by
  refine df_mk (z.fd 35 (d := dd_Thing_eq1) rfl rfl rfl) sc_Thing_eq1 rfl rfl (fun _ _ _ _ _ _ us hl => match us, hl with | [_, _], _ => rfl) fun cdv A outer s H E hr => ?_
  exact (dss_cons (ds_if (DW.tt (dw_or (dt_not (dt_val (de_isi (ist_Thing z xi) (z.free 33) (z.glo 36) (de_var (pv 1))))) (dw_or1 (DC.tt (dc_ne (eqB0 (n := 0) (h := 20) (by decide)) (hr.mono (Nat.zero_le _)) (de_meth0 rfl (dm_kind z xi rfl rfl rfl rfl rfl) hr (takes_of rfl rfl rfl rfl) (de_var (pv 0))) (de_meth0 rfl (dm_kind z xi rfl rfl rfl rfl rfl) hr (takes_of rfl rfl rfl rfl) (de_var (pv 1))))))))
  (dss_one (ds_ret de_bl))
  dss_nil)
  (dss_one (ds_ret (DC.ex (dc_eqOT (df_Thing_eq z xi) (own_S z xi) hr (by decide) (de_meth0 rfl (dm_facts z xi rfl rfl rfl rfl rfl) hr (takes_of rfl rfl rfl rfl) (de_var (pv 0))) (de_meth0 rfl (dm_facts z xi rfl rfl rfl rfl rfl) hr (takes_of rfl rfl rfl rfl) (de_var (pv 1))))))))
theorem sc_law_shown : FnScope ["_law_commands", "_law_found", "_law_one"] ["_law_commands"] (defScope st_law_shown) := C8.fnScope_by (by decide +kernel)
theorem df_law_shown (z : Kn fa fn fb K mg) (xi) : DF P w K mg base (TT K xi) 1 (He.fAd K ("_law_shown", none)) 1 F_law_shown := by
  refine df_mk (z.fd 36 (d := dd_law_shown) rfl rfl rfl) sc_law_shown rfl rfl (fun _ _ _ _ _ _ us hl => match us, hl with | [_], _ => rfl) fun cdv A outer s H E hr => ?_
  exact (dss_cons (ds_set sc_law_shown.nd (de_lstC da_nil))
  (dss_cons (ds_for (passes_of rfl) rfl (di_tup (de_var (pv 0))) (dg_name (pg_name sc_law_shown.nd (i := 2) rfl (by first | exact Or.inl rfl | exact Or.inr rfl)))
  (dss_one (ds_if (dt_val (de_isi (ist_Store z xi) (z.free 33) (z.glo 19) (de_var (pv 2))))
  (dss_one (ds_expr (de_append (de_var (pv 1)) (da_cons (de_tup (da_cons de_str (da_cons (de_get (tabOk z xi) nm_inj rfl (k := 2) rfl (de_var (pv 2))) (da_cons (de_get (tabOk z xi) nm_inj rfl (k := 3) rfl (de_var (pv 2))) (da_cons (de_get (tabOk z xi) nm_inj rfl (k := 6) rfl (de_var (pv 2))) da_nil))))) da_nil))))
  (dss_one (ds_expr (de_append (de_var (pv 1)) (da_cons (de_if (dt_val (de_isi (ist_Flush z xi) (z.free 33) (z.glo 20) (de_var (pv 2)))) (de_tup (da_cons de_str (da_cons (de_get (tabOk z xi) nm_inj rfl (k := 2) rfl (de_var (pv 2))) da_nil))) (de_tup (da_cons de_str da_nil))) da_nil)))))))
  (dss_one (ds_ret (de_frz (de_var (pv 1)))))))
theorem sc_law_due : FnScope ["_law_specs_here", "_law_spec"] ["_law_specs_here"] (defScope st_law_due) := C8.fnScope_by (by decide +kernel)
theorem df_law_due (z : Kn fa fn fb K mg) (xi) : DF P w K mg base (TT K xi) 2 (He.fAd K ("_law_due", none)) 1 F_law_due := by
  refine df_mk (z.fd 37 (d := dd_law_due) rfl rfl rfl) sc_law_due rfl rfl (fun _ _ _ _ _ _ us hl => match us, hl with | [_], _ => rfl) fun cdv A outer s H E hr => ?_
  exact (dss_one (ds_ret (de_lc (de_lcC (own := [("_law_spec", 1)]) rfl sc_law_due.nd (di_list (de_var (pv 0))) (blk_by (by kernel_rfl)) (fun _ _ _ _ _ => (dgk_name (pg_name sc_law_due.nd (i := 1) rfl (by first | exact Or.inl rfl | exact Or.inr rfl)))) (fun _ _ _ _ _ => dts_nil) (fun _ _ _ _ _ => (de_slice (de_var (pv 1)) do_none (do_some (de_tr (de_dget (L2.hu_of hr) (de_disp (dp_cons de_str de_int (dp_cons de_str de_int (dp_cons de_str de_int dp_nil)))) (de_ix (de_var (pv 1)) de_int) (fun _ _ => rfl))))))))))
theorem sc_Program_add : FnScope ["self", "other"] ["self", "other"] (defScope st_Program_add) := C8.fnScope_by (by decide +kernel)
theorem df_Program_add (z : Kn fa fn fb K mg) (xi) : DF P w K mg base (TT K xi) 7 (He.fAd K ("Program", some "__add__")) 2 F_Program_add := by
  refine df_mk (z.fd 38 (d := dd_Program_add) rfl rfl rfl) sc_Program_add rfl rfl (fun _ _ _ _ _ _ us hl => match us, hl with | [_, _], _ => rfl) fun cdv A outer s H E hr => ?_
  exact (dss_cons (ds_if (DC.tt (dc_ownNe (df_Thing_eq z xi) (own_S z xi) hr (by decide) (de_get (tabOk z xi) nm_inj rfl (k := 7) rfl (de_var (pv 0))) (de_get (tabOk z xi) nm_inj rfl (k := 7) rfl (de_var (pv 1)))))
  (dss_one ds_no)
  dss_nil)
  (dss_one (ds_ret (de_mkO rfl (dk_Program z xi rfl rfl rfl rfl rfl) (z.glo 16) hr (takes_of rfl rfl rfl rfl) (da_cons (de_get (tabOk z xi) nm_inj rfl (k := 7) rfl (de_var (pv 0))) (da_cons (de_add (de_get (tabOk z xi) nm_inj rfl (k := 8) rfl (de_var (pv 0))) (de_get (tabOk z xi) nm_inj rfl (k := 8) rfl (de_var (pv 1)))) da_nil))))))
theorem dm_add {X : Cx} (z : Kn fa fn fb K mg) (xi) (h1 : X.prog = P) (h2 : X.w = w) (h3 : X.K = K) (h4 : X.mg = mg) (h5 : X.base = base) : DM X (TT K xi) 7 "__add__" 2 (fun c => disp_add.lookup c) := by
  subst h1 h2 h3 h4 h5
  refine dm_of ?_
  intro p hp
  simp only [disp_add, List.mem_cons, List.not_mem_nil, or_false] at hp
  rcases hp with rfl
  · exact ⟨(show ∀ i ∈ od 12, nm i ≠ "__add__" from by decide +kernel), z.cls 58, _, z.meth 39, (df_Program_add z xi).mono (by decide)⟩

theorem sc_law_right : FnScope ["_law_source_here", "_law_sizes_so", "_law_memory_so", "_law_specs_here", "_law_more", "_law_edge", "_law_long", "_law_some", "_law_both", "_law_line_so", "_law_here", "_law_told"] ["_law_source_here"] (defScope st_law_right) := C8.fnScope_by (by decide +kernel)
theorem df_law_right (z : Kn fa fn fb K mg) (xi) : DF P w K mg base (TT K xi) 8 (He.fAd K ("_law_right", none)) 1 F_law_right := by
  refine df_mk (z.fd 39 (d := dd_law_right) rfl rfl rfl) sc_law_right rfl rfl (fun _ _ _ _ _ _ us hl => match us, hl with | [_], _ => rfl) fun cdv A outer s H E hr => ?_
  exact (dss_cons (ds_set sc_law_right.nd (de_call (df_law_sizes z xi) (z.glo 5) hr (takes_of rfl rfl rfl rfl) (da_cons (de_var (pv 0)) (da_cons de_int da_nil))))
  (dss_cons (ds_set sc_law_right.nd (de_mkO rfl (dk_Memory z xi rfl rfl rfl rfl rfl) (z.glo 6) hr (takes_of rfl rfl rfl rfl) (da_cons (de_var (pv 1)) da_nil)))
  (dss_cons (ds_par (i := 3) (j := 4) rfl sc_law_right.nd (da_cons (de_frz (de_call (df_law_specs z xi) (z.glo 13) hr (takes_of rfl rfl rfl rfl) (da_cons (de_var (pv 0)) (da_cons (de_var (pv 1)) (da_cons de_int (da_cons de_int da_nil)))))) (da_cons (de_call (df_law_specs z xi) (z.glo 13) hr (takes_of rfl rfl rfl rfl) (da_cons (de_var (pv 0)) (da_cons (de_var (pv 1)) (da_cons de_int (da_cons de_int da_nil))))) da_nil)))
  (dss_cons (ds_set sc_law_right.nd (de_call (df_law_pick z xi) (z.glo 11) hr (takes_of rfl rfl rfl rfl) (da_cons (de_var (pv 0)) (da_cons (de_lst (da_cons (de_sub (de_pow de_int de_int) de_int) (da_cons (de_sub de_int (de_pow de_int de_int)) (da_cons (de_pow de_int de_int) (da_cons de_int da_nil))))) da_nil))))
  (dss_cons (ds_asg (de_tup (da_cons de_str (da_cons de_int (da_cons de_int (da_cons (de_var (pv 5)) da_nil))))) (dg_ix rfl (de_var (pv 4)) de_int))
  (dss_cons (ds_set sc_law_right.nd (de_mul (de_add (de_var (pv 3)) (de_var (pv 4))) de_int))
  (dss_cons (ds_for (passes_of rfl) rfl (di_list (de_lst (da_cons (de_var (pv 3)) (da_cons (de_var (pv 4)) (da_cons (de_add (de_var (pv 3)) (de_var (pv 4))) (da_cons (de_lst da_nil) (da_cons (de_slice (de_var (pv 6)) do_none (do_some de_int)) da_nil))))))) (dg_name (pg_name sc_law_right.nd (i := 7) rfl (by first | exact Or.inl rfl | exact Or.inr rfl)))
  (dss_cons (ds_set sc_law_right.nd (de_call (df_law_text z xi) (z.glo 15) hr (takes_of rfl rfl rfl rfl) (da_cons (de_var (pv 7)) da_nil)))
  (dss_cons (ds_set sc_law_right.nd (de_call (df_law_program z xi) (z.glo 23) hr (takes_of rfl rfl rfl rfl) (da_cons (de_var (pv 1)) (da_cons (de_var (pv 7)) da_nil))))
  (dss_cons (ds_set sc_law_right.nd (de_call (df_read_program z xi) (z.glo 32) hr (takes_of rfl rfl rfl rfl) (da_cons (de_var (pv 2)) (da_cons (de_var (pv 9)) da_nil))))
  (dss_cons (ds_if (DW.tt (dw_or (DC.tt (dc_ne (eqB0 (n := 0) (h := 20) (by decide)) (hr.mono (Nat.zero_le _)) (de_call (df_program_text z xi) (z.glo 35) hr (takes_of rfl rfl rfl rfl) (da_cons (de_var (pv 10)) da_nil)) (de_var (pv 9)))) (dw_or (DC.tt (dc_ownNe (df_Thing_eq1 z xi) (own_S z xi) hr (by decide) (de_var (pv 11)) (de_var (pv 10)))) (dw_or1 (DC.tt (dc_ne (eqB0 (n := 0) (h := 20) (by decide)) (hr.mono (Nat.zero_le _)) (de_call (df_law_shown z xi) (z.glo 37) hr (takes_of rfl rfl rfl rfl) (da_cons (de_get (tabOk z xi) nm_inj rfl (k := 8) rfl (de_var (pv 11))) da_nil)) (de_call (df_law_due z xi) (z.glo 38) hr (takes_of rfl rfl rfl rfl) (da_cons (de_var (pv 7)) da_nil))))))))
  (dss_one (ds_ret de_bl))
  dss_nil)
  (dss_one (ds_if (DC.tt (dc_ne (eqB0 (n := 0) (h := 20) (by decide)) (hr.mono (Nat.zero_le _)) (de_get (tabOk z xi) nm_inj rfl (k := 5) rfl (de_get (tabOk z xi) nm_inj rfl (k := 7) rfl (de_var (pv 11)))) (de_tuple (z.free 7) (da_cons (de_var (pv 1)) da_nil))))
  (dss_one (ds_ret de_bl))
  dss_nil)))))))
  (dss_cons (ds_set sc_law_right.nd (de_if (DC.tt (dc_eq (eqB0 (n := 0) (h := 20) (by decide)) (hr.mono (Nat.zero_le _)) (de_var (pv 3)) (de_lst da_nil))) (de_call (df_law_text z xi) (z.glo 15) hr (takes_of rfl rfl rfl rfl) (da_cons (de_add (de_var (pv 3)) (de_var (pv 4))) da_nil)) (de_add (de_add (de_call (df_law_text z xi) (z.glo 15) hr (takes_of rfl rfl rfl rfl) (da_cons (de_var (pv 3)) da_nil)) de_str) (de_call (df_law_text z xi) (z.glo 15) hr (takes_of rfl rfl rfl rfl) (da_cons (de_var (pv 4)) da_nil)))))
  (dss_one (ds_ret (DC.ex (dc_ownEq (df_Thing_eq1 z xi) (own_S z xi) hr (by decide) (de_call (df_read_program z xi) (z.glo 32) hr (takes_of rfl rfl rfl rfl) (da_cons (de_var (pv 2)) (da_cons (de_var (pv 8)) da_nil))) (de_ownAdd (df_Program_add z xi) hr (z.slf 1) (z.meth 39) (de_call (df_law_program z xi) (z.glo 23) hr (takes_of rfl rfl rfl rfl) (da_cons (de_var (pv 1)) (da_cons (de_var (pv 3)) da_nil))) (de_call (df_law_program z xi) (z.glo 23) hr (takes_of rfl rfl rfl rfl) (da_cons (de_var (pv 1)) (da_cons (de_var (pv 4)) da_nil))))))))))))))))
theorem sc_law : FnScope ["_law_script", "_law_cell", "_law_source_here"] ["_law_script"] (defScope st_law) := C8.fnScope_by (by decide +kernel)
theorem fn_law (z : Kn fa fn fb K mg) (xi) {fd : FuncData} (F : FunD K "law" "law" (defArgs st_law) (defBody st_law) (defScope st_law) [] [] (He.ga K "law") fd) : FnOk P w K mg base (L2.CX P w) 9 (He.ga K "law") fd ["_law_script"] (spD (TT K xi) K 1 F_law) := by
  refine fn_mk F sc_law rfl rfl fun cdv A outer s H E hr => ?_
  exact (dss_cons (ds_for (passes_of rfl) rfl (di_list (de_slice (de_add (de_var (pv 0)) (de_lst (da_cons de_int da_nil))) do_none (do_some de_int))) (dg_name (pg_name sc_law.nd (i := 1) rfl (by first | exact Or.inl rfl | exact Or.inr rfl)))
  (dss_cons (ds_set sc_law.nd (de_call (df_law_source z xi) (z.glo 2) hr (takes_of rfl rfl rfl rfl) (da_cons (de_var (pv 1)) da_nil)))
  (dss_one (ds_if (dt_not (dt_val (de_call (df_law_right z xi) (z.glo 40) hr (takes_of rfl rfl rfl rfl) (da_cons (de_var (pv 2)) da_nil))))
  (dss_one (ds_ret de_bl))
  dss_nil))))
  (dss_one (ds_ret de_bl)))
end
abbrev R : PySem.W.OpenRow := PySem.W.OpenLaw.row PySem.Challenge.rw_lateststore_k71_programs_written_and_rea
abbrev hk : PySem.W.Hook := hookM 5 fa fn fb
def ob (s : PySem.W.SharedT) : AlM := obsMG 5 fa fn fb (HandSHeadRun.getT s)
theorem ob_eq (s : PySem.W.SharedT) : ob s = hk.obs s.abs := obsMG_eq (HandSHeadRun.getT_eq s)
theorem headrun (w : World) : HandSHeadRun.RunEq R (PySem.W.view R.prog [43]) hk ob 30000 names w := by
  intro os
  kernel_rfl
end K71
open PySem PySem.W PySem.Calls PyProof.Rows
theorem PySem.Challenge.cw_lateststore_k71_programs_written_and_rea_holds : PySem.Challenge.rw_lateststore_k71_programs_written_and_rea.Holds := by
  w_on; o_law
  refine HandSHeadRun.head_any (r := OpenLaw.row PySem.Challenge.rw_lateststore_k71_programs_written_and_rea) (q := view (OpenLaw.row PySem.Challenge.rw_lateststore_k71_programs_written_and_rea).prog [43]) (H := K71.hk) (ob := K71.ob) (M := 30000) (loose := K71.names)
    (d := HandSHeadRun.topDef (OpenLaw.row PySem.Challenge.rw_lateststore_k71_programs_written_and_rea).prog 43) (kwd := []) K71.ob_eq
    (by kernel_rfl) (fun s => by kernel_rfl) K71.headrun (by kernel_rfl) (by kernel_rfl) (by kernel_rfl) (by rfl) (by first | assumption | decide +kernel) (by decide +kernel) ⟨rfl, rfl, rfl, rfl, rfl, by decide +kernel⟩ ?hw ?hc
  case hw => w_witness2
  case hc =>
    refine DL.walk_ofX (l := PySem.Challenge.rw_lateststore_k71_programs_written_and_rea) (n := 63) (k := 9) (x := "_law_script") rfl (by decide) (by kernel_rfl) ⟨rfl, by decide, by decide⟩ ?F
    intro w mg fa h Y G hmg0
    obtain ⟨K, KX, c⟩ := Y
    have z : DL.Kn K71.fa K71.fn K71.fb K mg := DL.Kn.of KX G c
    have hmg : mg ("law" : PySem.Str) = some (.ref fa) := by
      have e : (HandSHeadRun.topDef (OpenLaw.row PySem.Challenge.rw_lateststore_k71_programs_written_and_rea).prog 43).name = ("law" : PySem.Str) := by kernel_rfl
      rw [← e]
      exact hmg0
    have e := hmg.symm.trans (z.glo 77)
    cases e
    obtain ⟨fd, F⟩ := z.fd 40 (d := K71.dd_law) rfl rfl rfl
    have b := L2.FunD.bindsA (ps := ["_law_script"]) F fun _ _ _ _ _ _ us hl => match us, hl with | [_], _ => rfl
    exact ⟨K, fd, _, KX, fun s v => b s [v] rfl, fun H a ns hl hbt hS => DL.law_sp hS (K71.law_true ns hl hbt), fun base _ _ => K71.fn_law z none F⟩
end
