import PyProof.Rows.All
import Wide.All
import OpenK.AllK
import Wide.FinOn
import HandS.ForMost
import HandS.ForExc
import HandS.Wide
import HandS.Gcd
import HandS.TupAny
import HandS.NoneIn
import HandS.Zip
import HandS.Style
import HandS.IsInst
import HandS.Conv
import HandS.SortRule
import HandS.SortInts
import HandS.TryMany
import HandS.ExcSuper
import KE.DataEq
import HandS.CallSlots
import HandS.TryOnly
import HandS.SetKeys
import HandS.DictComp
import HandS.Iter
import HandS.IterVal
import KE.GoesRev
import KE.KDictZip
import KE.KStar
import HandS.Star
import HandS.ExcValue
import PySem.Challenge.RW_turnprimes_k79_tables
set_option Elab.async false
set_option linter.all false
set_option autoImplicit false
set_option maxRecDepth 100000
set_option maxHeartbeats 4000000
/-! The value layer: each construct computes a function on PyData. -/
namespace L2.VL
open PySem PySem.Spec PyProof.Rows

abbrev D := PyData
def kD : Key → D
  | .inl i => .int i
  | .inr x => .str x

mutual
inductive Rp (K : PySem.W.Frag) (F : Hp) : V → D → Prop
  | non : Rp K F .non .none
  | bl (b : Bool) : Rp K F (.bl b) (.bool b)
  | int (i : Int) : Rp K F (.int i) (.int i)
  | str (x : Str) : Rp K F (.str x) (.str x)
  | lst {a : Addr} {xs : List V} {ds : List D} : SqL K F a xs → RpA K F xs ds → Rp K F (.ref a) (.list ds)
  | tup {a : Addr} {xs : List V} {ds : List D} : SqT K F a xs → RpA K F xs ds → Rp K F (.ref a) (.tuple ds)
  | dct {a : Addr} {kvs : List (Key × V)} {ds : List D} {qs : List (D × D)} : F a = some (.dK kvs) → RpA K F (kvs.map (·.2)) ds → qs = (kvs.map fun p => kD p.1).zip ds → Rp K F (.ref a) (.dict qs)
inductive RpA (K : PySem.W.Frag) (F : Hp) : List V → List D → Prop
  | nil : RpA K F [] []
  | cons {v : V} {vs : List V} {d : D} {ds : List D} : Rp K F v d → RpA K F vs ds → RpA K F (v :: vs) (d :: ds)
end

/-! ### heaps -/
theorem Same.rd {F F' : Hp} (h : Same F F') {a : Addr} {u : HO} (r : Rd F a u) : Rd F' a u := by
  rcases r with r | ⟨o, r⟩
  · exact .inl (h _ _ r)
  · exact .inr ⟨o, h _ _ r⟩
theorem Same.sqT {K : PySem.W.Frag} {F F' : Hp} (h : Same F F') {a : Addr} {xs : List V} (r : SqT K F a xs) : SqT K F' a xs := by
  rcases r with r | r
  · exact .inl (VL.Same.rd h r)
  · exact .inr r
theorem Same.upd {H : Hp} {p : Addr} {o : HO} (h : H p = none) : Same H (upd H p o) := fun b x e => by
  rw [upd_ne (ne_of_none e h)]
  exact e

mutual
theorem Rp.mono {K : PySem.W.Frag} {F F' : Hp} (h : Same F F') : ∀ {v : V} {d : D}, Rp K F v d → Rp K F' v d
  | _, _, .non => .non
  | _, _, .bl b => .bl b
  | _, _, .int i => .int i
  | _, _, .str x => .str x
  | _, _, .lst s r => .lst (h.seq s) (RpA.mono h r)
  | _, _, .tup s r => .tup (VL.Same.sqT h s) (RpA.mono h r)
  | _, _, .dct s r e => .dct (h _ _ s) (RpA.mono h r) e
theorem RpA.mono {K : PySem.W.Frag} {F F' : Hp} (h : Same F F') : ∀ {vs : List V} {ds : List D}, RpA K F vs ds → RpA K F' vs ds
  | _, _, .nil => .nil
  | _, _, .cons a b => .cons (Rp.mono h a) (RpA.mono h b)
end
section
variable {K : PySem.W.Frag} {F : Hp}
theorem RpA.length : ∀ {vs : List V} {ds : List D}, RpA K F vs ds → vs.length = ds.length
  | _, _, .nil => rfl
  | _, _, .cons _ b => congrArg (· + 1) (RpA.length b)
theorem RpA.getD : ∀ {vs : List V} {ds : List D} {i : Nat} {d : D}, RpA K F vs ds → ds[i]? = some d → ∃ v, vs[i]? = some v ∧ Rp K F v d
  | _, _, _, _, .nil, e => by simp at e
  | _, _, 0, _, .cons a _, e => by simp at e; subst e; exact ⟨_, rfl, a⟩
  | _, _, i + 1, d, .cons _ b, e => by
    obtain ⟨v, h1, h2⟩ := RpA.getD (i := i) (d := d) b (by simpa using e)
    exact ⟨v, by simpa using h1, h2⟩
theorem RpA.getV : ∀ {vs : List V} {ds : List D} {i : Nat} {v : V}, RpA K F vs ds → vs[i]? = some v → ∃ d, ds[i]? = some d ∧ Rp K F v d
  | _, _, _, _, .nil, e => by simp at e
  | _, _, 0, _, .cons a _, e => by simp at e; subst e; exact ⟨_, rfl, a⟩
  | _, _, i + 1, v, .cons _ b, e => by
    obtain ⟨d, h1, h2⟩ := RpA.getV (i := i) (v := v) b (by simpa using e)
    exact ⟨d, by simpa using h1, h2⟩
theorem RpA.append : ∀ {vs ws : List V} {ds es : List D}, RpA K F vs ds → RpA K F ws es → RpA K F (vs ++ ws) (ds ++ es)
  | _, _, _, _, .nil, s => s
  | _, _, _, _, .cons r t, s => .cons r (RpA.append t s)
theorem RpA.take : ∀ {vs : List V} {ds : List D} (n : Nat), RpA K F vs ds → RpA K F (vs.take n) (ds.take n)
  | _, _, 0, _ => .nil
  | _, _, _ + 1, .nil => .nil
  | _, _, n + 1, .cons r t => .cons r (RpA.take n t)
theorem RpA.drop : ∀ {vs : List V} {ds : List D} (n : Nat), RpA K F vs ds → RpA K F (vs.drop n) (ds.drop n)
  | _, _, 0, r => r
  | _, _, _ + 1, .nil => .nil
  | _, _, n + 1, .cons _ t => RpA.drop n t
theorem RpA.set {v : V} {d : D} (r : Rp K F v d) : ∀ {vs : List V} {ds : List D} (i : Nat), RpA K F vs ds → RpA K F (vs.set i v) (ds.set i d)
  | _, _, _, .nil => .nil
  | _, _, 0, .cons _ t => .cons r t
  | _, _, i + 1, .cons q t => .cons q (RpA.set r i t)
theorem RpA.eraseIdx : ∀ {vs : List V} {ds : List D} (i : Nat), RpA K F vs ds → RpA K F (vs.eraseIdx i) (ds.eraseIdx i)
  | _, _, _, .nil => .nil
  | _, _, 0, .cons _ t => t
  | _, _, i + 1, .cons q t => .cons q (RpA.eraseIdx i t)
theorem RpA.dropLast {vs : List V} {ds : List D} (h : RpA K F vs ds) : RpA K F vs.dropLast ds.dropLast := by
  rw [List.dropLast_eq_take, List.dropLast_eq_take, h.length]
  exact h.take _
theorem RpA.reverse : ∀ {vs : List V} {ds : List D}, RpA K F vs ds → RpA K F vs.reverse ds.reverse
  | _, _, .nil => .nil
  | _, _, .cons a b => by
    rw [List.reverse_cons, List.reverse_cons]
    exact (RpA.reverse b).append (.cons a .nil)
theorem RpA.rep {vs : List V} {ds : List D} (h : RpA K F vs ds) : ∀ k : Nat, RpA K F (List.replicate k vs).flatten (List.replicate k ds).flatten
  | 0 => .nil
  | k + 1 => by
    rw [List.replicate_succ, List.replicate_succ, List.flatten_cons, List.flatten_cons]
    exact h.append (h.rep k)
theorem RpA.ints : ∀ {vs : List V} {ns : List Int}, RpA K F vs (ns.map PyData.int) → vs = ns.map V.int
  | [], [], _ => rfl
  | _ :: _, [], h => by cases h
  | [], _ :: _, h => by cases h
  | v :: vs, n :: ns, h => by
    cases h with
    | cons a b =>
      cases a
      rw [RpA.ints b]; rfl
theorem RpA.ofInts : ∀ (ns : List Int), RpA K F (ns.map V.int) (ns.map PyData.int)
  | [] => .nil
  | _ :: ns => .cons (.int _) (RpA.ofInts ns)
end

/-- growth: F the frozen part of H -/
structure Gr (F H F' H' : Hp) : Prop where
  hh : Same H H'
  ff : Same F F'
  fh : Same F' H'
  new : ∀ a o, F' a = some o → F a = some o ∨ H a = none
theorem Gr.refl {F H : Hp} (h : Same F H) : Gr F H F H := ⟨Same.refl _, Same.refl _, h, fun _ _ e => .inl e⟩
theorem Gr.trans {F H F' H' F'' H'' : Hp} (a : Gr F H F' H') (b : Gr F' H' F'' H'') : Gr F H F'' H'' :=
  ⟨a.hh.trans b.hh, a.ff.trans b.ff, b.fh, fun p o e => by
    rcases b.new p o e with h | h
    · exact a.new p o h
    · exact .inr (a.hh.free h)⟩
theorem Gr.alloc {F H : Hp} (s : Same F H) {p : Addr} (o : HO) (h : H p = none) : Gr F H (upd F p o) (upd H p o) :=
  ⟨VL.Same.upd h, VL.Same.upd (s.free h), fun b x e => by
    by_cases hb : b = p
    · subst hb; rw [upd_same] at e ⊢; exact e
    · rw [upd_ne hb] at e ⊢; exact s _ _ e, fun a x e => by
    by_cases hb : a = p
    · subst hb; exact .inr h
    · rw [upd_ne hb] at e; exact .inl e⟩
theorem Gr.junk {F H : Hp} (s : Same F H) {p : Addr} (o : HO) (h : H p = none) : Gr F H F (upd H p o) :=
  ⟨VL.Same.upd h, Same.refl _, s.trans (VL.Same.upd h), fun a x e => .inl e⟩

def kTD (ks : List Key) : D := .tuple (ks.map kD)
def RpD {κ : Type} (kf : κ → D) (K : PySem.W.Frag) (F : Hp) (ws : List (κ × V)) (qs : List (D × D)) : Prop := ∃ ds, RpA K F (ws.map (·.2)) ds ∧ qs = (ws.map fun p => kf p.1).zip ds
theorem RpD.mono {κ : Type} {kf : κ → D} {K : PySem.W.Frag} {F F' : Hp} (h : Same F F') {a : List (κ × V)} {b : List (D × D)} (r : RpD kf K F a b) : RpD kf K F' a b := let ⟨ds, h1, h2⟩ := r; ⟨ds, h1.mono h, h2⟩
/-- what may be read: frozen, or a list, a dict whose items are frozen -/
inductive RpOw (K : PySem.W.Frag) (F H : Hp) : V → D → Prop
  | lst {a : Addr} {vs : List V} {ds : List D} : H a = some (.lst vs) → RpA K F vs ds → RpOw K F H (.ref a) (.list ds)
  | dK {a : Addr} {ws : List (Key × V)} {qs : List (D × D)} : H a = some (.dK ws) → RpD kD K F ws qs → RpOw K F H (.ref a) (.dict qs)
  | dT {a : Addr} {ws : List (List Key × V)} {qs : List (D × D)} : H a = some (.dT ws) → RpD kTD K F ws qs → RpOw K F H (.ref a) (.dict ((.none, .none) :: qs))
def RpO (K : PySem.W.Frag) (F H : Hp) (v : V) (d : D) : Prop := Rp K F v d ∨ RpOw K F H v d
theorem RpO.grow {K : PySem.W.Frag} {F H F' H' : Hp} {v : V} {d : D} (h : RpO K F H v d) (g : Gr F H F' H') : RpO K F' H' v d := by
  rcases h with h | h
  · exact .inl (h.mono g.ff)
  · cases h with
    | lst h1 h2 => exact .inr (.lst (g.hh _ _ h1) (h2.mono g.ff))
    | dK h1 h2 => exact .inr (.dK (g.hh _ _ h1) (h2.mono g.ff))
    | dT h1 h2 => exact .inr (.dT (g.hh _ _ h1) (h2.mono g.ff))
theorem RpO.int {K : PySem.W.Frag} {F H : Hp} {v : V} {i : Int} (h : RpO K F H v (.int i)) : v = .int i := by
  rcases h with h | h <;> cases h; rfl
theorem RpO.str {K : PySem.W.Frag} {F H : Hp} {v : V} {i : Str} (h : RpO K F H v (.str i)) : v = .str i := by
  rcases h with h | h <;> cases h; rfl
theorem RpO.bl {K : PySem.W.Frag} {F H : Hp} {v : V} {i : Bool} (h : RpO K F H v (.bool i)) : v = .bl i := by
  rcases h with h | h <;> cases h; rfl
theorem RpO.non {K : PySem.W.Frag} {F H : Hp} {v : V} (h : RpO K F H v .none) : v = .non := by
  rcases h with h | h <;> cases h; rfl
theorem RpO.list {K : PySem.W.Frag} {F H : Hp} {v : V} {ds : List D} (s : Same F H) (h : RpO K F H v (.list ds)) : ∃ a vs, v = .ref a ∧ SqL K H a vs ∧ RpA K F vs ds := by
  rcases h with h | h
  · cases h with
    | lst x y => exact ⟨_, _, rfl, s.seq x, y⟩
  · cases h with
    | lst x y => exact ⟨_, _, rfl, .of x, y⟩
theorem RpO.tuple {K : PySem.W.Frag} {F H : Hp} {v : V} {ds : List D} (s : Same F H) (h : RpO K F H v (.tuple ds)) : ∃ a vs, v = .ref a ∧ SqT K H a vs ∧ RpA K F vs ds ∧ SqT K F a vs := by
  rcases h with h | h
  · cases h with
    | tup x y => exact ⟨_, _, rfl, VL.Same.sqT s x, y, x⟩
  · cases h

/-! ### results -/
structure Ex where
  cls : Str
  fs : List (Str × D)
inductive R (α : Type) where
  | ok (a : α)
  | exc (e : Ex)
  | bad
def R.bind {α β : Type} (r : R α) (f : α → R β) : R β := match r with
  | .ok a => f a
  | .exc e => .exc e
  | .bad => .bad
def R.ofO {α : Type} : Option α → R α
  | some a => .ok a
  | none => .bad
@[simp] theorem R.bind_ok {α β : Type} (a : α) (f : α → R β) : (R.ok a).bind f = f a := rfl
@[simp] theorem R.bind_exc {α β : Type} (e : Ex) (f : α → R β) : (R.exc e : R α).bind f = .exc e := rfl
@[simp] theorem R.bind_bad {α β : Type} (f : α → R β) : (R.bad : R α).bind f = .bad := rfl
@[simp] theorem R.ofO_some {α : Type} (a : α) : R.ofO (some a) = .ok a := rfl
@[simp] theorem R.ofO_none {α : Type} : R.ofO (none : Option α) = .bad := rfl

/-! ### the slots -/
inductive Sl where
  | fz (d : D)
  | ol (ds : List D)
  | oK (qs : List (D × D))
  | oT (qs : List (D × D))
abbrev Rho := List (Option Sl)
def Sl.own : Sl → Bool
  | .fz _ => false
  | _ => true
/-- pairs of a dict -/
def RpK {κ : Type} (K : PySem.W.Frag) (F : Hp) : List (κ × V) → List (κ × D) → Prop := Paired fun p q => p.1 = q.1 ∧ Rp K F p.2 q.2
def SlOk (K : PySem.W.Frag) (H0 F H : Hp) : Sl → V → Prop
  | .fz d, v => Rp K F v d
  | .ol ds, v => ∃ a vs, v = .ref a ∧ H a = some (.lst vs) ∧ RpA K F vs ds ∧ F a = none ∧ H0 a = none
  | .oK qs, v => ∃ a ws, v = .ref a ∧ H a = some (.dK ws) ∧ RpD kD K F ws qs ∧ F a = none ∧ H0 a = none
  | .oT qs, v => ∃ a ws, v = .ref a ∧ H a = some (.dT ws) ∧ RpD kTD K F ws qs ∧ F a = none ∧ H0 a = none
theorem RpK.mono {κ : Type} {K : PySem.W.Frag} {F F' : Hp} (h : Same F F') {a : List (κ × V)} {b : List (κ × D)} (r : RpK K F a b) : RpK K F' a b :=
  Paired.mapP r fun _ _ z => ⟨z.1, z.2.mono h⟩
theorem SlOk.own {K : PySem.W.Frag} {H0 F H : Hp} {s : Sl} {v : V} (h : SlOk K H0 F H s v) (o : s.own = true) : ∃ a u, v = .ref a ∧ H a = some u ∧ F a = none ∧ H0 a = none := by
  cases s with
  | fz d => cases o
  | ol ds => obtain ⟨a, vs, e1, e2, _, e3, e4⟩ := h; exact ⟨a, _, e1, e2, e3, e4⟩
  | oK ds => obtain ⟨a, vs, e1, e2, _, e3, e4⟩ := h; exact ⟨a, _, e1, e2, e3, e4⟩
  | oT ds => obtain ⟨a, vs, e1, e2, _, e3, e4⟩ := h; exact ⟨a, _, e1, e2, e3, e4⟩
/-- the heap goes on, the slot's own cell is as it was -/
theorem SlOk.move {K : PySem.W.Frag} {H0 F H F' H' : Hp} {s : Sl} {v : V} (h : SlOk K H0 F H s v) (ff : Same F F') (c : ∀ a u, v = .ref a → s.own = true → H a = some u → F a = none → H' a = some u ∧ F' a = none) : SlOk K H0 F' H' s v := by
  cases s with
  | fz d => exact Rp.mono ff h
  | ol ds =>
    obtain ⟨a, vs, e1, e2, e3, e4, e5⟩ := h
    obtain ⟨c1, c2⟩ := c a _ e1 rfl e2 e4
    exact ⟨a, vs, e1, c1, e3.mono ff, c2, e5⟩
  | oK ds =>
    obtain ⟨a, vs, e1, e2, e3, e4, e5⟩ := h
    obtain ⟨c1, c2⟩ := c a _ e1 rfl e2 e4
    exact ⟨a, vs, e1, c1, e3.mono ff, c2, e5⟩
  | oT ds =>
    obtain ⟨a, vs, e1, e2, e3, e4, e5⟩ := h
    obtain ⟨c1, c2⟩ := c a _ e1 rfl e2 e4
    exact ⟨a, vs, e1, c1, e3.mono ff, c2, e5⟩

structure RE (K : PySem.W.Frag) (H0 F0 F H : Hp) (ρ : Rho) (σ : St) : Prop where
  same : Same H0 H
  sub : Same F H
  ext : Same F0 F
  new : ∀ a o, F a = some o → F0 a = some o ∨ H0 a = none
  len : σ.length = ρ.length
  ok : ∀ (i : Nat) (s : Sl), ρ[i]? = some (some s) → ∃ v, σ[i]? = some (some v) ∧ SlOk K H0 F H s v
  apart : ∀ (i j : Nat) (s t : Sl) (a : Addr), ρ[i]? = some (some s) → s.own = true → ρ[j]? = some (some t) → t.own = true → σ[i]? = some (some (V.ref a)) → σ[j]? = some (some (V.ref a)) → i = j
section
variable {K : PySem.W.Frag} {H0 F0 F H F' H' : Hp} {ρ : Rho} {σ : St}
theorem RE.grow (r : RE K H0 F0 F H ρ σ) (g : Gr F H F' H') : RE K H0 F0 F' H' ρ σ := by
  refine ⟨r.same.trans g.hh, g.fh, r.ext.trans g.ff, fun a o e => ?_, r.len, fun i s e => ?_, r.apart⟩
  · rcases g.new a o e with h | h
    · exact r.new a o h
    · exact .inr (r.same.free h)
  · obtain ⟨v, e1, e2⟩ := r.ok i s e
    refine ⟨v, e1, e2.move g.ff fun a u e3 e4 e5 e6 => ⟨g.hh _ _ e5, ?_⟩⟩
    cases q : F' a with
    | none => rfl
    | some o =>
      rcases g.new a o q with h | h
      · rw [e6] at h; cases h
      · rw [e5] at h; cases h
/-- forgetting -/
theorem RE.sets (r : RE K H0 F0 F H ρ σ) {i : Nat} {s : Sl} {v : V} (h : SlOk K H0 F H s v) (hs : s.own = true → ∀ a, v = .ref a → ∀ (j : Nat) (t : Sl), j ≠ i → ρ[j]? = some (some t) → t.own = true → σ[j]? ≠ some (some (V.ref a))) : RE K H0 F0 F H (ρ.set i (some s)) (σ.set i (some v)) := by
  refine ⟨r.same, r.sub, r.ext, r.new, by rw [List.length_set, List.length_set, r.len], fun j t e => ?_, fun j k t u a e1 e2 e3 e4 e5 e6 => ?_⟩
  · by_cases hj : i = j
    · subst hj
      by_cases hl : i < ρ.length
      · rw [List.getElem?_set_self hl] at e
        cases e
        exact ⟨v, List.getElem?_set_self (by rw [r.len]; exact hl), h⟩
      · rw [List.getElem?_eq_none (by rw [List.length_set]; omega)] at e; cases e
    · rw [List.getElem?_set_ne hj] at e
      rw [List.getElem?_set_ne hj]
      exact r.ok j t e
  · by_cases hj : i = j
    · by_cases hk : i = k
      · exact hj.symm.trans hk
      · subst hj
        by_cases hl : i < ρ.length
        · rw [List.getElem?_set_self hl] at e1
          rw [List.getElem?_set_self (by rw [r.len]; exact hl)] at e5
          rw [List.getElem?_set_ne hk] at e3 e6
          cases e1; cases e5
          exact absurd e6 (hs e2 a rfl k u (Ne.symm hk) e3 e4)
        · rw [List.getElem?_eq_none (by rw [List.length_set]; omega)] at e1; cases e1
    · by_cases hk : i = k
      · subst hk
        by_cases hl : i < ρ.length
        · rw [List.getElem?_set_self hl] at e3
          rw [List.getElem?_set_self (by rw [r.len]; exact hl)] at e6
          rw [List.getElem?_set_ne hj] at e1 e5
          cases e3; cases e6
          exact absurd e5 (hs e4 a rfl j t (Ne.symm hj) e1 e2)
        · rw [List.getElem?_eq_none (by rw [List.length_set]; omega)] at e3; cases e3
      · rw [List.getElem?_set_ne hj] at e1 e5
        rw [List.getElem?_set_ne hk] at e3 e6
        exact r.apart j k t u a e1 e2 e3 e4 e5 e6
theorem RE.setF (r : RE K H0 F0 F H ρ σ) {i : Nat} {d : D} {v : V} (h : Rp K F v d) : RE K H0 F0 F H (ρ.set i (some (.fz d))) (σ.set i (some v)) :=
  r.sets (s := .fz d) h (fun o => by cases o)
/-- a new cell of one's own -/
theorem RE.setN (r : RE K H0 F0 F H ρ σ) {i : Nat} {s : Sl} {a : Addr} {o : HO} (hn : H a = none) (h : SlOk K H0 F (upd H a o) s (.ref a)) : RE K H0 F0 F (upd H a o) (ρ.set i (some s)) (σ.set i (some (.ref a))) := by
  refine (r.grow (Gr.junk r.sub o hn)).sets h fun ho b eb j t hj e1 e2 e3 => ?_
  cases eb
  obtain ⟨v, q1, q2⟩ := r.ok j t e1
  obtain ⟨c, u, q3, q4, _⟩ := q2.own e2
  rw [e3] at q1; cases q1; cases q3
  rw [hn] at q4; cases q4
/-- a cell of one's own is written -/
theorem RE.write (r : RE K H0 F0 F H ρ σ) {i : Nat} {s s' : Sl} {a : Addr} {o : HO} (e : ρ[i]? = some (some s)) (ho : s.own = true) (ev : σ[i]? = some (some (V.ref a))) (h : SlOk K H0 F (upd H a o) s' (.ref a)) :
    RE K H0 F0 F (upd H a o) (ρ.set i (some s')) σ := by
  obtain ⟨v, q1, q2⟩ := r.ok i s e
  obtain ⟨c, u, q3, q4, q5, q6⟩ := q2.own ho
  rw [ev] at q1; cases q1; cases q3
  have hl : i < ρ.length := (List.getElem?_eq_some_iff.mp e).1
  refine ⟨fun b x eb => ?_, fun b x eb => ?_, r.ext, r.new, by rw [List.length_set, r.len], fun j t et => ?_, fun j k t u2 b e1 e2 e3 e4 e5 e6 => ?_⟩
  · rw [upd_ne (ne_of_none eb q6)]; exact r.same _ _ eb
  · rw [upd_ne (ne_of_none eb q5)]; exact r.sub _ _ eb
  · by_cases hj : i = j
    · subst hj
      rw [List.getElem?_set_self hl] at et; cases et
      exact ⟨_, ev, h⟩
    · rw [List.getElem?_set_ne hj] at et
      obtain ⟨w, z1, z2⟩ := r.ok j t et
      refine ⟨w, z1, z2.move (Same.refl _) fun b u' f1 f2 f3 f4 => ⟨?_, f4⟩⟩
      have hb : b ≠ a := fun z => by
        subst z; subst f1
        exact hj (r.apart i j s t b e ho et f2 ev z1)
      rw [upd_ne hb]; exact f3
  · have back : ∀ {j : Nat} {t : Sl}, (ρ.set i (some s'))[j]? = some (some t) → t.own = true → ∃ t' : Sl, ρ[j]? = some (some t') ∧ t'.own = true := fun {j t} x y => by
      by_cases hj : i = j
      · subst hj; exact ⟨s, e, ho⟩
      · rw [List.getElem?_set_ne hj] at x; exact ⟨t, x, y⟩
    obtain ⟨t', x1, x2⟩ := back e1 e2
    obtain ⟨u', x3, x4⟩ := back e3 e4
    exact r.apart j k t' u' b x1 x2 x3 x4 e5 e6
/-- a list of one's own is frozen -/
theorem RE.freeze (r : RE K H0 F0 F H ρ σ) {i : Nat} {ds : List D} (e : ρ[i]? = some (some (.ol ds))) : ∃ F', Same F F' ∧ RE K H0 F0 F' H (ρ.set i (some (.fz (.list ds)))) σ := by
  obtain ⟨v, q1, a, vs, rfl, q2, q3, q4, q5⟩ := r.ok i _ e
  have hl : i < ρ.length := (List.getElem?_eq_some_iff.mp e).1
  have hff : Same F (upd F a (.lst vs)) := VL.Same.upd q4
  refine ⟨upd F a (.lst vs), hff, r.same, fun b x eb => ?_, r.ext.trans hff, fun b x eb => ?_, by rw [List.length_set, r.len], fun j t et => ?_, fun j k t u2 b e1 e2 e3 e4 e5 e6 => ?_⟩
  · by_cases hb : b = a
    · subst hb; rw [upd_same] at eb; cases eb; exact q2
    · rw [upd_ne hb] at eb; exact r.sub _ _ eb
  · by_cases hb : b = a
    · subst hb; exact .inr q5
    · rw [upd_ne hb] at eb; exact r.new _ _ eb
  · by_cases hj : i = j
    · subst hj
      rw [List.getElem?_set_self hl] at et; cases et
      exact ⟨_, q1, .lst (.of upd_same) (q3.mono hff)⟩
    · rw [List.getElem?_set_ne hj] at et
      obtain ⟨w, z1, z2⟩ := r.ok j t et
      refine ⟨w, z1, z2.move hff fun b u' f1 f2 f3 f4 => ⟨f3, ?_⟩⟩
      have hb : b ≠ a := fun z => by
        subst z; subst f1
        exact hj (r.apart i j _ t b e rfl et f2 q1 z1)
      rw [upd_ne hb]; exact f4
  · have back : ∀ {j : Nat} {t : Sl}, (ρ.set i (some (.fz (.list ds))))[j]? = some (some t) → t.own = true → ρ[j]? = some (some t) := fun {j t} x y => by
      by_cases hj : i = j
      · subst hj
        rw [List.getElem?_set_self hl] at x; cases x; cases y
      · rw [List.getElem?_set_ne hj] at x; exact x
    exact r.apart j k t u2 b (back e1 e2) e2 (back e3 e4) e4 e5 e6
/-- slots forgotten -/
theorem RE.weak (r : RE K H0 F0 F H ρ σ) {ρ' : Rho} {σ' : St} (hl : σ'.length = ρ'.length) (h : ∀ (i : Nat) (s : Sl), ρ'[i]? = some (some s) → ρ[i]? = some (some s)) (hσ : ∀ (i : Nat) (s : Sl), ρ'[i]? = some (some s) → σ'[i]? = σ[i]?) : RE K H0 F0 F H ρ' σ' :=
  ⟨r.same, r.sub, r.ext, r.new, hl, fun i s e => by rw [hσ i s e]; exact r.ok i s (h i s e), fun i j s t a e1 e2 e3 e4 e5 e6 => r.apart i j s t a (h _ _ e1) e2 (h _ _ e3) e4 (by rw [← hσ _ _ e1]; exact e5) (by rw [← hσ _ _ e3]; exact e6)⟩
end
end L2.VL

set_option Elab.async false
set_option linter.all false
set_option autoImplicit false
set_option maxRecDepth 100000
set_option maxHeartbeats 4000000
namespace L2.VL
open PySem PySem.Spec PyProof.Rows

/-! ### weakening -/
section
variable {X : Cx} {e : Expr} {st : Stmt} {sts : List Stmt}
theorem peW {t t' : TE} (h : PE X e t) (w : ∀ σ H Q, t' σ H Q → t σ H Q) : PE X e t' := ⟨fun p s σ H Q I q => h.run p s σ H Q I (w _ _ _ q)⟩
theorem ptW {t t' : TT} (h : PT X e t) (w : ∀ σ H Q, t' σ H Q → t σ H Q) : PT X e t' := ⟨fun p s σ H Q I q => h.run p s σ H Q I (w _ _ _ q)⟩
theorem psW {t t' : TS} (h : PS X st t) (w : ∀ D σ H, t' D σ H → t D σ H) : PS X st t' := ⟨fun p s σ H Q I q => h.run p s σ H Q I (w _ _ _ q)⟩
theorem pssW {t t' : TS} (h : PSs X sts t) (w : ∀ D σ H, t' D σ H → t D σ H) : PSs X sts t' := ⟨fun p s σ H Q I q => h.run p s σ H Q I (w _ _ _ q)⟩
end

/-! ### how a result is handed on -/
structure ExOk (K : PySem.W.Frag) (mg : Str → Option Value) (F H : Hp) (e : Ex) (cls : Value) (dx : Option Addr) : Prop where
  cls : ∃ C, mg e.cls = some (.ref C) ∧ cls = .ref C
  fs : (e.fs = [] ∧ dx = none) ∨ ∃ d ws, dx = some d ∧ H d = some (.xd ws) ∧ RpK K F ws e.fs
def Rk (K : PySem.W.Frag) (mg : Str → Option Value) (W : WX) (F H : Hp) (σ : St) {α : Type} (r : R α) (k : α → Hp → Hp → Prop) : Prop := match r with
  | .ok a => ∀ F' H', Gr F H F' H' → k a F' H'
  | .exc e => ∀ F' H' cls dx, Gr F H F' H' → ExOk K mg F' H' e cls dx → W cls dx σ H'
  | .bad => False
section
variable {K : PySem.W.Frag} {mg : Str → Option Value} {W : WX} {F H F' H' : Hp} {σ : St} {α β : Type}
theorem Rk.imp {r : R α} {k k' : α → Hp → Hp → Prop} (h : Rk K mg W F H σ r k) (w : ∀ a F' H', Gr F H F' H' → k a F' H' → k' a F' H') : Rk K mg W F H σ r k' := by
  cases r with
  | ok a => exact fun F' H' g => w a F' H' g (h F' H' g)
  | exc e => exact h
  | bad => exact h
theorem Rk.grow {r : R α} {k : α → Hp → Hp → Prop} (h : Rk K mg W F H σ r k) (g : Gr F H F' H') : Rk K mg W F' H' σ r k := by
  cases r with
  | ok a => exact fun F'' H'' g' => h F'' H'' (g.trans g')
  | exc e => exact fun F'' H'' cls dx g' => h F'' H'' cls dx (g.trans g')
  | bad => exact h
theorem Rk.bind {r : R α} {f : α → R β} {k : β → Hp → Hp → Prop} (h : Rk K mg W F H σ (r.bind f) k) : Rk K mg W F H σ r fun a F' H' => Rk K mg W F' H' σ (f a) k := by
  cases r with
  | ok a => exact fun F' H' g => Rk.grow (r := f a) h g
  | exc e => exact h
  | bad => exact h
theorem Rk.ok {a : α} {k : α → Hp → Hp → Prop} (h : Rk K mg W F H σ (.ok a) k) (s : Same F H) : k a F H := h F H (Gr.refl s)
theorem Rk.ofO {o : Option α} {k : α → Hp → Hp → Prop} (h : Rk K mg W F H σ (R.ofO o) k) : ∃ a, o = some a ∧ ∀ F' H', Gr F H F' H' → k a F' H' := by
  cases o with
  | none => exact h.elim
  | some a => exact ⟨a, rfl, h⟩
end

/-! ### the readings -/
abbrev EM := Rho → R D
abbrev BM := Rho → R Bool
abbrev LM := Rho → R (List D)
def tE (K : PySem.W.Frag) (mg : Str → Option Value) (W : WX) (m : EM) : TE := fun σ H Q => ∃ H0 F0 F ρ, RE K H0 F0 F H ρ σ ∧ Rk K mg W F H σ (m ρ) fun d F' H' => ∀ v, Rp K F' v d → Q v H'
def tO (K : PySem.W.Frag) (mg : Str → Option Value) (W : WX) (m : EM) : TE := fun σ H Q => ∃ H0 F0 F ρ, RE K H0 F0 F H ρ σ ∧ Rk K mg W F H σ (m ρ) fun d F' H' => ∀ v, RpO K F' H' v d → Q v H'
def tF (K : PySem.W.Frag) (mg : Str → Option Value) (W : WX) (m : LM) : TE := fun σ H Q => ∃ H0 F0 F ρ, RE K H0 F0 F H ρ σ ∧ Rk K mg W F H σ (m ρ) fun ds F' H' => ∀ a vs, H' a = none → RpA K F' vs ds → Q (.ref a) (upd H' a (.lst vs))
def tTt (K : PySem.W.Frag) (mg : Str → Option Value) (W : WX) (m : BM) : TT := fun σ H Q => ∃ H0 F0 F ρ, RE K H0 F0 F H ρ σ ∧ Rk K mg W F H σ (m ρ) fun b F' H' => Q b H'
def tAr (K : PySem.W.Frag) (mg : Str → Option Value) (W : WX) (m : LM) : TA := fun σ H Q => ∃ H0 F0 F ρ, RE K H0 F0 F H ρ σ ∧ Rk K mg W F H σ (m ρ) fun ds F' H' => ∀ vs, RpA K F' vs ds → Q vs H'
/-- the value is frozen -/
abbrev VE (X : Cx) (W : WX) (e : Expr) (m : EM) : Prop := PE X e (tE X.K X.mg W m)
/-- an operand: read at once -/
abbrev VO (X : Cx) (W : WX) (e : Expr) (m : EM) : Prop := PE X e (tO X.K X.mg W m)
/-- a list made anew -/
abbrev VF (X : Cx) (W : WX) (e : Expr) (m : LM) : Prop := PE X e (tF X.K X.mg W m)
abbrev VT (X : Cx) (W : WX) (e : Expr) (m : BM) : Prop := PT X e (tTt X.K X.mg W m)
abbrev VA (X : Cx) (W : WX) (es : List Expr) (m : LM) : Prop := PA X es (tAr X.K X.mg W m)

section
variable {X : Cx} {W : WX} {a b c e : Expr} {es : List Expr} {ma mb mc m : EM} {pos p : Pos}
theorem VE.toO (h : VE X W e m) : VO X W e m := peW h fun σ H Q ⟨H0, F0, F, ρ, re, q⟩ => ⟨H0, F0, F, ρ, re, q.imp fun d F' H' g k v r => k v (.inl r)⟩
theorem VF.toE {ml : LM} (h : VF X W e ml) : VE X W e (fun ρ => (ml ρ).bind fun ds => .ok (.list ds)) := peW h fun σ H Q ⟨H0, F0, F, ρ, re, q⟩ => by
  refine ⟨H0, F0, F, ρ, re, q.bind.imp fun ds F' H' g k a vs hn r => ?_⟩
  have g2 : Gr F' H' (upd F' a (.lst vs)) (upd H' a (.lst vs)) := Gr.alloc g.fh _ hn
  exact k _ _ g2 _ (.lst (.of upd_same) (r.mono g2.ff))
theorem VE.eq {m' : EM} (h : VE X W e m) (q : ∀ ρ, m' ρ = m ρ) : VE X W e m' := by
  have : m' = m := funext q
  rw [this]; exact h

/-! ### names, constants -/
def mVar (i : Nat) : EM := fun ρ => match ρ[i]? with
  | some (some (.fz d)) => .ok d
  | _ => .bad
def mVarO (i : Nat) : EM := fun ρ => match ρ[i]? with
  | some (some (.fz d)) => .ok d
  | some (some (.ol ds)) => .ok (.list ds)
  | some (some (.oK qs)) => .ok (.dict qs)
  | some (some (.oT qs)) => .ok (.dict ((.none, .none) :: qs))
  | _ => .bad
def mC (d : D) : EM := fun _ => .ok d
theorem v_name {x : Str} (i : Nat) (h : PE X (.Name x p) (tVar i)) : VE X W (.Name x p) (mVar i) := peW h fun σ H Q ⟨H0, F0, F, ρ, re, q⟩ => by
  unfold mVar at q
  split at q
  · rename_i d e
    obtain ⟨v, e1, e2⟩ := re.ok i _ e
    exact ⟨v, e1, q.ok re.sub v e2⟩
  · exact q.elim
theorem v_nameO {x : Str} (i : Nat) (h : PE X (.Name x p) (tVar i)) : VO X W (.Name x p) (mVarO i) := peW h fun σ H Q ⟨H0, F0, F, ρ, re, q⟩ => by
  unfold mVarO at q
  split at q
  · rename_i d e
    obtain ⟨v, e1, e2⟩ := re.ok i _ e
    exact ⟨v, e1, q.ok re.sub v (.inl e2)⟩
  · rename_i d e
    obtain ⟨v, e1, a, vs, rfl, e2, e3, _⟩ := re.ok i _ e
    exact ⟨_, e1, q.ok re.sub _ (.inr (.lst e2 e3))⟩
  · rename_i d e
    obtain ⟨v, e1, a, vs, rfl, e2, e3, _⟩ := re.ok i _ e
    exact ⟨_, e1, q.ok re.sub _ (.inr (.dK e2 e3))⟩
  · rename_i d e
    obtain ⟨v, e1, a, vs, rfl, e2, e3, _⟩ := re.ok i _ e
    exact ⟨_, e1, q.ok re.sub _ (.inr (.dT e2 e3))⟩
  · exact q.elim
theorem v_C {v : V} {d : D} (h : PE X e (tC v)) (r : ∀ F, Rp X.K F v d) : VE X W e (mC d) := peW h fun σ H Q ⟨H0, F0, F, ρ, re, q⟩ => q.ok re.sub v (r F)
theorem v_int {i : Int} {j : Nat} : VE X W (.Constant (.int i) j p) (mC (.int i)) := v_C pe_int fun _ => .int i
theorem v_bl {i : Bool} {j : Nat} : VE X W (.Constant (.bool i) j p) (mC (.bool i)) := v_C pe_bl fun _ => .bl i
theorem v_non {j : Nat} : VE X W (.Constant .none j p) (mC .none) := v_C pe_non fun _ => .non
theorem v_str {i : Str} {j : Nat} : VE X W (.Constant (.str i) j p) (mC (.str i)) := v_C pe_str fun _ => .str i
theorem v_glob {x : Str} {v : V} {u : Value} {d : D} (hg : Gl X x) (hm : X.mg x = some u) (r : RelV v u) (rp : ∀ F, Rp X.K F v d) (hd : (x == ("__debug__" : Str)) = false := by decide) : VE X W (.Name x p) (mC d) :=
  v_C (pe_glob hg hm r hd) rp

/-! ### operators -/
def OpS (K : PySem.W.Frag) (r : R2) (f : D → D → Option D) : Prop := ∀ (F H : Hp) (x y : V) (a b c : D) (Q : VK), Same F H → RpO K F H x a → RpO K F H y b → f a b = some c →
  (∀ F' H' v, Gr F H F' H' → Rp K F' v c → Q v H') → r x y H Q
def UnS (K : PySem.W.Frag) (r : V → Hp → VK → Prop) (f : D → Option D) : Prop := ∀ (F H : Hp) (x : V) (a c : D) (Q : VK), Same F H → RpO K F H x a → f a = some c →
  (∀ F' H' v, Gr F H F' H' → Rp K F' v c → Q v H') → r x H Q
theorem OpS.or {K : PySem.W.Frag} {r r' : R2} {f f' : D → D → Option D} (h : OpS K r f) (h' : OpS K r' f') : OpS K (fun x y H Q => r x y H Q ∨ r' x y H Q) (fun a b => (f a b).or (f' a b)) := by
  intro F H x y a b c Q s ra rb e q
  have e : (f a b).or (f' a b) = some c := e
  cases e1 : f a b with
  | some z => rw [e1] at e; cases e; exact .inl (h F H x y a b _ Q s ra rb e1 q)
  | none => rw [e1] at e; exact .inr (h' F H x y a b _ Q s ra rb e q)
def bin (f : D → D → Option D) (ma mb : EM) : EM := fun ρ => (ma ρ).bind fun x => (mb ρ).bind fun y => R.ofO (f x y)
def un (f : D → Option D) (ma : EM) : EM := fun ρ => (ma ρ).bind fun x => R.ofO (f x)
theorem t_bin {K : PySem.W.Frag} {mg : Str → Option Value} {r : R2} {f : D → D → Option D} (hs : OpS K r f) : ∀ σ H Q, tE K mg W (bin f ma mb) σ H Q → tOp r (tO K mg W ma) (tO K mg W mb) σ H Q := fun σ H Q ⟨H0, F0, F, ρ, re, q⟩ => by
  refine ⟨H0, F0, F, ρ, re, q.bind.imp fun x F1 H1 g1 k1 v r1 => ?_⟩
  refine ⟨H0, F0, F1, ρ, re.grow g1, k1.bind.imp fun y F2 H2 g2 k2 w r2 => ?_⟩
  obtain ⟨c, e, k3⟩ := k2.ofO
  exact hs F2 H2 v w x y c Q g2.fh (r1.grow g2) r2 e fun F3 H3 z g3 rz => k3 F3 H3 g3 z rz
theorem v_op {op : Operator} {r : R2} {f : D → D → Option D} (ho : OpR X (binaryOp op) r) (hs : OpS X.K r f) (ha : VO X W a ma) (hb : VO X W b mb) : VE X W (.BinOp a op b pos) (bin f ma mb) := peW (pe_op ho ha hb) (t_bin hs)
theorem v_un {op : UnaryOp} {r : V → Hp → VK → Prop} {f : D → Option D} (ho : UnR X (unaryOp op) r) (hs : UnS X.K r f) (ha : VO X W a ma) : VE X W (.UnaryOp op a pos) (un f ma) := peW (pe_un ho ha) fun σ H Q ⟨H0, F0, F, ρ, re, q⟩ => by
  refine ⟨H0, F0, F, ρ, re, q.bind.imp fun x F1 H1 g1 k1 v r1 => ?_⟩
  obtain ⟨c, e, k3⟩ := k1.ofO
  exact hs F1 H1 v x c Q g1.fh r1 e fun F3 H3 z g3 rz => k3 F3 H3 g3 z rz
theorem v_cmp {op : CmpOp} {r : R2} {f : D → D → Option D} (ho : OpR X (compareOp op) r) (hs : OpS X.K r f) (ha : VO X W a ma) (hb : VO X W b mb) (hm : behindInMarks op b = false) : VE X W (.Compare a [op] [b] pos) (bin f ma mb) := peW (pe_cmpR ho ha hb hm) (t_bin hs)
/-- a value that is a bool, as a test -/
def asB (m : EM) : BM := fun ρ => (m ρ).bind fun d => match d with
  | .bool b => .ok b
  | _ => .bad
theorem t_asB {K : PySem.W.Frag} {mg : Str → Option Value} {t : TE} (h : ∀ σ H Q, tE K mg W m σ H Q → t σ H Q) (mono : ∀ σ H Q, tE K mg W m σ H Q → t σ H Q) : ∀ σ H Q, tTt K mg W (asB m) σ H Q → tTest t σ H Q := fun σ H Q ⟨H0, F0, F, ρ, re, q⟩ => by
  refine h σ H _ ⟨H0, F0, F, ρ, re, q.bind.imp fun d F' H' g k v r => ?_⟩
  cases d with
  | bool b => cases r; exact ⟨b, rfl, k.ok g.fh⟩
  | _ => exact k.elim
theorem vt_cmp {op : CmpOp} {r : R2} {f : D → D → Option D} (ho : OpR X (compareOp op) r) (hs : OpS X.K r f) (ha : VO X W a ma) (hb : VO X W b mb) (hm : behindInMarks op b = false) : VT X W (.Compare a [op] [b] pos) (asB (bin f ma mb)) :=
  ptW (pt_cmpR ho ha hb hm) (t_asB (t_bin hs) (t_bin hs))
theorem vt_val (h : VE X W e m) (he : ∀ whole, isTrue e X.env whole = (do let v ← whole; standAt e.pos; holding [v] (truthy v)) := by intro _; rfl) : VT X W e (asB m) :=
  ptW (L2.pt_val h he) fun σ H Q ⟨H0, F0, F, ρ, re, q⟩ => by
    refine ⟨H0, F0, F, ρ, re, q.bind.imp fun d F' H' g k v r => ?_⟩
    cases d with
    | bool b => cases r; exact ⟨b, rfl, k.ok g.fh⟩
    | _ => exact k.elim
/-- truth of any value -/
def truD : D → Option Bool
  | .none => some false
  | .bool b => some b
  | .int i => some (i != 0)
  | .str x => if x.length ≤ sizeLine then some ((x.length : Int) != 0) else none
  | .list ds => some (!ds.isEmpty)
  | .tuple ds => some (!ds.isEmpty)
  | .dict _ => none
def truM (m : EM) : BM := fun ρ => (m ρ).bind fun d => R.ofO (truD d)
theorem RpA.isEmpty {K : PySem.W.Frag} {F : Hp} {vs : List V} {ds : List D} (h : RpA K F vs ds) : vs.isEmpty = ds.isEmpty := by cases h <;> rfl
theorem vt_truth (h : VO X W e m) (he : ∀ whole, isTrue e X.env whole = (do let v ← whole; standAt e.pos; holding [v] (truthy v)) := by intro _; rfl) : VT X W e (truM m) :=
  ptW (L2.pt_truth h he) fun σ H Q ⟨H0, F0, F, ρ, re, q⟩ => by
    refine ⟨H0, F0, F, ρ, re, q.bind.imp fun d F' H' g k v r => ?_⟩
    obtain ⟨b, e, k⟩ := k.ofO
    have k := k _ _ (Gr.refl g.fh)
    refine ⟨b, ?_, k⟩
    cases d with
    | none => cases r.non; cases e; rfl
    | bool b => cases r.bl; cases e; rfl
    | int i => cases r.int; cases e; rfl
    | str x =>
      cases r.str
      have e : (if x.length ≤ sizeLine then some ((x.length : Int) != 0) else none) = some b := e
      by_cases hz : x.length ≤ sizeLine
      · rw [if_pos hz] at e; cases e; exact ⟨hz, rfl⟩
      · rw [if_neg hz] at e; cases e
    | list ds =>
      obtain ⟨a, vs, rfl, h1, h2⟩ := r.list g.fh
      cases e
      exact .inl ⟨vs, h1, by rw [h2.isEmpty]⟩
    | tuple ds =>
      obtain ⟨a, vs, rfl, h1, h2, _⟩ := r.tuple g.fh
      cases e
      exact .inr (.inl ⟨vs, h1, by rw [h2.isEmpty]⟩)
    | dict _ => cases e
/-- not, and, or of tests -/
def notM (m : BM) : BM := fun ρ => (m ρ).bind fun b => .ok (!b)
def andM (m n : BM) : BM := fun ρ => (m ρ).bind fun b => if b = true then n ρ else .ok false
def orM (m n : BM) : BM := fun ρ => (m ρ).bind fun b => if b = true then .ok true else n ρ
theorem vt_not {m : BM} (h : VT X W a m) : VT X W (.UnaryOp .Not a pos) (notM m) := ptW (L2.pt_not h) fun σ H Q ⟨H0, F0, F, ρ, re, q⟩ =>
  ⟨H0, F0, F, ρ, re, q.bind.imp fun b F' H' g k => k.ok g.fh⟩
/-- a test whatever its whole is -/
abbrev VW (X : Cx) (W : WX) (e : Expr) (m : BM) : Prop := PW X e (tTt X.K X.mg W m)
theorem pwW {t t' : TT} (h : PW X e t) (w : ∀ σ H Q, t' σ H Q → t σ H Q) : PW X e t' := ⟨fun wh p s σ H Q I q => h.run wh p s σ H Q I (w _ _ _ q)⟩
theorem vw_and1 {m : BM} (h : VT X W a m) : VW X W (.BoolOp .And [a] pos) m := L2.pw_and1 h
theorem vw_or1 {m : BM} (h : VT X W a m) : VW X W (.BoolOp .Or [a] pos) m := L2.pw_or1 h
theorem vw_and {rest : List Expr} {m n : BM} (h : VT X W a m) (h2 : VW X W (.BoolOp .And (b :: rest) pos) n) : VW X W (.BoolOp .And (a :: b :: rest) pos) (andM m n) := pwW (L2.pw_and h h2) fun σ H Q ⟨H0, F0, F, ρ, re, q⟩ => by
  refine ⟨H0, F0, F, ρ, re, q.bind.imp fun b F' H' g k => ?_⟩
  cases b with
  | true => exact ⟨H0, F0, F', ρ, re.grow g, k⟩
  | false => exact k.ok g.fh
theorem vw_or {rest : List Expr} {m n : BM} (h : VT X W a m) (h2 : VW X W (.BoolOp .Or (b :: rest) pos) n) : VW X W (.BoolOp .Or (a :: b :: rest) pos) (orM m n) := pwW (L2.pw_or h h2) fun σ H Q ⟨H0, F0, F, ρ, re, q⟩ => by
  refine ⟨H0, F0, F, ρ, re, q.bind.imp fun b F' H' g k => ?_⟩
  cases b with
  | false => exact ⟨H0, F0, F', ρ, re.grow g, k⟩
  | true => exact k.ok g.fh
/-- .. as values (bools) -/
def andV (m n : EM) : EM := fun ρ => (asB m ρ).bind fun b => if b = true then n ρ else .ok (.bool false)
def orV (m n : EM) : EM := fun ρ => (asB m ρ).bind fun b => if b = true then .ok (.bool true) else n ρ
def notV (m : EM) : EM := fun ρ => (asB m ρ).bind fun b => .ok (.bool (!b))
theorem asB_bind {mg : Str → Option Value} {F H : Hp} {K : PySem.W.Frag} {σ : St} {α : Type} {ρ : Rho} {f : Bool → R α} {k : α → Hp → Hp → Prop} (h : Rk K mg W F H σ ((asB m ρ).bind f) k) :
    Rk K mg W F H σ (m ρ) fun d F' H' => ∃ b, d = .bool b ∧ Rk K mg W F' H' σ (f b) k := by
  unfold asB at h
  cases e : m ρ with
  | ok d =>
    rw [e] at h
    cases d with
    | bool b => exact fun F' H' g => ⟨b, rfl, Rk.grow (r := f b) h g⟩
    | _ => exact h.elim
  | exc x => rw [e] at h; exact h
  | bad => rw [e] at h; exact h
theorem v_one {op : BoolOp} (h : VE X W a m) : VE X W (.BoolOp op [a] pos) m := L2.pe_one h
theorem v_and {rest : List Expr} (h : VE X W a ma) (h2 : VE X W (.BoolOp .And (b :: rest) pos) mb) : VE X W (.BoolOp .And (a :: b :: rest) pos) (andV ma mb) := peW (L2.pe_and h h2) fun σ H Q ⟨H0, F0, F, ρ, re, q⟩ => by
  refine ⟨H0, F0, F, ρ, re, (asB_bind q).imp fun d F' H' g ⟨b, e, k⟩ v r => ?_⟩
  subst e; cases r
  refine ⟨b, rfl, ?_⟩
  cases b with
  | true => exact ⟨H0, F0, F', ρ, re.grow g, k⟩
  | false => exact k.ok g.fh _ (.bl false)
theorem v_or {rest : List Expr} (h : VE X W a ma) (h2 : VE X W (.BoolOp .Or (b :: rest) pos) mb) : VE X W (.BoolOp .Or (a :: b :: rest) pos) (orV ma mb) := peW (L2.pe_or h h2) fun σ H Q ⟨H0, F0, F, ρ, re, q⟩ => by
  refine ⟨H0, F0, F, ρ, re, (asB_bind q).imp fun d F' H' g ⟨b, e, k⟩ v r => ?_⟩
  subst e; cases r
  refine ⟨b, rfl, ?_⟩
  cases b with
  | false => exact ⟨H0, F0, F', ρ, re.grow g, k⟩
  | true => exact k.ok g.fh _ (.bl true)
theorem v_not (h : VE X W a ma) : VE X W (.UnaryOp .Not a pos) (notV ma) := peW (L2.pe_not h) fun σ H Q ⟨H0, F0, F, ρ, re, q⟩ => by
  refine ⟨H0, F0, F, ρ, re, (asB_bind q).imp fun d F' H' g ⟨b, e, k⟩ v r => ?_⟩
  subst e; cases r
  exact ⟨b, rfl, k.ok g.fh _ (.bl _)⟩
def ifE (c : BM) (ma mb : EM) : EM := fun ρ => (c ρ).bind fun b => if b = true then ma ρ else mb ρ
theorem v_ifExp {mc : BM} (hc : VT X W c mc) (ha : VE X W a ma) (hb : VE X W b mb) : VE X W (.IfExp c a b pos) (ifE mc ma mb) := peW (L2.pe_ifExp hc ha hb) fun σ H Q ⟨H0, F0, F, ρ, re, q⟩ => by
  refine ⟨H0, F0, F, ρ, re, q.bind.imp fun d F' H' g k => ?_⟩
  cases d with
  | true => exact ⟨H0, F0, F', ρ, re.grow g, k⟩
  | false => exact ⟨H0, F0, F', ρ, re.grow g, k⟩
/-- a < b < c -/
def chainM (f g : D → D → Option D) (ma mb mc : EM) : EM := fun ρ => (ma ρ).bind fun x => (mb ρ).bind fun y => (R.ofO (f x y)).bind fun z => match z with
  | .bool true => (mc ρ).bind fun w => R.ofO (g y w)
  | .bool false => .ok (.bool false)
  | _ => .bad

/-! ### arguments, displays -/
def nilM : LM := fun _ => .ok []
def consM (m : EM) (ms : LM) : LM := fun ρ => (m ρ).bind fun d => (ms ρ).bind fun ds => .ok (d :: ds)
theorem va_nil : VA X W [] nilM := ⟨fun _ pins s σ H Q I ⟨H0, F0, F, ρ, re, q⟩ => Calls.spliced_nil ⟨[], H, I, .nil, q.ok re.sub [] .nil⟩⟩
theorem paW {t t' : TA} (h : PA X es t) (w : ∀ σ H Q, t' σ H Q → t σ H Q) : PA X es t' := ⟨fun ps p s σ H Q I q => h.run ps p s σ H Q I (w _ _ _ q)⟩
theorem va_cons {ms : LM} (h : VE X W e m) (h2 : VA X W es ms) (hs : starEach (e :: es) X.env = (false, eval e X.env) :: starEach es X.env := by rfl) : VA X W (e :: es) (consM m ms) := paW (L2.pa_cons h h2 hs) fun σ H Q ⟨H0, F0, F, ρ, re, q⟩ => by
  refine ⟨H0, F0, F, ρ, re, q.bind.imp fun d F1 H1 g1 k1 v r1 => ?_⟩
  refine ⟨H0, F0, F1, ρ, re.grow g1, k1.bind.imp fun ds F2 H2 g2 k2 vs r2 => ?_⟩
  exact k2.ok g2.fh _ (.cons (r1.mono g2.ff) r2)
def tupM (ms : LM) : EM := fun ρ => (ms ρ).bind fun ds => if ds.length ≤ 16777216 then .ok (.tuple ds) else .bad
def lstM (ms : LM) : LM := fun ρ => (ms ρ).bind fun ds => if ds.length ≤ 16777216 then .ok ds else .bad
theorem v_tup {ms : LM} {x1 : Nat} (h : VA X W es ms) : VE X W (.Tuple es x1 pos) (tupM ms) := peW (L2.pe_tup h) fun σ H Q ⟨H0, F0, F, ρ, re, q⟩ => by
  refine ⟨H0, F0, F, ρ, re, q.bind.imp fun ds F1 H1 g1 k1 vs r1 => ?_⟩
  split at k1
  · rename_i hz
    refine ⟨by rw [r1.length, sizeLine_eq]; exact hz, fun p hp => ?_⟩
    have g2 : Gr F1 H1 (upd F1 p (.tup vs)) (upd H1 p (.tup vs)) := Gr.alloc g1.fh _ hp
    exact k1 _ _ g2 _ (.tup (.of upd_same) (r1.mono g2.ff))
  · exact k1.elim
theorem v_lst {ms : LM} (h : VA X W es ms) : VF X W (.List es pos) (lstM ms) := peW (L2.pe_lst h) fun σ H Q ⟨H0, F0, F, ρ, re, q⟩ => by
  refine ⟨H0, F0, F, ρ, re, q.bind.imp fun ds F1 H1 g1 k1 vs r1 => ?_⟩
  split at k1
  · rename_i hz
    refine ⟨by rw [r1.length, sizeLine_eq]; exact hz, fun p hp => ?_⟩
    exact k1.ok g1.fh p vs hp r1
  · exact k1.elim
end
end L2.VL

set_option Elab.async false
set_option linter.all false
set_option autoImplicit false
set_option maxRecDepth 100000
set_option maxHeartbeats 4000000
namespace L2.VL
open PySem PySem.Spec PyProof.Rows

/-! ### ints -/
def mulOk (i j : Int) : Bool := decide (i.natAbs.log2 < 60) || decide (j.natAbs.log2 < 60) || (decide (i.natAbs.log2 < 1000000) && decide (j.natAbs.log2 < 1000000))
theorem intBits_log2 (x : Int) : Builtin.Int.intBits x ≤ x.natAbs.log2 + 1 := by
  unfold Builtin.Int.intBits
  split <;> omega
theorem mulOk_ok {i j : Int} (h : mulOk i j = true) : IntMulOk i j := by
  unfold mulOk at h
  rw [Bool.or_eq_true, Bool.or_eq_true, Bool.and_eq_true] at h
  have h1 := intBits_log2 i
  have h2 := intBits_log2 j
  rcases h with (h | h) | ⟨h, h'⟩
  · have := of_decide_eq_true h
    exact .of_left (by omega)
  · have := of_decide_eq_true h
    exact .of_right (by omega)
  · have := of_decide_eq_true h
    have := of_decide_eq_true h'
    have e : (2 : Nat) ^ 20 = 1048576 := by decide
    exact .of_bits (by omega) (by omega)
def divOk (j : Int) : Bool := decide (0 < j) && decide (j.natAbs.log2 < 9000)
theorem divOk_ok {j : Int} (h : divOk j = true) : CDivW 0 j := by
  unfold divOk at h
  rw [Bool.and_eq_true] at h
  exact ⟨of_decide_eq_true h.1, of_decide_eq_true h.2⟩
def powOk (i j : Int) : Bool := decide (0 ≤ j) && decide ((i.natAbs.log2 + 1) * j.toNat ≤ 100000000)
theorem powOk_ok {i j : Int} (h : powOk i j = true) : 0 ≤ j ∧ (Builtin.Int.intBits i : Int) * j ≤ 2 ^ 27 := by
  unfold powOk at h
  rw [Bool.and_eq_true] at h
  have h1 := of_decide_eq_true h.1
  have h2 := of_decide_eq_true h.2
  refine ⟨h1, ?_⟩
  have h3 := Nat.mul_le_mul_right j.toNat (intBits_log2 i)
  obtain ⟨n, rfl⟩ := Int.eq_ofNat_of_zero_le h1
  have e : ((n : Nat) : Int).toNat = n := Int.toNat_natCast n
  rw [e] at h2 h3
  have h4 : Builtin.Int.intBits i * n ≤ 100000000 := Nat.le_trans h3 h2
  have h5 : ((Builtin.Int.intBits i * n : Nat) : Int) ≤ 2 ^ 27 := by
    have : (2 : Int) ^ 27 = 134217728 := by decide
    omega
  rw [Int.natCast_mul] at h5
  exact h5

def iI (f : Int → Int → Option D) : D → D → Option D
  | .int i, .int j => f i j
  | _, _ => none
theorem iI_inv {f : Int → Int → Option D} {a b c : D} (h : iI f a b = some c) : ∃ i j, a = .int i ∧ b = .int j ∧ f i j = some c := by
  unfold iI at h
  split at h
  · exact ⟨_, _, rfl, rfl, h⟩
  · cases h
section
variable {K : PySem.W.Frag}
theorem opS_i {C : Int → Int → Prop} {g : Int → Int → V} {f : Int → Int → Option D} (h : ∀ i j c, f i j = some c → C i j ∧ ∀ F, Rp K F (g i j) c) : OpS K (rI C g) (iI f) := by
  intro F H x y a b c Q s ra rb e q
  obtain ⟨i, j, rfl, rfl, e⟩ := iI_inv e
  obtain ⟨h1, h2⟩ := h i j c e
  exact ⟨i, j, ra.int, rb.int, h1, q F H _ (Gr.refl s) (h2 F)⟩
theorem opS_i0 {g : Int → Int → V} {f : Int → Int → D} (h : ∀ i j F, Rp K F (g i j) (f i j)) : OpS K (rI0 g) (iI fun i j => some (f i j)) := by
  intro F H x y a b c Q s ra rb e q
  obtain ⟨i, j, rfl, rfl, e⟩ := iI_inv e
  cases e
  exact ⟨i, j, ra.int, rb.int, q F H _ (Gr.refl s) (h i j F)⟩
end
def addI : D → D → Option D := iI fun i j => some (.int (i + j))
def subD : D → D → Option D := iI fun i j => some (.int (i - j))
def mulI : D → D → Option D := iI fun i j => if mulOk i j = true then some (.int (i * j)) else none
def fdivD : D → D → Option D := iI fun i j => if divOk j = true then some (.int (i / j)) else none
def modD : D → D → Option D := iI fun i j => if 0 < j then some (.int (i % j)) else none
def powD : D → D → Option D := iI fun i j => if powOk i j = true then some (.int (i ^ j.toNat)) else none
def ltD : D → D → Option D := iI fun i j => some (.bool (decide (i < j)))
def leD : D → D → Option D := iI fun i j => some (.bool (decide (i ≤ j)))
def gtD : D → D → Option D := iI fun i j => some (.bool (decide (j < i)))
def geD : D → D → Option D := iI fun i j => some (.bool (decide (j ≤ i)))
def negD : D → Option D
  | .int i => some (.int (-i))
  | _ => none

section
variable {X : Cx}
theorem op_mulV : OpR X (binaryOp .Mult) (rI (fun i j => mulOk i j = true) fun i j => .int (i * j)) := opI fun _ _ _ _ _ _ _ hc q => mul_int q (mulOk_ok hc)
theorem op_fdivV : OpR X (binaryOp .FloorDiv) (rI (fun _ j => divOk j = true) fun i j => .int (i / j)) := opI fun i j _ _ _ _ _ hc q => by
  have h1 : (0 : Int) < j := (divOk_ok hc).1
  exact floordiv_int (by omega) (by rw [Int.fdiv_eq_ediv_of_nonneg i (by omega)]; exact q) (.inl (PyProof.noPylong_of_log2 (divOk_ok hc).2))
theorem op_powV : OpR X (binaryOp .Pow) (rI (fun i j => powOk i j = true) fun i j => .int (i ^ j.toNat)) := opI fun i j _ _ _ _ _ hc q => PyProof.Rows.pow_int (powOk_ok hc).1 (powOk_ok hc).2 q
theorem s_addI {K : PySem.W.Frag} : OpS K (rI0 fun i j => .int (i + j)) addI := opS_i0 fun _ _ _ => .int _
theorem s_sub {K : PySem.W.Frag} : OpS K (rI0 fun i j => .int (i - j)) subD := opS_i0 fun _ _ _ => .int _
theorem opS_if {K : PySem.W.Frag} {C : Int → Int → Bool} {g : Int → Int → Int} : OpS K (rI (fun i j => C i j = true) fun i j => .int (g i j)) (iI fun i j => if C i j = true then some (.int (g i j)) else none) := opS_i fun i j c e => by
  by_cases h : C i j = true
  · rw [if_pos h] at e; cases e; exact ⟨h, fun _ => .int _⟩
  · rw [if_neg h] at e; cases e
theorem s_mulI {K : PySem.W.Frag} : OpS K (rI (fun i j => mulOk i j = true) fun i j => .int (i * j)) mulI := opS_if
theorem s_fdiv {K : PySem.W.Frag} : OpS K (rI (fun _ j => divOk j = true) fun i j => .int (i / j)) fdivD := opS_if
theorem s_pow {K : PySem.W.Frag} : OpS K (rI (fun i j => powOk i j = true) fun i j => .int (i ^ j.toNat)) powD := opS_if
theorem s_mod {K : PySem.W.Frag} : OpS K (rI (fun _ j => 0 < j) fun i j => .int (i % j)) modD := opS_i fun i j c e => by
  by_cases h : 0 < j
  · rw [if_pos h] at e; cases e; exact ⟨h, fun _ => .int _⟩
  · rw [if_neg h] at e; cases e
theorem s_lt {K : PySem.W.Frag} : OpS K (rI0 fun i j => .bl (decide (i < j))) ltD := opS_i0 fun _ _ _ => .bl _
theorem s_le {K : PySem.W.Frag} : OpS K (rI0 fun i j => .bl (decide (i ≤ j))) leD := opS_i0 fun _ _ _ => .bl _
theorem s_gt {K : PySem.W.Frag} : OpS K (rI0 fun i j => .bl (decide (j < i))) gtD := opS_i0 fun _ _ _ => .bl _
theorem s_ge {K : PySem.W.Frag} : OpS K (rI0 fun i j => .bl (decide (j ≤ i))) geD := opS_i0 fun _ _ _ => .bl _
theorem s_neg {K : PySem.W.Frag} : UnS K (rU fun i => .int (-i)) negD := by
  intro F H x a c Q s ra e q
  cases a with
  | int i => cases e; exact ⟨i, ra.int, q F H _ (Gr.refl s) (.int _)⟩
  | _ => cases e

/-! ### texts, lists, tuples: + and * -/
def addS : D → D → Option D
  | .str x, .str y => if x.length + y.length ≤ 16777216 then some (.str (x ++ y)) else none
  | _, _ => none
def addL : D → D → Option D
  | .list xs, .list ys => if xs.length + ys.length ≤ 16777216 then some (.list (xs ++ ys)) else none
  | _, _ => none
def addT : D → D → Option D
  | .tuple xs, .tuple ys => if xs.length + ys.length ≤ 16777216 then some (.tuple (xs ++ ys)) else none
  | _, _ => none
def addD (a b : D) : Option D := (addI a b).or ((addS a b).or ((addL a b).or (addT a b)))
def rAddS : R2 := fun x y H Q => ∃ i j, x = .str i ∧ y = .str j ∧ i.length + j.length ≤ sizeLine ∧ Q (.str (i ++ j)) H
theorem op_addS : OpR X (binaryOp .Add) rAddS := op_add_str
theorem s_addS {K : PySem.W.Frag} : OpS K rAddS addS := by
  intro F H x y a b c Q s ra rb e q
  unfold addS at e
  split at e
  · rename_i x' y'
    by_cases h : x'.length + y'.length ≤ 16777216
    · rw [if_pos h] at e; cases e
      exact ⟨_, _, ra.str, rb.str, by rw [sizeLine_eq]; exact h, q F H _ (Gr.refl s) (.str _)⟩
    · rw [if_neg h] at e; cases e
  · cases e
def rCatL (K : PySem.W.Frag) : R2 := fun x y H Q => ∃ l b xs zs, x = .ref l ∧ y = .ref b ∧ SqL K H l xs ∧ SqL K H b zs ∧ xs.length + zs.length ≤ sizeLine ∧ ∀ p, H p = none → Q (.ref p) (upd H p (.lst (xs ++ zs)))
theorem op_catL : OpR X (binaryOp .Add) (rCatL X.K) := by
  intro pins s σ H x y v u Q I rx ry h
  obtain ⟨l, b, xs, zs, rfl, rfl, hH, hB, hz, q⟩ := h
  cases rx
  cases ry
  obtain ⟨its, r, ⟨o1, n1, g1, c1, d1, e1⟩, z1⟩ := I.list hH
  obtain ⟨its2, r2, ⟨o2, n2, g2, c2, d2, e2⟩, z2⟩ := I.list hB
  have l1 := r.length
  have l2 := r2.length
  obtain ⟨oc, od, odt, osl⟩ := o1
  obtain ⟨oc2, od2, odt2, osl2⟩ := o2
  simp only at c1 d1 e1 c2 d2 e2
  subst c1 d1 e1 c2 d2 e2
  have ea : its.toArray ++ its2.toArray = (its ++ its2).toArray := by simp
  have hsz : its.toArray.size + its2.toArray.size ≤ sizeLine := by rw [List.size_toArray, List.size_toArray]; omega
  refine PySem.concat_meets ⟨_, g1, rfl⟩ ⟨_, g2, rfl⟩ noFill_list_add seq_list_add PySem.F.slot_list_add PySem.F.entry_list_add (PySem.F.args_list_add_2 _ _) (list_addW l b its.toArray its2.toArray n1 n2 none none osl osl2 hsz) ⟨g1, g2, ?_⟩
  rw [ea]
  exact ⟨.ref _, _, I.lnew (t' := s.toks) (r.append r2) (by rw [List.length_append]; omega), rfl, q _ I.fresh⟩
end
end L2.VL

set_option Elab.async false
set_option linter.all false
set_option autoImplicit false
set_option maxRecDepth 100000
set_option maxHeartbeats 4000000
namespace L2.VL
open PySem PySem.Spec PyProof.Rows

section
variable {K : PySem.W.Frag}
theorem s_catL : OpS K (rCatL K) addL := by
  intro F H x y a b c Q s ra rb e q
  unfold addL at e
  split at e
  · rename_i xs ys
    by_cases h : xs.length + ys.length ≤ 16777216
    · rw [if_pos h] at e; cases e
      obtain ⟨p1, vs, rfl, h1, h2⟩ := ra.list s
      obtain ⟨p2, ws, rfl, h3, h4⟩ := rb.list s
      refine ⟨p1, p2, vs, ws, rfl, rfl, h1, h3, by rw [h2.length, h4.length, sizeLine_eq]; exact h, fun p hp => ?_⟩
      have g : Gr F H (upd F p (.lst (vs ++ ws))) (upd H p (.lst (vs ++ ws))) := Gr.alloc s _ hp
      exact q _ _ _ g (.lst (.of upd_same) ((h2.append h4).mono g.ff))
    · rw [if_neg h] at e; cases e
  · cases e
theorem RpA.nil_iff {F : Hp} {vs : List V} {ds : List D} (h : RpA K F vs ds) : vs = [] ↔ ds = [] := by
  cases h with
  | nil => exact ⟨fun _ => rfl, fun _ => rfl⟩
  | cons a b => exact ⟨(fun z => nomatch z), (fun z => nomatch z)⟩
theorem s_catT : OpS K (rCatA K) addT := by
  intro F H x y a b c Q s ra rb e q
  unfold addT at e
  split at e
  · rename_i xs ys
    by_cases h : xs.length + ys.length ≤ 16777216
    · rw [if_pos h] at e; cases e
      obtain ⟨p1, vs, rfl, h1, h2, f1⟩ := ra.tuple s
      obtain ⟨p2, ws, rfl, h3, h4, f3⟩ := rb.tuple s
      refine ⟨p1, p2, vs, ws, rfl, rfl, h1, h3, by rw [h2.length, h4.length, sizeLine_eq]; exact h, fun hx => ?_, fun hx hy => ?_, fun hx hy p hp => ?_⟩
      · have := h2.nil_iff.mp hx
        subst this
        exact q _ _ _ (Gr.refl s) (.tup f3 (by rw [List.nil_append]; exact h4))
      · have := h4.nil_iff.mp hy
        subst this
        exact q _ _ _ (Gr.refl s) (.tup f1 (by rw [List.append_nil]; exact h2))
      · have g : Gr F H (upd F p (.tup (vs ++ ws))) (upd H p (.tup (vs ++ ws))) := Gr.alloc s _ hp
        exact q _ _ _ g (.tup (.of upd_same) ((h2.append h4).mono g.ff))
    · rw [if_neg h] at e; cases e
  · cases e
end
section
variable {X : Cx} {W : WX} {a b c e : Expr} {es : List Expr} {ma mb mc m : EM} {pos p : Pos}
theorem v_add (ha : VO X W a ma) (hb : VO X W b mb) : VE X W (.BinOp a .Add b pos) (bin addD ma mb) := v_op (op_add.or (op_addS.or (op_catL.or op_catA))) (s_addI.or (s_addS.or (s_catL.or s_catT))) ha hb
theorem v_sub (ha : VO X W a ma) (hb : VO X W b mb) : VE X W (.BinOp a .Sub b pos) (bin subD ma mb) := v_op op_sub s_sub ha hb
theorem v_fdiv (ha : VO X W a ma) (hb : VO X W b mb) : VE X W (.BinOp a .FloorDiv b pos) (bin fdivD ma mb) := v_op op_fdivV s_fdiv ha hb
theorem v_mod (ha : VO X W a ma) (hb : VO X W b mb) : VE X W (.BinOp a .Mod b pos) (bin modD ma mb) := v_op op_mod s_mod ha hb
theorem v_pow (ha : VO X W a ma) (hb : VO X W b mb) : VE X W (.BinOp a .Pow b pos) (bin powD ma mb) := v_op op_powV s_pow ha hb
theorem v_mul (ha : VO X W a ma) (hb : VO X W b mb) : VE X W (.BinOp a .Mult b pos) (bin mulI ma mb) := v_op op_mulV s_mulI ha hb
theorem v_neg (ha : VO X W a ma) : VE X W (.UnaryOp .USub a pos) (un negD ma) := v_un un_neg s_neg ha
/-- a list concatenated, to be one's own -/
def catM (ma mb : EM) : LM := fun ρ => (ma ρ).bind fun x => (mb ρ).bind fun y => match x, y with
  | .list xs, .list ys => if xs.length + ys.length ≤ 16777216 then .ok (xs ++ ys) else .bad
  | _, _ => .bad
theorem vf_cat (ha : VO X W a ma) (hb : VO X W b mb) : VF X W (.BinOp a .Add b pos) (catM ma mb) := peW (pe_op op_catL ha hb) fun σ H Q ⟨H0, F0, F, ρ, re, q⟩ => by
  refine ⟨H0, F0, F, ρ, re, q.bind.imp fun x F1 H1 g1 k1 v r1 => ?_⟩
  refine ⟨H0, F0, F1, ρ, re.grow g1, k1.bind.imp fun y F2 H2 g2 k2 w r2 => ?_⟩
  have r1' := r1.grow g2
  split at k2
  · rename_i xs ys
    by_cases h : xs.length + ys.length ≤ 16777216
    · rw [if_pos h] at k2
      obtain ⟨p1, vs, rfl, h1, h2⟩ := r1'.list g2.fh
      obtain ⟨p2, ws, rfl, h3, h4⟩ := r2.list g2.fh
      exact ⟨p1, p2, vs, ws, rfl, rfl, h1, h3, by rw [h2.length, h4.length, sizeLine_eq]; exact h, fun p hp => k2.ok g2.fh p _ hp (h2.append h4)⟩
    · rw [if_neg h] at k2; exact k2.elim
  · exact k2.elim

/-! ### lists, texts times an int -/
def rRepL (K : PySem.W.Frag) : R2 := fun x y H Q => ∃ l k xs, x = .ref l ∧ y = .int k ∧ SqL K H l xs ∧ -(2 ^ 63) ≤ k ∧ k < 2 ^ 63 ∧ xs.length * k.toNat ≤ sizeLine ∧
  ∀ p, H p = none → Q (.ref p) (upd H p (.lst (List.replicate k.toNat xs).flatten))

/-! ### comparisons of data -/
mutual
theorem Rp.reads {pins : List (Addr × Obj)} {σ : St} {H F : Hp} {s : Shared} (I : Inv X pins σ H s) (sf : Same F H) : ∀ (d : D) (v : V) (u : Value), d.plain = true → Rp X.K F v d → RelV v u → ∃ as, Reads s.heap u d as
  | .none, _, _, _, h, r => by
    cases h; cases r
    exact ⟨_, Reads.none⟩
  | .bool b, _, _, _, h, r => by
    cases h; cases r
    exact ⟨_, Reads.bool b⟩
  | .int i, _, _, _, h, r => by
    cases h
    obtain ⟨t, rfl⟩ := r
    exact ⟨_, Reads.int i t⟩
  | .str x, _, _, _, h, r => by
    cases h
    obtain ⟨t, rfl⟩ := r
    exact ⟨_, Reads.str x t⟩
  | .list ds, _, _, p, h, r => by
    cases h with
    | lst hs ha =>
      cases r
      obtain ⟨its, rv, ⟨o, n, ho, hc, _, hd⟩, _⟩ := I.list (sf.seq hs)
      obtain ⟨as, hr⟩ := RpA.reads I sf ds _ its (by simpa [PyData.plain] using p) ha rv
      exact ⟨_, Reads.list ho hc hd hr⟩
  | .tuple ds, _, _, p, h, r => by
    cases h with
    | tup hs ha =>
      cases r
      obtain ⟨its, rv, ⟨o, ho, hc, n, hd⟩, _⟩ := I.tuple (VL.Same.sqT sf hs)
      obtain ⟨as, hr⟩ := RpA.reads I sf ds _ its (by simpa [PyData.plain] using p) ha rv
      exact ⟨_, Reads.tuple ho hc hd hr⟩
  | .dict _, _, _, p, h, _ => by cases p
theorem RpA.reads {pins : List (Addr × Obj)} {σ : St} {H F : Hp} {s : Shared} (I : Inv X pins σ H s) (sf : Same F H) : ∀ (ds : List D) (vs : List V) (us : List Value), PyData.plainAll ds = true → RpA X.K F vs ds → Vals vs us → ∃ as, ReadsAll s.heap us ds as
  | [], _, _, _, h, r => by
    cases h; cases r
    exact ⟨_, ReadsAll.nil⟩
  | d :: ds, _, _, p, h, r => by
    have p' : d.plain = true ∧ PyData.plainAll ds = true := by simpa [PyData.plainAll] using p
    cases h with
    | cons h1 h2 =>
      cases r with
      | cons r1 r2 =>
        obtain ⟨as, q1⟩ := Rp.reads I sf d _ _ p'.1 h1 r1
        obtain ⟨bs, q2⟩ := RpA.reads I sf ds _ _ p'.2 h2 r2
        exact ⟨_, ReadsAll.cons q1 q2⟩
end
theorem RpO.reads {pins : List (Addr × Obj)} {σ : St} {H F : Hp} {s : Shared} (I : Inv X pins σ H s) (sf : Same F H) {d : D} {v : V} {u : Value} (p : d.plain = true) (h : RpO X.K F H v d) (r : RelV v u) : ∃ as, Reads s.heap u d as := by
  rcases h with h | h
  · exact Rp.reads I sf d v u p h r
  · cases h with
    | lst h1 h2 =>
      cases r
      obtain ⟨its, rv, ⟨o, n, ho, hc, _, hd⟩, _⟩ := I.list (SqL.of h1)
      obtain ⟨as, hr⟩ := RpA.reads I sf _ _ its (by simpa [PyData.plain] using p) h2 rv
      exact ⟨_, Reads.list ho hc hd hr⟩
    | dK h1 h2 => cases p
    | dT h1 h2 => cases p
/-- no dict, not deep -/
def flat64 (d : D) : Bool := d.plain && decide (d.depth ≤ 60)
theorem flat64_ok {d : D} (h : flat64 d = true) : d.plain = true ∧ d.depth ≤ 60 := by
  unfold flat64 at h
  rw [Bool.and_eq_true] at h
  exact ⟨h.1, of_decide_eq_true h.2⟩
def rEqP (K : PySem.W.Frag) : R2 := fun x y H Q => ∃ F d e, Same F H ∧ RpO K F H x d ∧ RpO K F H y e ∧ flat64 d = true ∧ flat64 e = true ∧ Q (.bl (PyData.eqv d e)) H
def rNeP (K : PySem.W.Frag) : R2 := fun x y H Q => ∃ F d e, Same F H ∧ RpO K F H x d ∧ RpO K F H y e ∧ flat64 d = true ∧ flat64 e = true ∧ Q (.bl (!PyData.eqv d e)) H
theorem op_eqP (hu : X.A.units + 64 < cLine) : OpR X (compareOp .Eq) (rEqP X.K) := by
  intro pins s σ H x y v u Q I rx ry h
  obtain ⟨F, d, e, sf, hd, he, pd, pe, q⟩ := h
  obtain ⟨as, r1⟩ := hd.reads I sf (flat64_ok pd).1 rx
  obtain ⟨bs, r2⟩ := he.reads I sf (flat64_ok pe).1 ry
  have h1 := (flat64_ok pd).2
  exact SeqAt.eq_plain r1 r2 (flat64_ok pd).1 (flat64_ok pe).1 (by have := Nat.min_le_left d.depth e.depth; omega) ⟨.bl _, H, I, rfl, q⟩
theorem op_neP (hu : X.A.units + 64 < cLine) : OpR X (compareOp .NotEq) (rNeP X.K) := by
  intro pins s σ H x y v u Q I rx ry h
  obtain ⟨F, d, e, sf, hd, he, pd, pe, q⟩ := h
  obtain ⟨as, r1⟩ := hd.reads I sf (flat64_ok pd).1 rx
  obtain ⟨bs, r2⟩ := he.reads I sf (flat64_ok pe).1 ry
  have h1 := (flat64_ok pd).2
  exact SeqAt.ne_plain r1 r2 (flat64_ok pd).1 (flat64_ok pe).1 (by have := Nat.min_le_left d.depth e.depth; omega) ⟨.bl _, H, I, rfl, q⟩
def eqD (a b : D) : Option D := if flat64 a = true ∧ flat64 b = true then some (.bool (PyData.eqv a b)) else none
def neD (a b : D) : Option D := if flat64 a = true ∧ flat64 b = true then some (.bool (!PyData.eqv a b)) else none
theorem s_eqP {K : PySem.W.Frag} : OpS K (rEqP K) eqD := by
  intro F H x y a b c Q s ra rb e q
  unfold eqD at e
  by_cases h : flat64 a = true ∧ flat64 b = true
  · rw [if_pos h] at e; cases e
    exact ⟨F, a, b, s, ra, rb, h.1, h.2, q _ _ _ (Gr.refl s) (.bl _)⟩
  · rw [if_neg h] at e; cases e
theorem s_neP {K : PySem.W.Frag} : OpS K (rNeP K) neD := by
  intro F H x y a b c Q s ra rb e q
  unfold neD at e
  by_cases h : flat64 a = true ∧ flat64 b = true
  · rw [if_pos h] at e; cases e
    exact ⟨F, a, b, s, ra, rb, h.1, h.2, q _ _ _ (Gr.refl s) (.bl _)⟩
  · rw [if_neg h] at e; cases e
/-- x in a list, a tuple -/
def rInP (K : PySem.W.Frag) (neg : Bool) : R2 := fun x y H Q => ∃ F d ds, Same F H ∧ RpO K F H x d ∧ (RpO K F H y (.list ds) ∨ RpO K F H y (.tuple ds)) ∧ flat64 d = true ∧ PyData.plainAll ds = true ∧ Q (.bl (if neg then !(ds.any fun z => PyData.eqv z d) else ds.any fun z => PyData.eqv z d)) H
theorem op_inP (hu : X.A.units + 64 < cLine) : OpR X (compareOp .In) (rInP X.K false) := by
  intro pins s σ H x y v u Q I rx ry h
  obtain ⟨F, d, ds, sf, hd, he, pd, pe, q⟩ := h
  obtain ⟨as, r1⟩ := hd.reads I sf (flat64_ok pd).1 rx
  have h1 := (flat64_ok pd).2
  have h2 := Nat.min_le_right (PyData.depthAll ds) d.depth
  rcases he with he | he
  · obtain ⟨bs, r2⟩ := he.reads I sf (by simpa [PyData.plain] using pe) ry
    exact SeqAt.in_list_data r2 r1 pe (flat64_ok pd).1 (by omega) ⟨.bl _, H, I, rfl, q⟩
  · obtain ⟨bs, r2⟩ := he.reads I sf (by simpa [PyData.plain] using pe) ry
    exact SeqAt.in_tuple_data r2 r1 pe (flat64_ok pd).1 (by omega) ⟨.bl _, H, I, rfl, q⟩
theorem op_notInP (hu : X.A.units + 64 < cLine) : OpR X (compareOp .NotIn) (rInP X.K true) := by
  intro pins s σ H x y v u Q I rx ry h
  obtain ⟨F, d, ds, sf, hd, he, pd, pe, q⟩ := h
  obtain ⟨as, r1⟩ := hd.reads I sf (flat64_ok pd).1 rx
  have h1 := (flat64_ok pd).2
  have h2 := Nat.min_le_right (PyData.depthAll ds) d.depth
  rcases he with he | he
  · obtain ⟨bs, r2⟩ := he.reads I sf (by simpa [PyData.plain] using pe) ry
    exact SeqAt.notIn_list_data r2 r1 pe (flat64_ok pd).1 (by omega) ⟨.bl _, H, I, rfl, q⟩
  · obtain ⟨bs, r2⟩ := he.reads I sf (by simpa [PyData.plain] using pe) ry
    exact SeqAt.notIn_tuple_data r2 r1 pe (flat64_ok pd).1 (by omega) ⟨.bl _, H, I, rfl, q⟩
def inP (a b : D) : Option D := match b with
  | .list ds => if flat64 a = true ∧ PyData.plainAll ds = true then some (.bool (ds.any fun z => PyData.eqv z a)) else none
  | .tuple ds => if flat64 a = true ∧ PyData.plainAll ds = true then some (.bool (ds.any fun z => PyData.eqv z a)) else none
  | _ => none
def notInP (a b : D) : Option D := match b with
  | .list ds => if flat64 a = true ∧ PyData.plainAll ds = true then some (.bool (!ds.any fun z => PyData.eqv z a)) else none
  | .tuple ds => if flat64 a = true ∧ PyData.plainAll ds = true then some (.bool (!ds.any fun z => PyData.eqv z a)) else none
  | _ => none
theorem s_inP {K : PySem.W.Frag} : OpS K (rInP K false) inP := by
  intro F H x y a b c Q s ra rb e q
  cases b with
  | list ds =>
    have e : (if flat64 a = true ∧ PyData.plainAll ds = true then some (PyData.bool (ds.any fun z => PyData.eqv z a)) else none) = some c := e
    by_cases h : flat64 a = true ∧ PyData.plainAll ds = true
    · rw [if_pos h] at e; cases e
      exact ⟨F, a, ds, s, ra, .inl rb, h.1, h.2, q _ _ _ (Gr.refl s) (.bl _)⟩
    · rw [if_neg h] at e; cases e
  | tuple ds =>
    have e : (if flat64 a = true ∧ PyData.plainAll ds = true then some (PyData.bool (ds.any fun z => PyData.eqv z a)) else none) = some c := e
    by_cases h : flat64 a = true ∧ PyData.plainAll ds = true
    · rw [if_pos h] at e; cases e
      exact ⟨F, a, ds, s, ra, .inr rb, h.1, h.2, q _ _ _ (Gr.refl s) (.bl _)⟩
    · rw [if_neg h] at e; cases e
  | _ => cases e
theorem s_notInP {K : PySem.W.Frag} : OpS K (rInP K true) notInP := by
  intro F H x y a b c Q s ra rb e q
  cases b with
  | list ds =>
    have e : (if flat64 a = true ∧ PyData.plainAll ds = true then some (PyData.bool (!ds.any fun z => PyData.eqv z a)) else none) = some c := e
    by_cases h : flat64 a = true ∧ PyData.plainAll ds = true
    · rw [if_pos h] at e; cases e
      exact ⟨F, a, ds, s, ra, .inl rb, h.1, h.2, q _ _ _ (Gr.refl s) (.bl _)⟩
    · rw [if_neg h] at e; cases e
  | tuple ds =>
    have e : (if flat64 a = true ∧ PyData.plainAll ds = true then some (PyData.bool (!ds.any fun z => PyData.eqv z a)) else none) = some c := e
    by_cases h : flat64 a = true ∧ PyData.plainAll ds = true
    · rw [if_pos h] at e; cases e
      exact ⟨F, a, ds, s, ra, .inr rb, h.1, h.2, q _ _ _ (Gr.refl s) (.bl _)⟩
    · rw [if_neg h] at e; cases e
  | _ => cases e
/-- is None -/
def isNone : D → Bool
  | .none => true
  | _ => false
def isND (a b : D) : Option D := match b with
  | .none => some (.bool (isNone a))
  | _ => none
def notND (a b : D) : Option D := match b with
  | .none => some (.bool (!isNone a))
  | _ => none
theorem RpO.isNone {K : PySem.W.Frag} {F H : Hp} {v : V} {d : D} (h : RpO K F H v d) : decide (v = .non) = isNone d := by
  rcases h with h | h
  · cases h <;> rfl
  · cases h <;> rfl
def rIsN : R2 := fun x y H Q => y = .non ∧ Q (.bl (decide (x = .non))) H
def rNotN : R2 := fun x y H Q => y = .non ∧ Q (.bl (!decide (x = .non))) H
theorem s_isN {K : PySem.W.Frag} : OpS K rIsN isND := by
  intro F H x y a b c Q s ra rb e q
  cases b with
  | none => cases e; exact ⟨rb.non, by rw [ra.isNone]; exact q _ _ _ (Gr.refl s) (.bl _)⟩
  | _ => cases e
theorem s_notN {K : PySem.W.Frag} : OpS K rNotN notND := by
  intro F H x y a b c Q s ra rb e q
  cases b with
  | none => cases e; exact ⟨rb.non, by rw [ra.isNone]; exact q _ _ _ (Gr.refl s) (.bl _)⟩
  | _ => cases e

/-! ### comparisons by their operator: values and tests -/
theorem v_eq (hu : X.A.units + 64 < cLine) (ha : VO X W a ma) (hb : VO X W b mb) : VE X W (.Compare a [.Eq] [b] pos) (bin eqD ma mb) := v_cmp (op_eqP hu) s_eqP ha hb (nomark _)
theorem v_ne (hu : X.A.units + 64 < cLine) (ha : VO X W a ma) (hb : VO X W b mb) : VE X W (.Compare a [.NotEq] [b] pos) (bin neD ma mb) := v_cmp (op_neP hu) s_neP ha hb (nomark _)
theorem v_lt (ha : VO X W a ma) (hb : VO X W b mb) : VE X W (.Compare a [.Lt] [b] pos) (bin ltD ma mb) := v_cmp op_lt s_lt ha hb (nomark _)
theorem v_le (ha : VO X W a ma) (hb : VO X W b mb) : VE X W (.Compare a [.LtE] [b] pos) (bin leD ma mb) := v_cmp op_le s_le ha hb (nomark _)
theorem v_gt (ha : VO X W a ma) (hb : VO X W b mb) : VE X W (.Compare a [.Gt] [b] pos) (bin gtD ma mb) := v_cmp op_gt s_gt ha hb (nomark _)
theorem v_ge (ha : VO X W a ma) (hb : VO X W b mb) : VE X W (.Compare a [.GtE] [b] pos) (bin geD ma mb) := v_cmp op_ge s_ge ha hb (nomark _)
theorem v_in (hu : X.A.units + 64 < cLine) (ha : VO X W a ma) (hb : VO X W b mb) (hm : behindInMarks .In b = false := by rfl) : VE X W (.Compare a [.In] [b] pos) (bin inP ma mb) := v_cmp (op_inP hu) s_inP ha hb hm
theorem v_notIn (hu : X.A.units + 64 < cLine) (ha : VO X W a ma) (hb : VO X W b mb) (hm : behindInMarks .NotIn b = false := by rfl) : VE X W (.Compare a [.NotIn] [b] pos) (bin notInP ma mb) := v_cmp (op_notInP hu) s_notInP ha hb hm
theorem v_isN (ha : VO X W a ma) (hb : VO X W b mb) : VE X W (.Compare a [.Is] [b] pos) (bin isND ma mb) := v_cmp op_isN s_isN ha hb (nomark _)
theorem v_notN (ha : VO X W a ma) (hb : VO X W b mb) : VE X W (.Compare a [.IsNot] [b] pos) (bin notND ma mb) := v_cmp op_notN s_notN ha hb (nomark _)
theorem t_eq (hu : X.A.units + 64 < cLine) (ha : VO X W a ma) (hb : VO X W b mb) : VT X W (.Compare a [.Eq] [b] pos) (asB (bin eqD ma mb)) := vt_cmp (op_eqP hu) s_eqP ha hb (nomark _)
theorem t_ne (hu : X.A.units + 64 < cLine) (ha : VO X W a ma) (hb : VO X W b mb) : VT X W (.Compare a [.NotEq] [b] pos) (asB (bin neD ma mb)) := vt_cmp (op_neP hu) s_neP ha hb (nomark _)
theorem t_lt (ha : VO X W a ma) (hb : VO X W b mb) : VT X W (.Compare a [.Lt] [b] pos) (asB (bin ltD ma mb)) := vt_cmp op_lt s_lt ha hb (nomark _)
theorem t_le (ha : VO X W a ma) (hb : VO X W b mb) : VT X W (.Compare a [.LtE] [b] pos) (asB (bin leD ma mb)) := vt_cmp op_le s_le ha hb (nomark _)
theorem t_gt (ha : VO X W a ma) (hb : VO X W b mb) : VT X W (.Compare a [.Gt] [b] pos) (asB (bin gtD ma mb)) := vt_cmp op_gt s_gt ha hb (nomark _)
theorem t_ge (ha : VO X W a ma) (hb : VO X W b mb) : VT X W (.Compare a [.GtE] [b] pos) (asB (bin geD ma mb)) := vt_cmp op_ge s_ge ha hb (nomark _)
theorem t_in (hu : X.A.units + 64 < cLine) (ha : VO X W a ma) (hb : VO X W b mb) (hm : behindInMarks .In b = false := by rfl) : VT X W (.Compare a [.In] [b] pos) (asB (bin inP ma mb)) := vt_cmp (op_inP hu) s_inP ha hb hm
theorem t_notIn (hu : X.A.units + 64 < cLine) (ha : VO X W a ma) (hb : VO X W b mb) (hm : behindInMarks .NotIn b = false := by rfl) : VT X W (.Compare a [.NotIn] [b] pos) (asB (bin notInP ma mb)) := vt_cmp (op_notInP hu) s_notInP ha hb hm
theorem t_isN (ha : VO X W a ma) (hb : VO X W b mb) : VT X W (.Compare a [.Is] [b] pos) (asB (bin isND ma mb)) := vt_cmp op_isN s_isN ha hb (nomark _)
theorem t_notN (ha : VO X W a ma) (hb : VO X W b mb) : VT X W (.Compare a [.IsNot] [b] pos) (asB (bin notND ma mb)) := vt_cmp op_notN s_notN ha hb (nomark _)
/-- a op b op c -/
theorem t_chainR {op op' : CmpOp} {r r' : R2} {f g : D → D → Option D} (hs : OpS X.K r f) (hs' : OpS X.K r' g) : ∀ σ H Q, tE X.K X.mg W (chainM f g ma mb mc) σ H Q → tChain r r' (tO X.K X.mg W ma) (tO X.K X.mg W mb) (tO X.K X.mg W mc) σ H Q := fun σ H Q ⟨H0, F0, F, ρ, re, q⟩ => by
  refine ⟨H0, F0, F, ρ, re, q.bind.imp fun x F1 H1 g1 k1 v r1 => ?_⟩
  refine ⟨H0, F0, F1, ρ, re.grow g1, k1.bind.imp fun y F2 H2 g2 k2 w r2 => ?_⟩
  have k2 := k2.bind
  obtain ⟨z, e, k3⟩ := k2.ofO
  refine hs F2 H2 v w x y z _ g2.fh (r1.grow g2) r2 e fun F3 H3 zv g3 rz => ?_
  have k3 := k3 F3 H3 g3
  cases z with
  | bool bb =>
    cases rz
    refine ⟨bb, rfl, ?_⟩
    cases bb with
    | true =>
      rw [if_pos rfl]
      refine ⟨H0, F0, F3, ρ, (re.grow g1).grow (g2.trans g3), k3.bind.imp fun u F4 H4 g4 k4 uv r4 => ?_⟩
      obtain ⟨c', e', k5⟩ := k4.ofO
      exact hs' F4 H4 w uv y u c' Q g4.fh (r2.grow (g3.trans g4)) r4 e' fun F5 H5 zz g5 rz => k5 F5 H5 g5 zz rz
    | false =>
      rw [if_neg Bool.false_ne_true]
      exact k3.ok g3.fh _ (.bl _)
  | _ => exact k3.elim
theorem v_chain {op op' : CmpOp} {r r' : R2} {f g : D → D → Option D} (ho : OpR X (compareOp op) r) (ho' : OpR X (compareOp op') r') (hs : OpS X.K r f) (hs' : OpS X.K r' g) (ha : VO X W a ma) (hb : VO X W b mb) (hc : VO X W c mc)
    (hm : lastMarks [op, op'] [b, c] = false := by with_unfolding_all rfl) : VE X W (.Compare a [op, op'] [b, c] pos) (chainM f g ma mb mc) := peW (L2.pe_chain ho ho' ha hb hc hm) (t_chainR (op := op) (op' := op') hs hs')
theorem t_chain {op op' : CmpOp} {r r' : R2} {f g : D → D → Option D} (ho : OpR X (compareOp op) r) (ho' : OpR X (compareOp op') r') (hs : OpS X.K r f) (hs' : OpS X.K r' g) (ha : VO X W a ma) (hb : VO X W b mb) (hc : VO X W c mc)
    (hm : lastMarks [op, op'] [b, c] = false := by with_unfolding_all rfl) : VT X W (.Compare a [op, op'] [b, c] pos) (asB (chainM f g ma mb mc)) := ptW (L2.pt_chain ho ho' ha hb hc hm) (t_asB (t_chainR (op := op) (op' := op') hs hs') (t_chainR (op := op) (op' := op') hs hs'))
end
end L2.VL

set_option Elab.async false
set_option linter.all false
set_option autoImplicit false
set_option maxRecDepth 100000
set_option maxHeartbeats 4000000
namespace L2.VL
open PySem PySem.Spec PyProof.Rows

/-! ### subscripts -/
section
variable {K : PySem.W.Frag}
theorem RpA.atI {F : Hp} {vs : List V} {ds : List D} {i : Int} {d : D} (h : RpA K F vs ds) (e : L2.atI ds i = some d) : ∃ v, L2.atI vs i = some v ∧ Rp K F v d := by
  unfold L2.atI at e ⊢
  rw [h.length]
  cases q : ixN ds.length i with
  | none => rw [q] at e; cases e
  | some j =>
    rw [q] at e
    exact h.getD (i := j) e
def ixL : D → D → Option D
  | .list ds, .int i => L2.atI ds i
  | _, _ => none
def ixT : D → D → Option D
  | .tuple ds, .int i => L2.atI ds i
  | _, _ => none
def ixS : D → D → Option D
  | .str z, .int i => if z.length ≤ 16777216 then (L2.atI z.cps.toList i).map fun c => .str ⟨#[c]⟩ else none
  | _, _ => none
def ixD (a b : D) : Option D := (ixL a b).or ((ixT a b).or (ixS a b))
theorem s_ixL : OpS K (rIxL K) ixL := by
  intro F H x y a b c Q s ra rb e q
  unfold ixL at e
  split at e
  · obtain ⟨p, vs, rfl, h1, h2⟩ := ra.list s
    obtain ⟨v, e1, r1⟩ := h2.atI e
    exact ⟨p, vs, _, v, rfl, rb.int, h1, e1, q _ _ _ (Gr.refl s) r1⟩
  · cases e
theorem s_ixT : OpS K (rIxT K) ixT := by
  intro F H x y a b c Q s ra rb e q
  unfold ixT at e
  split at e
  · obtain ⟨p, vs, rfl, h1, h2, _⟩ := ra.tuple s
    obtain ⟨v, e1, r1⟩ := h2.atI e
    exact ⟨p, vs, _, v, rfl, rb.int, h1, e1, q _ _ _ (Gr.refl s) r1⟩
  · cases e
theorem s_ixS : OpS K rIxS ixS := by
  intro F H x y a b c Q s ra rb e q
  unfold ixS at e
  split at e
  · rename_i z i
    by_cases h : z.length ≤ 16777216
    · rw [if_pos h] at e
      cases e1 : L2.atI z.cps.toList i with
      | none => rw [e1] at e; cases e
      | some ch =>
        rw [e1] at e; cases e
        exact ⟨z, i, ch, ra.str, rb.int, by rw [sizeLine_eq]; exact h, e1, q _ _ _ (Gr.refl s) (.str _)⟩
    · rw [if_neg h] at e; cases e
  · cases e
theorem s_ix : OpS K (rIx K) ixD := s_ixL.or (s_ixT.or s_ixS)
end
section
variable {X : Cx} {W : WX} {a b c e e2 : Expr} {es : List Expr} {ma mb mc m m2 : EM} {pos p p2 : Pos}
theorem v_ix (ha : VO X W a ma) (hb : VO X W b mb) (hs : PlainIx b := by exact fun _ _ => rfl) : VE X W (.Subscript a b pos) (bin ixD ma mb) := peW (pe_ix ix_seq ha hb hs) (t_bin s_ix)

/-! ### slices -/
abbrev PM := Rho → R (Option Int)
def tPm (K : PySem.W.Frag) (mg : Str → Option Value) (W : WX) (m : PM) : TO := fun σ H Q => ∃ H0 F0 F ρ, RE K H0 F0 F H ρ σ ∧ Rk K mg W F H σ (m ρ) fun o F' H' => Q o H'
abbrev VP (X : Cx) (W : WX) (e : Option Expr) (m : PM) : Prop := PO X e (tPm X.K X.mg W m)
def noP : PM := fun _ => .ok none
def someP (m : EM) : PM := fun ρ => (m ρ).bind fun d => match d with
  | .int i => .ok (some i)
  | _ => .bad
theorem poW {e : Option Expr} {t t' : TO} (h : PO X e t) (w : ∀ σ H Q, t' σ H Q → t σ H Q) : PO X e t' := ⟨fun p s σ H Q I q => h.run p s σ H Q I (w _ _ _ q)⟩
theorem vp_none : VP X W none noP := poW po_none fun σ H Q ⟨H0, F0, F, ρ, re, q⟩ => q.ok re.sub
theorem vp_some (h : VO X W e m) : VP X W (some e) (someP m) := poW (po_some h) fun σ H Q ⟨H0, F0, F, ρ, re, q⟩ => by
  refine ⟨H0, F0, F, ρ, re, q.bind.imp fun d F' H' g k v r => ?_⟩
  cases d with
  | int i => exact ⟨i, r.int, k.ok g.fh⟩
  | _ => exact k.elim
def cutG {α : Type} (xs : List α) (lo hi : Option Int) : List α := (xs.drop (HT.sIx xs.length 0 lo)).take (HT.sIx xs.length xs.length hi - HT.sIx xs.length 0 lo)
theorem RpA.cut {K : PySem.W.Frag} {F : Hp} {vs : List V} {ds : List D} (h : RpA K F vs ds) (lo hi : Option Int) : RpA K F (cutV vs lo hi) (cutG ds lo hi) := by
  unfold cutV cutG
  rw [h.length]
  exact (h.drop _).take _
def slD (d : D) (lo hi : Option Int) : Option D := match d with
  | .list ds => some (.list (cutG ds lo hi))
  | .tuple ds => some (.tuple (cutG ds lo hi))
  | .str z => if z.length ≤ 16777216 then some (.str (cutS z lo hi)) else none
  | _ => none
def sliceM (m : EM) (lo hi : PM) : EM := fun ρ => (m ρ).bind fun d => (lo ρ).bind fun l => (hi ρ).bind fun h => R.ofO (slD d l h)
def sliceL (m : EM) (lo hi : PM) : LM := fun ρ => (m ρ).bind fun d => (lo ρ).bind fun l => (hi ρ).bind fun h => match d with
  | .list ds => .ok (cutG ds l h)
  | _ => .bad
theorem cut_whole {α : Type} {xs : List α} {lo hi : Option Int} (h : HT.sIx xs.length 0 lo = 0 ∧ HT.sIx xs.length xs.length hi = xs.length) : cutG xs lo hi = xs := by
  unfold cutG
  rw [h.1, h.2, List.drop_zero, Nat.sub_zero, List.take_length]
theorem v_slice {lo hi : Option Expr} {ml mh : PM} (he : VO X W e m) (hl : VP X W lo ml) (hh : VP X W hi mh) : VE X W (.Subscript e (.Slice lo hi none p2) pos) (sliceM m ml mh) :=
  peW (pe_slice (sl_list.or (sl_tupA.or sl_str)) he hl hh) fun σ H Q ⟨H0, F0, F, ρ, re, q⟩ => by
    refine ⟨H0, F0, F, ρ, re, q.bind.imp fun d F1 H1 g1 k1 v r1 => ?_⟩
    refine ⟨H0, F0, F1, ρ, re.grow g1, k1.bind.imp fun l F2 H2 g2 k2 => ?_⟩
    refine ⟨H0, F0, F2, ρ, (re.grow g1).grow g2, k2.bind.imp fun h F3 H3 g3 k3 => ?_⟩
    obtain ⟨c, e, k4⟩ := k3.ofO
    have r3 := r1.grow (g2.trans g3)
    cases d with
    | list ds =>
      cases e
      obtain ⟨a, vs, rfl, h1, h2⟩ := r3.list g3.fh
      refine .inl ⟨a, vs, rfl, h1, fun p hp => ?_⟩
      have g : Gr F3 H3 (upd F3 p (.lst (cutV vs l h))) (upd H3 p (.lst (cutV vs l h))) := Gr.alloc g3.fh _ hp
      exact k4 _ _ g _ (.lst (.of upd_same) ((h2.cut l h).mono g.ff))
    | tuple ds =>
      cases e
      obtain ⟨a, vs, rfl, h1, h2, f1⟩ := r3.tuple g3.fh
      refine .inr (.inl ⟨a, vs, rfl, h1, fun hw => ?_, fun hw p hp => ?_⟩)
      · rw [h2.length] at hw
        exact k4 _ _ (Gr.refl g3.fh) _ (.tup f1 (by rw [cut_whole hw]; exact h2))
      · have g : Gr F3 H3 (upd F3 p (.tup (cutV vs l h))) (upd H3 p (.tup (cutV vs l h))) := Gr.alloc g3.fh _ hp
        exact k4 _ _ g _ (.tup (.of upd_same) ((h2.cut l h).mono g.ff))
    | str z =>
      have e : (if z.length ≤ 16777216 then some (PyData.str (cutS z l h)) else none) = some c := e
      by_cases hz : z.length ≤ 16777216
      · rw [if_pos hz] at e; cases e
        exact .inr (.inr ⟨z, r3.str, by rw [sizeLine_eq]; exact hz, k4 _ _ (Gr.refl g3.fh) _ (.str _)⟩)
      · rw [if_neg hz] at e; cases e
    | _ => cases e
theorem vf_slice {lo hi : Option Expr} {ml mh : PM} (he : VO X W e m) (hl : VP X W lo ml) (hh : VP X W hi mh) : VF X W (.Subscript e (.Slice lo hi none p2) pos) (sliceL m ml mh) :=
  peW (pe_slice sl_list he hl hh) fun σ H Q ⟨H0, F0, F, ρ, re, q⟩ => by
    refine ⟨H0, F0, F, ρ, re, q.bind.imp fun d F1 H1 g1 k1 v r1 => ?_⟩
    refine ⟨H0, F0, F1, ρ, re.grow g1, k1.bind.imp fun l F2 H2 g2 k2 => ?_⟩
    refine ⟨H0, F0, F2, ρ, (re.grow g1).grow g2, k2.bind.imp fun h F3 H3 g3 k3 => ?_⟩
    have r3 := r1.grow (g2.trans g3)
    cases d with
    | list ds =>
      obtain ⟨a, vs, rfl, h1, h2⟩ := r3.list g3.fh
      exact ⟨a, vs, rfl, h1, fun p hp => k3.ok g3.fh p _ hp (h2.cut l h)⟩
    | _ => exact k3.elim

/-! ### calls of built-ins -/
def C1S (K : PySem.W.Frag) (r : List V → Hp → VK → Prop) (f : D → Option D) : Prop := ∀ (F H : Hp) (x : V) (a c : D) (Q : VK), Same F H → RpO K F H x a → f a = some c → (∀ F' H' v, Gr F H F' H' → Rp K F' v c → Q v H') → r [x] H Q
def C2S (K : PySem.W.Frag) (r : List V → Hp → VK → Prop) (f : D → D → Option D) : Prop := ∀ (F H : Hp) (x y : V) (a b c : D) (Q : VK), Same F H → RpO K F H x a → RpO K F H y b → f a b = some c → (∀ F' H' v, Gr F H F' H' → Rp K F' v c → Q v H') → r [x, y] H Q
theorem C1S.or {K : PySem.W.Frag} {r r' : List V → Hp → VK → Prop} {f f' : D → Option D} (h : C1S K r f) (h' : C1S K r' f') : C1S K (fun xs H Q => r xs H Q ∨ r' xs H Q) (fun a => (f a).or (f' a)) := by
  intro F H x a c Q s ra e q
  have e : (f a).or (f' a) = some c := e
  cases e1 : f a with
  | some z => rw [e1] at e; cases e; exact .inl (h F H x a _ Q s ra e1 q)
  | none => rw [e1] at e; exact .inr (h' F H x a _ Q s ra e q)
theorem C2S.or {K : PySem.W.Frag} {r r' : List V → Hp → VK → Prop} {f f' : D → D → Option D} (h : C2S K r f) (h' : C2S K r' f') : C2S K (fun xs H Q => r xs H Q ∨ r' xs H Q) (fun a b => (f a b).or (f' a b)) := by
  intro F H x y a b c Q s ra rb e q
  have e : (f a b).or (f' a b) = some c := e
  cases e1 : f a b with
  | some z => rw [e1] at e; cases e; exact .inl (h F H x y a b _ Q s ra rb e1 q)
  | none => rw [e1] at e; exact .inr (h' F H x y a b _ Q s ra rb e q)
theorem t_c1 {K : PySem.W.Frag} {mg : Str → Option Value} {r : List V → Hp → VK → Prop} {f : D → Option D} (hs : C1S K r f) : ∀ σ H Q, tE K mg W (un f m) σ H Q → tCB r (tCons (tO K mg W m) tNil) σ H Q := fun σ H Q ⟨H0, F0, F, ρ, re, q⟩ => by
  refine ⟨H0, F0, F, ρ, re, q.bind.imp fun x F1 H1 g1 k1 v r1 => ?_⟩
  obtain ⟨c, e, k3⟩ := k1.ofO
  exact hs F1 H1 v x c Q g1.fh r1 e fun F3 H3 z g3 rz => k3 F3 H3 g3 z rz
theorem t_c2 {K : PySem.W.Frag} {mg : Str → Option Value} {r : List V → Hp → VK → Prop} {f : D → D → Option D} (hs : C2S K r f) : ∀ σ H Q, tE K mg W (bin f m m2) σ H Q → tCB r (tCons (tO K mg W m) (tCons (tO K mg W m2) tNil)) σ H Q := fun σ H Q ⟨H0, F0, F, ρ, re, q⟩ => by
  refine ⟨H0, F0, F, ρ, re, q.bind.imp fun x F1 H1 g1 k1 v r1 => ?_⟩
  refine ⟨H0, F0, F1, ρ, re.grow g1, k1.bind.imp fun y F2 H2 g2 k2 w r2 => ?_⟩
  obtain ⟨c, e, k3⟩ := k2.ofO
  exact hs F2 H2 v w x y c Q g2.fh (r1.grow g2) r2 e fun F3 H3 z g3 rz => k3 F3 H3 g3 z rz
/-- one, two operands -/
abbrev VA1 (X : Cx) (W : WX) (e : Expr) (m : EM) : Prop := PA X [e] (tCons (tO X.K X.mg W m) tNil)
abbrev VA2 (X : Cx) (W : WX) (e e2 : Expr) (m m2 : EM) : Prop := PA X [e, e2] (tCons (tO X.K X.mg W m) (tCons (tO X.K X.mg W m2) tNil))
theorem pa1 (h : VO X W e m) (hs : starEach [e] X.env = (false, eval e X.env) :: starEach [] X.env := by rfl) : VA1 X W e m := pa_cons h pa_nil hs
theorem pa2 (h : VO X W e m) (h2 : VO X W e2 m2) (hs : starEach [e, e2] X.env = (false, eval e X.env) :: starEach [e2] X.env := by rfl) (hs2 : starEach [e2] X.env = (false, eval e2 X.env) :: starEach [] X.env := by rfl) : VA2 X W e e2 m m2 := pa_cons h (pa_cons h2 pa_nil hs2) hs
variable {x : Str} {id T : String} {r : List V → Hp → VK → Prop} {f1 : D → Option D} {f2 : D → D → Option D}
theorem v_b1 (hc : CallR X (.builtin id) r) (hs : C1S X.K r f1) (hg : Gl X x) (hm : X.mg x = none) (hv : bootBuiltins x = some (.builtin id)) (ha : VA1 X W e m) (hn : x ≠ "__name__" := by decide) (hdb : (x == ("__debug__" : Str)) = false := by decide) (hst : starEach [e] X.env = (false, eval e X.env) :: starEach [] X.env := by rfl) (hpl : (backTo pos (starEach [] X.env)).any (·.1) = false := by rfl) :
    VE X W (.Call (.Name x p) [e] [] pos) (un f1 m) := peW (pe_callB hc hg hm hv ha hn hdb hst hpl) (t_c1 hs)
theorem v_b2 (hc : CallR X (.builtin id) r) (hs : C2S X.K r f2) (hg : Gl X x) (hm : X.mg x = none) (hv : bootBuiltins x = some (.builtin id)) (ha : VA2 X W e e2 m m2) (hn : x ≠ "__name__" := by decide) (hdb : (x == ("__debug__" : Str)) = false := by decide) (hst : starEach [e, e2] X.env = (false, eval e X.env) :: starEach [e2] X.env := by rfl) (hpl : (backTo pos (starEach [e2] X.env)).any (·.1) = false := by rfl) :
    VE X W (.Call (.Name x p) [e, e2] [] pos) (bin f2 m m2) := peW (pe_callB hc hg hm hv ha hn hdb hst hpl) (t_c2 hs)
theorem v_ty1 (hc : CallR X (.type T) r) (hs : C1S X.K r f1) (hg : Gl X x) (hm : X.mg x = none) (hv : bootBuiltins x = some (.type T)) (ha : VA1 X W e m) (hn : x ≠ "__name__" := by decide) (hdb : (x == ("__debug__" : Str)) = false := by decide) (hst : starEach [e] X.env = (false, eval e X.env) :: starEach [] X.env := by rfl) (hpl : (backTo pos (starEach [] X.env)).any (·.1) = false := by rfl) :
    VE X W (.Call (.Name x p) [e] [] pos) (un f1 m) := peW (pe_callTy hc hg hm hv ha hn hdb hst hpl) (t_c1 hs)
/-- a built-in function that the module has by a name of its own (from math import gcd) -/
theorem v_m2 (hc : CallR X (.builtin id) r) (hs : C2S X.K r f2) (hg : Gl X x) (hm : X.mg x = some (.builtin id)) (ha : VA2 X W e e2 m m2) (hdb : (x == ("__debug__" : Str)) = false := by decide) (hst : starEach [e, e2] X.env = (false, eval e X.env) :: starEach [e2] X.env := by rfl) (hpl : (backTo pos (starEach [e2] X.env)).any (·.1) = false := by rfl) :
    VE X W (.Call (.Name x p) [e, e2] [] pos) (bin f2 m m2) := peW (pe_callBfun hc hg hm ha hdb hst hpl) (t_c2 hs)
theorem v_m1 (hc : CallR X (.builtin id) r) (hs : C1S X.K r f1) (hg : Gl X x) (hm : X.mg x = some (.builtin id)) (ha : VA1 X W e m) (hdb : (x == ("__debug__" : Str)) = false := by decide) (hst : starEach [e] X.env = (false, eval e X.env) :: starEach [] X.env := by rfl) (hpl : (backTo pos (starEach [] X.env)).any (·.1) = false := by rfl) :
    VE X W (.Call (.Name x p) [e] [] pos) (un f1 m) := peW (pe_callBfun hc hg hm ha hdb hst hpl) (t_c1 hs)

/-! len, abs, max, min, int, gcd, sum, any, all, list, tuple -/
def rLen (K : PySem.W.Frag) : List V → Hp → VK → Prop := fun xs H Q => ∃ x n, xs = [x] ∧ LenV K x H n ∧ Q (.int n) H
def lenD : D → Option D
  | .list ds => some (.int ds.length)
  | .tuple ds => some (.int ds.length)
  | .str z => if z.length ≤ 16777216 then some (.int z.length) else none
  | _ => none
theorem c_len : CallR X (.builtin "len") (rLen X.K) := call_len
theorem s_len {K : PySem.W.Frag} : C1S K (rLen K) lenD := by
  intro F H x a c Q s ra e q
  cases a with
  | list ds =>
    cases e
    obtain ⟨p, vs, rfl, h1, h2⟩ := ra.list s
    exact ⟨_, _, rfl, .inl ⟨vs, h1, rfl⟩, by rw [h2.length]; exact q _ _ _ (Gr.refl s) (.int _)⟩
  | tuple ds =>
    cases e
    obtain ⟨p, vs, rfl, h1, h2, _⟩ := ra.tuple s
    exact ⟨_, _, rfl, .inr ⟨vs, h1, rfl⟩, by rw [h2.length]; exact q _ _ _ (Gr.refl s) (.int _)⟩
  | str z =>
    have e : (if z.length ≤ 16777216 then some (PyData.int z.length) else none) = some c := e
    by_cases hz : z.length ≤ 16777216
    · rw [if_pos hz] at e; cases e
      have := ra.str
      subst this
      exact ⟨_, _, rfl, ⟨by rw [sizeLine_eq]; exact hz, rfl⟩, q _ _ _ (Gr.refl s) (.int _)⟩
    · rw [if_neg hz] at e; cases e
  | _ => cases e
def absD : D → Option D
  | .int i => some (.int (if i < 0 then -i else i))
  | _ => none
def rAbs : List V → Hp → VK → Prop := fun xs H Q => ∃ i, xs = [.int i] ∧ Q (.int (if i < 0 then -i else i)) H
theorem c_abs : CallR X (.builtin "abs") rAbs := call_abs
theorem s_abs {K : PySem.W.Frag} : C1S K rAbs absD := by
  intro F H x a c Q s ra e q
  cases a with
  | int i =>
    cases e
    exact ⟨i, by rw [ra.int], q _ _ _ (Gr.refl s) (.int _)⟩
  | _ => cases e
def max2D : D → D → Option D := iI fun i j => some (.int (if j > i then j else i))
def min2D : D → D → Option D := iI fun i j => some (.int (if j < i then j else i))
def rMax2 : List V → Hp → VK → Prop := fun xs H Q => ∃ i j, xs = [.int i, .int j] ∧ Q (.int (if j > i then j else i)) H
def rMin2 : List V → Hp → VK → Prop := fun xs H Q => ∃ i j, xs = [.int i, .int j] ∧ Q (.int (if j < i then j else i)) H
theorem c_max2 (hc : X.calm = true) : CallR X (.builtin "max") rMax2 := call_max2 hc
theorem c_min2 (hc : X.calm = true) : CallR X (.builtin "min") rMin2 := call_min2 hc
theorem s_max2 {K : PySem.W.Frag} : C2S K rMax2 max2D := by
  intro F H x y a b c Q s ra rb e q
  obtain ⟨i, j, rfl, rfl, e⟩ := iI_inv e
  cases e
  exact ⟨i, j, by rw [ra.int, rb.int], q _ _ _ (Gr.refl s) (.int _)⟩
theorem s_min2 {K : PySem.W.Frag} : C2S K rMin2 min2D := by
  intro F H x y a b c Q s ra rb e q
  obtain ⟨i, j, rfl, rfl, e⟩ := iI_inv e
  cases e
  exact ⟨i, j, by rw [ra.int, rb.int], q _ _ _ (Gr.refl s) (.int _)⟩
def intD : D → Option D
  | .int i => some (.int i)
  | .bool k => some (.int (if k then 1 else 0))
  | _ => none
def rInt : List V → Hp → VK → Prop := fun xs H Q => (∃ i, xs = [.int i] ∧ Q (.int i) H) ∨ ∃ k, xs = [.bl k] ∧ Q (.int (if k then 1 else 0)) H
theorem c_int : CallR X (.type "int") rInt := call_int1
theorem s_int {K : PySem.W.Frag} : C1S K rInt intD := by
  intro F H x a c Q s ra e q
  cases a with
  | int i => cases e; exact .inl ⟨i, by rw [ra.int], q _ _ _ (Gr.refl s) (.int _)⟩
  | bool k => cases e; exact .inr ⟨k, by rw [ra.bl], q _ _ _ (Gr.refl s) (.int _)⟩
  | _ => cases e
def gcdD : D → D → Option D := iI fun i j => some (.int ((Nat.gcd i.natAbs j.natAbs : Nat) : Int))
theorem s_gcd {K : PySem.W.Frag} : C2S K rGcd gcdD := by
  intro F H x y a b c Q s ra rb e q
  obtain ⟨i, j, rfl, rfl, e⟩ := iI_inv e
  cases e
  exact ⟨i, j, by rw [ra.int, rb.int], q _ _ _ (Gr.refl s) (.int _)⟩
/-- the ints of a list -/
def intsOf : List D → Option (List Int)
  | [] => some []
  | .int i :: ds => (intsOf ds).map (i :: ·)
  | _ :: _ => none
theorem intsOf_eq : ∀ {ds : List D} {ns : List Int}, intsOf ds = some ns → ds = ns.map PyData.int
  | [], ns, h => by cases h; rfl
  | d :: ds, ns, h => by
    cases d with
    | int i =>
      have h : (intsOf ds).map (i :: ·) = some ns := h
      cases q : intsOf ds with
      | none => rw [q] at h; cases h
      | some ms => rw [q] at h; cases h; rw [intsOf_eq q]; rfl
    | _ => cases h
theorem intsOf_map : ∀ (ns : List Int), intsOf (ns.map PyData.int) = some ns
  | [] => rfl
  | n :: ns => by show (intsOf (ns.map PyData.int)).map (n :: ·) = _; rw [intsOf_map ns]; rfl
def boolsOf : List D → Option (List Bool)
  | [] => some []
  | .bool i :: ds => (boolsOf ds).map (i :: ·)
  | _ :: _ => none
theorem boolsOf_eq : ∀ {ds : List D} {ns : List Bool}, boolsOf ds = some ns → ds = ns.map PyData.bool
  | [], ns, h => by cases h; rfl
  | d :: ds, ns, h => by
    cases d with
    | bool i =>
      have h : (boolsOf ds).map (i :: ·) = some ns := h
      cases q : boolsOf ds with
      | none => rw [q] at h; cases h
      | some ms => rw [q] at h; cases h; rw [boolsOf_eq q]; rfl
    | _ => cases h
theorem boolsOf_map : ∀ (ns : List Bool), boolsOf (ns.map PyData.bool) = some ns
  | [] => rfl
  | n :: ns => by show (boolsOf (ns.map PyData.bool)).map (n :: ·) = _; rw [boolsOf_map ns]; rfl
theorem RpA.bools {K : PySem.W.Frag} {F : Hp} : ∀ {vs : List V} {ns : List Bool}, RpA K F vs (ns.map PyData.bool) → vs = ns.map V.bl
  | [], [], _ => rfl
  | _ :: _, [], h => by cases h
  | [], _ :: _, h => by cases h
  | v :: vs, n :: ns, h => by
    cases h with
    | cons a b =>
      cases a
      rw [RpA.bools b]; rfl
def sumD : D → Option D
  | .list ds => (intsOf ds).map fun ns => .int ns.sum
  | _ => none
theorem s_sum {K : PySem.W.Frag} : C1S K (rSum K) sumD := by
  intro F H x a c Q s ra e q
  cases a with
  | list ds =>
    have e : (intsOf ds).map (fun ns => PyData.int ns.sum) = some c := e
    obtain ⟨p, vs, rfl, h1, h2⟩ := ra.list s
    cases e1 : intsOf ds with
    | none => rw [e1] at e; cases e
    | some ns =>
      rw [e1] at e; cases e
      have := intsOf_eq e1
      subst this
      have := h2.ints
      subst this
      exact ⟨p, ns, rfl, h1, q _ _ _ (Gr.refl s) (.int _)⟩
  | _ => cases e
def anyD : D → Option D
  | .list ds => (boolsOf ds).map fun ns => .bool (ns.any _root_.id)
  | _ => none
def allD : D → Option D
  | .list ds => (boolsOf ds).map fun ns => .bool (ns.all _root_.id)
  | _ => none
theorem s_any {K : PySem.W.Frag} : C1S K (rAny K) anyD := by
  intro F H x a c Q s ra e q
  cases a with
  | list ds =>
    have e : (boolsOf ds).map (fun ns => PyData.bool (ns.any _root_.id)) = some c := e
    obtain ⟨p, vs, rfl, h1, h2⟩ := ra.list s
    cases e1 : boolsOf ds with
    | none => rw [e1] at e; cases e
    | some ns =>
      rw [e1] at e; cases e
      have := boolsOf_eq e1
      subst this
      have := h2.bools
      subst this
      exact ⟨p, ns, rfl, h1, q _ _ _ (Gr.refl s) (.bl _)⟩
  | _ => cases e
theorem s_all {K : PySem.W.Frag} : C1S K (rAll K) allD := by
  intro F H x a c Q s ra e q
  cases a with
  | list ds =>
    have e : (boolsOf ds).map (fun ns => PyData.bool (ns.all _root_.id)) = some c := e
    obtain ⟨p, vs, rfl, h1, h2⟩ := ra.list s
    cases e1 : boolsOf ds with
    | none => rw [e1] at e; cases e
    | some ns =>
      rw [e1] at e; cases e
      have := boolsOf_eq e1
      subst this
      have := h2.bools
      subst this
      exact ⟨p, ns, rfl, h1, q _ _ _ (Gr.refl s) (.bl _)⟩
  | _ => cases e
def tupD : D → Option D
  | .list ds => some (.tuple ds)
  | .tuple ds => some (.tuple ds)
  | _ => none
def rTup (K : PySem.W.Frag) : List V → Hp → VK → Prop := fun xs H Q => ∃ p ys, xs = [.ref p] ∧ ((SqL K H p ys ∧ ∀ l, H l = none → Q (.ref l) (upd H l (.tup ys))) ∨ (SqT K H p ys ∧ Q (.ref p) H))
theorem c_tup : CallR X (.type "tuple") (rTup X.K) := call_tuple_of
theorem s_tup {K : PySem.W.Frag} : C1S K (rTup K) tupD := by
  intro F H x a c Q s ra e q
  cases a with
  | list ds =>
    cases e
    obtain ⟨p, vs, rfl, h1, h2⟩ := ra.list s
    refine ⟨p, vs, rfl, .inl ⟨h1, fun l hl => ?_⟩⟩
    have g : Gr F H (upd F l (.tup vs)) (upd H l (.tup vs)) := Gr.alloc s _ hl
    exact q _ _ _ g (.tup (.of upd_same) (h2.mono g.ff))
  | tuple ds =>
    cases e
    obtain ⟨p, vs, rfl, h1, h2, f1⟩ := ra.tuple s
    exact ⟨p, vs, rfl, .inr ⟨h1, q _ _ _ (Gr.refl s) (.tup f1 h2)⟩⟩
  | _ => cases e
def rLst (K : PySem.W.Frag) : List V → Hp → VK → Prop := fun xs H Q => ∃ p ys, xs = [.ref p] ∧ (SqL K H p ys ∨ SqT K H p ys) ∧ ∀ l, H l = none → Q (.ref l) (upd H l (.lst ys))
theorem c_lst : CallR X (.type "list") (rLst X.K) := call_list_of
/-- a call that makes a list: fresh -/
def C1F (K : PySem.W.Frag) (r : List V → Hp → VK → Prop) (f : D → Option (List D)) : Prop := ∀ (F H : Hp) (x : V) (a : D) (c : List D) (Q : VK), Same F H → RpO K F H x a → f a = some c → (∀ F' H' p vs, Gr F H F' H' → H' p = none → RpA K F' vs c → Q (.ref p) (upd H' p (.lst vs))) → r [x] H Q
def unL (f : D → Option (List D)) (m : EM) : LM := fun ρ => (m ρ).bind fun x => R.ofO (f x)
theorem vf_ty1 {fl : D → Option (List D)} (hc : CallR X (.type T) r) (hs : C1F X.K r fl) (hg : Gl X x) (hm : X.mg x = none) (hv : bootBuiltins x = some (.type T)) (ha : VA1 X W e m) (hn : x ≠ "__name__" := by decide) (hdb : (x == ("__debug__" : Str)) = false := by decide) (hst : starEach [e] X.env = (false, eval e X.env) :: starEach [] X.env := by rfl) (hpl : (backTo pos (starEach [] X.env)).any (·.1) = false := by rfl) :
    VF X W (.Call (.Name x p) [e] [] pos) (unL fl m) := peW (pe_callTy hc hg hm hv ha hn hdb hst hpl) fun σ H Q ⟨H0, F0, F, ρ, re, q⟩ => by
  refine ⟨H0, F0, F, ρ, re, q.bind.imp fun x F1 H1 g1 k1 v r1 => ?_⟩
  obtain ⟨c, e, k3⟩ := k1.ofO
  exact hs F1 H1 v x c Q g1.fh r1 e fun F3 H3 z vs g3 hz rz => k3 F3 H3 g3 z vs hz rz
theorem vf_b1 {fl : D → Option (List D)} (hc : CallR X (.builtin id) r) (hs : C1F X.K r fl) (hg : Gl X x) (hm : X.mg x = none) (hv : bootBuiltins x = some (.builtin id)) (ha : VA1 X W e m) (hn : x ≠ "__name__" := by decide) (hdb : (x == ("__debug__" : Str)) = false := by decide) (hst : starEach [e] X.env = (false, eval e X.env) :: starEach [] X.env := by rfl) (hpl : (backTo pos (starEach [] X.env)).any (·.1) = false := by rfl) :
    VF X W (.Call (.Name x p) [e] [] pos) (unL fl m) := peW (pe_callB hc hg hm hv ha hn hdb hst hpl) fun σ H Q ⟨H0, F0, F, ρ, re, q⟩ => by
  refine ⟨H0, F0, F, ρ, re, q.bind.imp fun x F1 H1 g1 k1 v r1 => ?_⟩
  obtain ⟨c, e, k3⟩ := k1.ofO
  exact hs F1 H1 v x c Q g1.fh r1 e fun F3 H3 z vs g3 hz rz => k3 F3 H3 g3 z vs hz rz
def lstD : D → Option (List D)
  | .list ds => some ds
  | .tuple ds => some ds
  | _ => none
theorem s_lst {K : PySem.W.Frag} : C1F K (rLst K) lstD := by
  intro F H x a c Q s ra e q
  cases a with
  | list ds =>
    cases e
    obtain ⟨p, vs, rfl, h1, h2⟩ := ra.list s
    exact ⟨p, vs, rfl, .inl h1, fun l hl => q F H l vs (Gr.refl s) hl h2⟩
  | tuple ds =>
    cases e
    obtain ⟨p, vs, rfl, h1, h2, f1⟩ := ra.tuple s
    exact ⟨p, vs, rfl, .inr h1, fun l hl => q F H l vs (Gr.refl s) hl h2⟩
  | _ => cases e
end
end L2.VL

set_option Elab.async false
set_option linter.all false
set_option autoImplicit false
set_option maxRecDepth 100000
set_option maxHeartbeats 4000000
namespace L2.VL
open PySem PySem.Spec PyProof.Rows

inductive Out where
  | nx (ρ : Rho)
  | ret (d : D)
  | brk (ρ : Rho)
  | ct (ρ : Rho)
  | exc (e : Ex) (ρ : Rho)
  | bad
abbrev SM := Rho → Out
def R.out {α : Type} (r : R α) (ρ : Rho) (f : α → Out) : Out := match r with
  | .ok a => f a
  | .exc e => .exc e ρ
  | .bad => .bad
@[simp] theorem R.out_ok {α : Type} (a : α) (ρ : Rho) (f : α → Out) : (R.ok a).out ρ f = f a := rfl
@[simp] theorem R.out_exc {α : Type} (e : Ex) (ρ : Rho) (f : α → Out) : (R.exc e : R α).out ρ f = .exc e ρ := rfl
@[simp] theorem R.out_bad {α : Type} (ρ : Rho) (f : α → Out) : (R.bad : R α).out ρ f = .bad := rfl

/-- the heap's part of RE -/
structure HE (H0 F0 F H : Hp) : Prop where
  same : Same H0 H
  sub : Same F H
  ext : Same F0 F
  new : ∀ a o, F a = some o → F0 a = some o ∨ H0 a = none
section
variable {K : PySem.W.Frag} {mg : Str → Option Value} {W : WX} {H0 F0 F H F' H' : Hp} {ρ : Rho} {σ : St}
theorem RE.he (r : RE K H0 F0 F H ρ σ) : HE H0 F0 F H := ⟨r.same, r.sub, r.ext, r.new⟩
theorem HE.grow (r : HE H0 F0 F H) (g : Gr F H F' H') : HE H0 F0 F' H' := ⟨r.same.trans g.hh, g.fh, r.ext.trans g.ff, fun a o e => by
    rcases g.new a o e with h | h
    · exact r.new a o h
    · exact .inr (r.same.free h)⟩
def OkOut (K : PySem.W.Frag) (mg : Str → Option Value) (W : WX) (H0 F0 F : Hp) (D : Ends) : Out → Prop
  | .nx ρ' => ∀ F' H' σ', RE K H0 F0 F' H' ρ' σ' → Same F F' → D.nx σ' H'
  | .ret d => ∀ F' H' v, HE H0 F0 F' H' → Same F F' → Rp K F' v d → D.rt v H'
  | .brk ρ' => ∀ F' H' σ', RE K H0 F0 F' H' ρ' σ' → Same F F' → D.bk σ' H'
  | .ct ρ' => ∀ F' H' σ', RE K H0 F0 F' H' ρ' σ' → Same F F' → D.ct σ' H'
  | .exc e ρ' => ∀ F' H' σ' cls dx, RE K H0 F0 F' H' ρ' σ' → Same F F' → ExOk K mg F' H' e cls dx → W cls dx σ' H'
  | .bad => False
theorem OkOut.mono {D : Ends} {o : Out} (h : OkOut K mg W H0 F0 F D o) (s : Same F F') : OkOut K mg W H0 F0 F' D o := by
  cases o with
  | nx ρ' => exact fun F' H' σ' r s' => h F' H' σ' r (s.trans s')
  | ret d => exact fun F' H' v r s' => h F' H' v r (s.trans s')
  | brk ρ' => exact fun F' H' σ' r s' => h F' H' σ' r (s.trans s')
  | ct ρ' => exact fun F' H' σ' r s' => h F' H' σ' r (s.trans s')
  | exc e ρ' => exact fun F' H' σ' cls dx r s' => h F' H' σ' cls dx r (s.trans s')
  | bad => exact h
theorem OkOut.rk {α : Type} {D : Ends} {r : R α} {f : α → Out} (h : OkOut K mg W H0 F0 F D (r.out ρ f)) (re : RE K H0 F0 F H ρ σ) : Rk K mg W F H σ r fun a F' H' => OkOut K mg W H0 F0 F' D (f a) := by
  cases r with
  | ok a => exact fun F' H' g => OkOut.mono (o := f a) h g.ff
  | exc e => exact fun F' H' cls dx g x => h F' H' σ cls dx (re.grow g) g.ff x
  | bad => exact h
end
def tS (K : PySem.W.Frag) (mg : Str → Option Value) (W : WX) (m : SM) : TS := fun D σ H => ∃ H0 F0 F ρ, RE K H0 F0 F H ρ σ ∧ OkOut K mg W H0 F0 F D (m ρ)
abbrev VS (X : Cx) (W : WX) (st : Stmt) (m : SM) : Prop := PS X st (tS X.K X.mg W m)
abbrev VSs (X : Cx) (W : WX) (sts : List Stmt) (m : SM) : Prop := PSs X sts (tS X.K X.mg W m)

section
variable {X : Cx} {W : WX} {a b c e e2 : Expr} {es : List Expr} {st : Stmt} {sts : List Stmt} {me m m2 : EM} {s1 s2 : SM} {pos p p2 : Pos}
/-! ### blocks -/
def skipM : SM := fun ρ => .nx ρ
def seqM (s1 s2 : SM) : SM := fun ρ => match s1 ρ with
  | .nx ρ' => s2 ρ'
  | o => o
theorem vss_nil : VSs X W [] skipM := pssW pss_nil fun D σ H ⟨H0, F0, F, ρ, re, q⟩ => q F H σ re (Same.refl _)
theorem vss_one (h : VS X W st s1) : VSs X W [st] s1 := pss_one h
theorem vss_cons (h : VS X W st s1) (h2 : VSs X W sts s2) : VSs X W (st :: sts) (seqM s1 s2) := pssW (pss_cons h h2) fun D σ H ⟨H0, F0, F, ρ, re, q⟩ => by
  refine ⟨H0, F0, F, ρ, re, ?_⟩
  unfold seqM at q
  cases e : s1 ρ with
  | nx ρ' => rw [e] at q; exact fun F' H' σ' r s => ⟨H0, F0, F', ρ', r, OkOut.mono (o := s2 ρ') q s⟩
  | ret d => rw [e] at q; exact q
  | brk ρ' => rw [e] at q; exact q
  | ct ρ' => rw [e] at q; exact q
  | exc x ρ' => rw [e] at q; exact q
  | bad => rw [e] at q; exact q
/-- a ghost: a list of one's own is frozen ahead of a statement -/
def frzM (i : Nat) (s : SM) : SM := fun ρ => match ρ[i]? with
  | some (some (.ol ds)) => s (ρ.set i (some (.fz (.list ds))))
  | _ => s ρ
theorem t_frz {K : PySem.W.Frag} {mg : Str → Option Value} (i : Nat) : ∀ D σ H, tS K mg W (frzM i s1) D σ H → tS K mg W s1 D σ H := fun D σ H ⟨H0, F0, F, ρ, re, q⟩ => by
  unfold frzM at q
  split at q
  · rename_i ds e
    obtain ⟨F', s, r⟩ := re.freeze e
    exact ⟨H0, F0, F', _, r, q.mono s⟩
  · exact ⟨H0, F0, F, ρ, re, q⟩
theorem vs_frz (i : Nat) (h : VS X W st s1) : VS X W st (frzM i s1) := psW h (t_frz i)
theorem vss_frz (i : Nat) (h : VSs X W sts s1) : VSs X W sts (frzM i s1) := pssW h (t_frz i)

/-! ### small statements -/
theorem vs_pass : VS X W (.Pass pos) skipM := psW ps_pass fun D σ H ⟨H0, F0, F, ρ, re, q⟩ => q F H σ re (Same.refl _)
theorem vs_break : VS X W (.Break pos) (fun ρ => .brk ρ) := psW ps_break fun D σ H ⟨H0, F0, F, ρ, re, q⟩ => q F H σ re (Same.refl _)
theorem vs_continue : VS X W (.Continue pos) (fun ρ => .ct ρ) := psW ps_continue fun D σ H ⟨H0, F0, F, ρ, re, q⟩ => q F H σ re (Same.refl _)
def exprM (m : EM) : SM := fun ρ => (m ρ).out ρ fun _ => .nx ρ
theorem vs_expr (h : VE X W e m) (hs : swapsWith e none pos.line X.env = pure false := by rfl) : VS X W (.Expr e pos) (exprM m) := psW (ps_expr h hs) fun D σ H ⟨H0, F0, F, ρ, re, q⟩ => by
  exact ⟨H0, F0, F, ρ, re, (OkOut.rk q re).imp fun d F' H' g k v _ => k F' H' σ (re.grow g) (Same.refl _)⟩
def retM (m : EM) : SM := fun ρ => (m ρ).out ρ fun d => .ret d
theorem vs_ret (h : VE X W e m) : VS X W (.Return (some e) pos) (retM m) := psW (ps_ret h) fun D σ H ⟨H0, F0, F, ρ, re, q⟩ =>
  ⟨H0, F0, F, ρ, re, (OkOut.rk q re).imp fun d F' H' g k v r => k F' H' v (re.he.grow g) (Same.refl _) r⟩
theorem vs_retN : VS X W (.Return none pos) (fun _ => .ret .none) := psW ps_retN fun D σ H ⟨H0, F0, F, ρ, re, q⟩ => q F H .non re.he (Same.refl _) .non
def ifM (c : BM) (t u : SM) : SM := fun ρ => (c ρ).out ρ fun b => if b = true then t ρ else u ρ
theorem vs_if {bs cs : List Stmt} {mc : BM} (hc : VT X W c mc) (ht : VSs X W bs s1) (hu : VSs X W cs s2) : VS X W (.If c bs cs pos) (ifM mc s1 s2) := psW (ps_if hc ht hu) fun D σ H ⟨H0, F0, F, ρ, re, q⟩ => by
  refine ⟨H0, F0, F, ρ, re, (OkOut.rk q re).imp fun b F' H' g k => ?_⟩
  cases b with
  | true => exact ⟨H0, F0, F', ρ, re.grow g, k⟩
  | false => exact ⟨H0, F0, F', ρ, re.grow g, k⟩
def setM (i : Nat) (m : EM) : SM := fun ρ => (m ρ).out ρ fun d => .nx (ρ.set i (some (.fz d)))
theorem vs_set {i : Nat} {x : Str} {pos' : Pos} (hN : X.N.Nodup) (hi : X.N[i]? = some x) (hx : Loc X.env.scope x) (he : VE X W e m) (hs : swapsWith e (some (.Name x pos')) pos.line X.env = pure false := by rfl) (hf : X.fn x = true ∨ X.env.scope.names.lookup x = some .local := by first | exact .inl rfl | exact .inr rfl | assumption) :
    VS X W (.Assign [.Name x pos'] e pos) (setM i m) := psW (ps_set hN hi hx he hs hf) fun D σ H ⟨H0, F0, F, ρ, re, q⟩ =>
  ⟨H0, F0, F, ρ, re, (OkOut.rk q re).imp fun d F' H' g k v r => k F' H' _ ((re.grow g).setF r) (Same.refl _)⟩
def setLM (i : Nat) (m : LM) : SM := fun ρ => (m ρ).out ρ fun ds => .nx (ρ.set i (some (.ol ds)))
theorem vs_setL {i : Nat} {x : Str} {pos' : Pos} {ml : LM} (hN : X.N.Nodup) (hi : X.N[i]? = some x) (hx : Loc X.env.scope x) (he : VF X W e ml) (hs : swapsWith e (some (.Name x pos')) pos.line X.env = pure false := by rfl) (hf : X.fn x = true ∨ X.env.scope.names.lookup x = some .local := by first | exact .inl rfl | exact .inr rfl | assumption) :
    VS X W (.Assign [.Name x pos'] e pos) (setLM i ml) := psW (ps_set hN hi hx he hs hf) fun D σ H ⟨H0, F0, F, ρ, re, q⟩ => by
  refine ⟨H0, F0, F, ρ, re, (OkOut.rk q re).imp fun ds F' H' g k a vs hn r => ?_⟩
  have re' := re.grow g
  refine k F' _ _ (re'.setN hn ⟨a, vs, rfl, upd_same, r, re'.sub.free hn, re'.same.free hn⟩) (Same.refl _)
/-- x op= e, the name holding a scalar -/
def augM (i : Nat) (f : D → D → Option D) (m : EM) : SM := fun ρ => (mVar i ρ).out ρ fun x => (m ρ).out ρ fun y => (R.ofO (f x y)).out ρ fun d => .nx (ρ.set i (some (.fz d)))
def IpS (K : PySem.W.Frag) (r : TIp) (f : D → D → Option D) : Prop := ∀ (F H : Hp) (x y : V) (a b c : D) (Q : VK), Same F H → RpO K F H x a → RpO K F H y b → f a b = some c →
  (∀ F' H' v, Gr F H F' H' → Rp K F' v c → Q v H') → r x y H Q
theorem vs_aug {i : Nat} {x : Str} {op : Operator} {ti : TIp} {f : D → D → Option D} {pos' : Pos} (hN : X.N.Nodup) (hi : X.N[i]? = some x) (hx : Loc X.env.scope x) (he : VO X W e m) (ho : PIp X op ti) (hs : IpS X.K ti f) (hf : X.fn x = true ∨ X.env.scope.names.lookup x = some .local := by first | exact .inl rfl | exact .inr rfl | assumption) :
    VS X W (.AugAssign (.Name x pos') op e pos) (augM i f m) := psW (ps_aug hN hi hx he ho hf) fun D σ H ⟨H0, F0, F, ρ, re, q⟩ => by
  unfold augM at q
  cases e1 : mVar i ρ with
  | ok d =>
    rw [e1] at q
    unfold mVar at e1
    split at e1
    · rename_i d' e2
      cases e1
      obtain ⟨v, f1, f2⟩ := re.ok i _ e2
      have q := OkOut.rk (r := m ρ) q re
      refine ⟨v, f1, H0, F0, F, ρ, re, q.imp fun y F' H' g k w r => ?_⟩
      have re' := re.grow g
      have k := OkOut.rk (r := R.ofO (f d y)) k re'
      obtain ⟨c, e3, k⟩ := k.ofO
      exact hs F' H' v w d y c _ g.fh (RpO.grow (.inl f2) g) r e3 fun F'' H'' z g' rz => k F'' H'' g' F'' H'' _ ((re'.grow g').setF rz) (Same.refl _)
    · cases e1
  | exc x =>
    unfold mVar at e1
    split at e1 <;> cases e1
  | bad => rw [e1] at q; exact q.elim

/-! ### targets -/
abbrev GM := D → Rho → Option Rho
abbrev GLM := List D → Rho → Option Rho
def tG (K : PySem.W.Frag) (g : GM) : TG := fun v σ H Q => ∃ H0 F0 F ρ d ρ', RE K H0 F0 F H ρ σ ∧ Rp K F v d ∧ g d ρ = some ρ' ∧ ∀ σ', RE K H0 F0 F H ρ' σ' → Q σ' H
def tGs (K : PySem.W.Frag) (g : GLM) : TGs := fun vs σ H Q => ∃ H0 F0 F ρ ds ρ', RE K H0 F0 F H ρ σ ∧ RpA K F vs ds ∧ g ds ρ = some ρ' ∧ ∀ σ', RE K H0 F0 F H ρ' σ' → Q σ' H
abbrev VG (X : Cx) (tg : Expr) (g : GM) : Prop := PG X tg (tG X.K g)
abbrev VGs (X : Cx) (ts : List Expr) (g : GLM) : Prop := PGs X ts (tGs X.K g)
theorem pgW {tg : Expr} {t t' : TG} (h : PG X tg t) (w : ∀ v σ H Q, t' v σ H Q → t v σ H Q) : PG X tg t' := ⟨fun p s σ H v u Q I r q => h.run p s σ H v u Q I r (w _ _ _ _ q)⟩
theorem pgsW {ts : List Expr} {t t' : TGs} (h : PGs X ts t) (w : ∀ v σ H Q, t' v σ H Q → t v σ H Q) : PGs X ts t' := ⟨fun p s σ H v u Q I r q => h.run p s σ H v u Q I r (w _ _ _ _ q)⟩
theorem pg_or {tg : Expr} {t t' : TG} (h : PG X tg t) (h' : PG X tg t') : PG X tg (fun v σ H Q => t v σ H Q ∨ t' v σ H Q) := ⟨fun p s σ H v u Q I r q => by
  rcases q with q | q
  · exact h.run p s σ H v u Q I r q
  · exact h'.run p s σ H v u Q I r q⟩
def gN (i : Nat) : GM := fun d ρ => some (ρ.set i (some (.fz d)))
theorem vg_name {i : Nat} {x : Str} (hN : X.N.Nodup) (hi : X.N[i]? = some x) (hx : Loc X.env.scope x) (hf : X.fn x = true ∨ X.env.scope.names.lookup x = some .local := by first | exact .inl rfl | exact .inr rfl | assumption) : VG X (.Name x pos) (gN i) :=
  pgW (pg_name hN hi hx hf) fun v σ H Q ⟨H0, F0, F, ρ, d, ρ', re, r, e, k⟩ => by
    cases e
    exact k _ (re.setF r)
def gsN : GLM := fun ds ρ => match ds with
  | [] => some ρ
  | _ => none
def gsC (g : GM) (gs : GLM) : GLM := fun ds ρ => match ds with
  | d :: r => (g d ρ).bind fun ρ' => gs r ρ'
  | [] => none
theorem vgs_nil : VGs X [] gsN := pgsW pgs_nil fun vs σ H Q ⟨H0, F0, F, ρ, ds, ρ', re, r, e, k⟩ => by
  cases ds with
  | nil => cases r; cases e; exact ⟨rfl, k _ re⟩
  | cons d ds => cases e
theorem vgs_cons {tg : Expr} {ts : List Expr} {g : GM} {gs : GLM} (h : VG X tg g) (h2 : VGs X ts gs) (hs : (assignEach (tg :: ts) X.env).map (·.2) = assign tg X.env :: (assignEach ts X.env).map (·.2) := by rfl) : VGs X (tg :: ts) (gsC g gs) :=
  pgsW (pgs_cons h h2 hs) fun vs σ H Q ⟨H0, F0, F, ρ, ds, ρ', re, r, e, k⟩ => by
    cases ds with
    | nil => cases e
    | cons d ds =>
      cases r with
      | cons r1 r2 =>
        have e : (g d ρ).bind (fun ρ' => gs ds ρ') = some ρ' := e
        cases e1 : g d ρ with
        | none => rw [e1] at e; cases e
        | some ρ1 =>
          rw [e1] at e
          exact ⟨_, _, rfl, H0, F0, F, ρ, d, ρ1, re, r1, e1, fun σ' re' => ⟨H0, F0, F, ρ1, ds, ρ', re', r2, e, k⟩⟩
def gT (n : Nat) (gs : GLM) : GM := fun d ρ => match d with
  | .tuple ds => if ds.length = n then gs ds ρ else none
  | .list ds => if ds.length = n then gs ds ρ else none
  | _ => none
theorem vg_tup {k n : Nat} {gs : GLM} (hc : X.calm = true) (h : VGs X es gs) (hn : (assignEach es X.env).length = n := by rfl) (hst : (assignEach es X.env).findIdx? (·.1) = none := by rfl) : VG X (.Tuple es k pos) (gT n gs) :=
  pgW (pg_or (pg_tup hc h hn hst) (pg_unl hc h hn hst)) fun v σ H Q ⟨H0, F0, F, ρ, d, ρ', re, r, e, k⟩ => by
    cases d with
    | tuple ds =>
      have e : (if ds.length = n then gs ds ρ else none) = some ρ' := e
      by_cases hl : ds.length = n
      · rw [if_pos hl] at e
        cases r with
        | tup s ra => exact .inl ⟨_, _, rfl, VL.Same.sqT re.sub s, by rw [ra.length]; exact hl, H0, F0, F, ρ, ds, ρ', re, ra, e, k⟩
      · rw [if_neg hl] at e; cases e
    | list ds =>
      have e : (if ds.length = n then gs ds ρ else none) = some ρ' := e
      by_cases hl : ds.length = n
      · rw [if_pos hl] at e
        cases r with
        | lst s ra => exact .inr ⟨_, _, rfl, re.sub.seq s, by rw [ra.length]; exact hl, H0, F0, F, ρ, ds, ρ', re, ra, e, k⟩
      · rw [if_neg hl] at e; cases e
    | _ => cases e
/-- target = e -/
def asgM (g : GM) (m : EM) : SM := fun ρ => (m ρ).out ρ fun d => match g d ρ with
  | some ρ' => .nx ρ'
  | none => .bad
theorem vs_asg {tg : Expr} {g : GM} (hg : VG X tg g) (he : VE X W e m) (hs : swapsWithSole [tg] e pos.line X.env = pure false := by rfl) (hw : swappedStores [tg] e X.env = pure none := by rfl)
    (h1 : (assignEach [tg] X.env).map (·.2) = [assign tg X.env] := by rfl) : VS X W (.Assign [tg] e pos) (asgM g m) := psW (ps_asg he hg hs hw h1) fun D σ H ⟨H0, F0, F, ρ, re, q⟩ => by
  refine ⟨H0, F0, F, ρ, re, (OkOut.rk q re).imp fun d F' H' gr k v r => ?_⟩
  split at k
  · rename_i ρ' e1
    exact ⟨H0, F0, F', ρ, d, ρ', re.grow gr, r, e1, fun σ' re' => k F' H' σ' re' (Same.refl _)⟩
  · exact k.elim

/-! ### what is walked -/
structure Wk (K : PySem.W.Frag) (J : It) (F : Hp) (ds : List D) : Prop where
  go : ∀ F' H' (i : Nat), Same F F' → Same F' H' → i < ds.length → J.go i H'
  stop : ∀ F' H' (i : Nat), Same F F' → Same F' H' → ds.length ≤ i → J.stop i H'
  yld : ∀ F' H' (i : Nat) (d : D) x H'', Same F F' → Same F' H' → ds[i]? = some d → J.yld i H' x H'' → ∃ F'', Gr F' H' F'' H'' ∧ Rp K F'' x d
theorem Wk.list {K : PySem.W.Frag} {F : Hp} {a : Addr} {vs : List V} {ds : List D} (h : SqL K F a vs) (r : RpA K F vs ds) : Wk K (Itl K a) F ds where
  go := fun F' H' i s1 s2 hi => ⟨vs, vs[i]'(by rw [r.length]; exact hi), s2.seq (s1.seq h), by simp⟩
  stop := fun F' H' i s1 s2 hi => ⟨vs, s2.seq (s1.seq h), by rw [r.length]; exact hi⟩
  yld := fun F' H' i d x H'' s1 s2 hd ⟨e, y⟩ => by
    subst e
    obtain ⟨v, e1, e2⟩ := r.getD hd
    have := y vs (s2.seq (s1.seq h))
    rw [e1] at this; cases this
    exact ⟨F', Gr.refl s2, e2.mono s1⟩
theorem Wk.tuple {K : PySem.W.Frag} {F : Hp} {a : Addr} {vs : List V} {ds : List D} (h : SqT K F a vs) (r : RpA K F vs ds) : Wk K (Itt K a) F ds where
  go := fun F' H' i s1 s2 hi => ⟨vs, vs[i]'(by rw [r.length]; exact hi), VL.Same.sqT s2 (VL.Same.sqT s1 h), by simp⟩
  stop := fun F' H' i s1 s2 hi => ⟨vs, VL.Same.sqT s2 (VL.Same.sqT s1 h), by rw [r.length]; exact hi⟩
  yld := fun F' H' i d x H'' s1 s2 hd ⟨e, y⟩ => by
    subst e
    obtain ⟨v, e1, e2⟩ := r.getD hd
    have := y vs (VL.Same.sqT s2 (VL.Same.sqT s1 h))
    rw [e1] at this; cases this
    exact ⟨F', Gr.refl s2, e2.mono s1⟩
def rngL (lo : Int) (n : Nat) : List D := (List.range n).map fun i => .int (lo + (i : Nat))
theorem Wk.range {K : PySem.W.Frag} {F : Hp} {lo : Int} {n : Nat} : Wk K (Itr lo n) F (rngL lo n) where
  go := fun F' H' i s1 s2 hi => by
    unfold rngL at hi
    rw [List.length_map, List.length_range] at hi
    exact hi
  stop := fun F' H' i s1 s2 hi => by
    unfold rngL at hi
    rw [List.length_map, List.length_range] at hi
    exact hi
  yld := fun F' H' i d x H'' s1 s2 hd ⟨e, y⟩ => by
    subst e y
    unfold rngL at hd
    rw [List.getElem?_map] at hd
    cases q : (List.range n)[i]? with
    | none => rw [q] at hd; cases hd
    | some j =>
      rw [q] at hd; cases hd
      obtain ⟨h1, h2⟩ := List.getElem?_eq_some_iff.mp q
      rw [List.getElem_range] at h2
      subst h2
      exact ⟨F', Gr.refl s2, .int _⟩
def tI (K : PySem.W.Frag) (mg : Str → Option Value) (W : WX) (m : LM) : TI := fun σ H R => ∃ H0 F0 F ρ, RE K H0 F0 F H ρ σ ∧ Rk K mg W F H σ (m ρ) fun ds F' H' => ∀ J, Wk K J F' ds → R J H'
abbrev VI (X : Cx) (W : WX) (tg e : Expr) (m : LM) : Prop := PI X tg e (tI X.K X.mg W m)
theorem piW {tg : Expr} {t t' : TI} (h : PI X tg e t) (w : ∀ σ H R, t' σ H R → t σ H R) : PI X tg e t' := ⟨fun p s σ H R I q => h.run p s σ H R I (w _ _ _ q)⟩
/-- a list or a tuple, by what comes -/
theorem pi_or {tg l : Expr} {tl : TE} (hl : PE X l tl) : PI X tg l (fun σ H R => tl σ H fun x H1 => ∃ a, x = .ref a ∧ ((∃ xs, SqL X.K H1 a xs ∧ R (Itl X.K a) H1) ∨ ∃ xs, SqT X.K H1 a xs ∧ R (Itt X.K a) H1)) := by
  refine ⟨fun pins s σ H R I h => ?_⟩
  refine thn (hl.run pins s σ H _ I h) fun v s1 ⟨x, H1, I1, r1, q1⟩ => ?_
  obtain ⟨a, e, q⟩ := q1
  subst e
  cases r1
  have nw : s1.heap.objs.size = s1.heap.objs.size := rfl
  rcases q with ⟨xs, hq, q⟩ | ⟨xs, hq, q⟩
  · obtain ⟨its, rv, pl, hz⟩ := I1.list hq
    refine wpAny_pyIter_list pl.isList ⟨s1.heap.objs.size, [s1.heap.objs.size], _, _, H1, rfl, I1.kept (t' := s1.toks) fun b o e => Heap.get?_push_of_some _ e, turn_list a _, ⟨_, Heap.get?_push_size _ rfl, rfl, rfl⟩, fun b hb => ?_, q⟩
    obtain rfl : b = s1.heap.objs.size := by simpa using hb
    exact I1.fpOk (Nat.le_refl _) (I1.hok.fresh (Nat.le_refl _))
  · obtain ⟨its, rv, pl, hz⟩ := I1.tuple hq
    refine wpAny_pyIter_tuple (show s1.heap.IsTuple a its.toArray from pl) ⟨s1.heap.objs.size, [s1.heap.objs.size], _, _, H1, rfl, I1.kept (t' := s1.toks) fun b o e => Heap.get?_push_of_some _ e, turn_tuple a _, ⟨_, Heap.get?_push_size _ rfl, rfl, rfl⟩, fun b hb => ?_, q⟩
    obtain rfl : b = s1.heap.objs.size := by simpa using hb
    exact I1.fpOk (Nat.le_refl _) (I1.hok.fresh (Nat.le_refl _))
def seqI (m : EM) : LM := fun ρ => (m ρ).bind fun d => match d with
  | .list ds => .ok ds
  | .tuple ds => .ok ds
  | _ => .bad
theorem vi_seq {tg : Expr} (h : VE X W e m) : VI X W tg e (seqI m) := piW (pi_or h) fun σ H R ⟨H0, F0, F, ρ, re, q⟩ => by
  refine ⟨H0, F0, F, ρ, re, q.bind.imp fun d F' H' g k v r => ?_⟩
  cases d with
  | list ds =>
    cases r with
    | lst s ra => exact ⟨_, rfl, .inl ⟨_, g.fh.seq s, k.ok g.fh _ (.list s ra)⟩⟩
  | tuple ds =>
    cases r with
    | tup s ra => exact ⟨_, rfl, .inr ⟨_, VL.Same.sqT g.fh s, k.ok g.fh _ (.tuple s ra)⟩⟩
  | _ => exact k.elim
def rng1I (m : EM) : LM := fun ρ => (m ρ).bind fun d => match d with
  | .int j => if -4611686018427387904 ≤ j ∧ j < 4611686018427387904 then .ok (rngL 0 j.toNat) else .bad
  | _ => .bad
theorem vi_range1 {tg : Expr} {p pos : Pos} (hg : Gl X "range") (hm : X.mg "range" = none) (ha : VA1 X W a m) (hs : starEach [a] X.env = [(false, eval a X.env)] := by rfl) : VI X W tg (.Call (.Name "range" p) [a] [] pos) (rng1I m) :=
  piW (pi_range1 hg hm ha hs) fun σ H Rr ⟨H0, F0, F, ρ, re, q⟩ => by
    refine ⟨H0, F0, F, ρ, re, q.bind.imp fun d F' H' g k v r => ?_⟩
    cases d with
    | int j =>
      cases r.int
      by_cases hj : -4611686018427387904 ≤ j ∧ j < 4611686018427387904
      · have k : Rk X.K X.mg W F' H' σ (if -4611686018427387904 ≤ j ∧ j < 4611686018427387904 then R.ok (rngL 0 j.toNat) else R.bad) _ := k
        rw [if_pos hj] at k
        have e62 : (2 : Int) ^ 62 = 4611686018427387904 := by decide
        exact ⟨j, rfl, by omega, by omega, k.ok g.fh _ .range⟩
      · have k : Rk X.K X.mg W F' H' σ (if -4611686018427387904 ≤ j ∧ j < 4611686018427387904 then R.ok (rngL 0 j.toNat) else R.bad) _ := k
        rw [if_neg hj] at k
        exact k.elim
    | _ => exact k.elim
def in62 (j : Int) : Bool := decide (-4611686018427387904 ≤ j) && decide (j < 4611686018427387904)
def rng2I (m m2 : EM) : LM := fun ρ => (m ρ).bind fun d => (m2 ρ).bind fun d2 => match d, d2 with
  | .int i, .int j => if (in62 i && in62 j) = true then .ok (rngL i (j - i).toNat) else .bad
  | _, _ => .bad
theorem in62_ok {j : Int} (h : in62 j = true) : -(2 ^ 62) ≤ j ∧ j < 2 ^ 62 := by
  unfold in62 at h
  rw [Bool.and_eq_true] at h
  have h1 := of_decide_eq_true h.1
  have h2 := of_decide_eq_true h.2
  have e62 : (2 : Int) ^ 62 = 4611686018427387904 := by decide
  omega
theorem vi_range2 {tg : Expr} {p pos : Pos} (hg : Gl X "range") (hm : X.mg "range" = none) (ha : VA2 X W a b m m2) (hs : starEach [a, b] X.env = [(false, eval a X.env), (false, eval b X.env)] := by rfl) (hs2 : starEach [b] X.env = [(false, eval b X.env)] := by rfl) :
    VI X W tg (.Call (.Name "range" p) [a, b] [] pos) (rng2I m m2) := piW (pi_range2 hg hm ha hs hs2) fun σ H R ⟨H0, F0, F, ρ, re, q⟩ => by
  refine ⟨H0, F0, F, ρ, re, q.bind.imp fun d F1 H1 g1 k1 v r1 => ?_⟩
  refine ⟨H0, F0, F1, ρ, re.grow g1, k1.bind.imp fun d2 F2 H2 g2 k2 w r2 => ?_⟩
  have r1' := r1.grow g2
  split at k2
  · rename_i i j
    by_cases hj : (in62 i && in62 j) = true
    · rw [if_pos hj] at k2
      rw [Bool.and_eq_true] at hj
      have h1 := in62_ok hj.1
      have h2 := in62_ok hj.2
      exact ⟨i, j, by rw [r1'.int, r2.int], ⟨h1.1, h1.2, h2.1, h2.2⟩, k2.ok g2.fh _ .range⟩
    · rw [if_neg hj] at k2; exact k2.elim
  · exact k2.elim

/-! ### for, while -/
def forL (g : GM) (b : SM) : List D → Rho → Out
  | [], ρ => .nx ρ
  | d :: ds, ρ => match g d ρ with
    | some ρ1 => match b ρ1 with
      | .nx ρ' => forL g b ds ρ'
      | .ct ρ' => forL g b ds ρ'
      | .brk ρ' => .nx ρ'
      | o => o
    | none => .bad
def forM (mi : LM) (g : GM) (b : SM) : SM := fun ρ => (mi ρ).out ρ fun ds => forL g b ds ρ
theorem vs_for {tg iter : Expr} {body : List Stmt} {mi : LM} {g : GM} {mb : SM} (hp : PassesOwn (model X.prog X.w) X.A X.env X.xe) (hc : X.calm = true) (hi : VI X W tg iter mi) (hg : VG X tg g) (hb : VSs X W body mb)
    (hs : ∀ x, foldedSetIterable iter X.env x = pure x := by intro _; rfl) : VS X W (.For tg iter body [] pos) (forM mi g mb) := psW (ps_for hp hc hi hg hb hs) fun D σ H ⟨H0, F0, F, ρ, re, q⟩ => by
  refine ⟨H0, F0, F, ρ, re, (OkOut.rk q re).imp fun ds F1 H1 g1 k J wk => ?_⟩
  refine ⟨fun i m σ' H' => m = ds.length - i ∧ i ≤ ds.length ∧ ∃ F' ρ', RE X.K H0 F0 F' H' ρ' σ' ∧ Same F1 F' ∧ OkOut X.K X.mg W H0 F0 F' D (forL g mb (ds.drop i) ρ'), ⟨ds.length, by simp, Nat.zero_le _, F1, ρ, re.grow g1, Same.refl _, by rw [List.drop_zero]; exact k⟩, ?_⟩
  rintro i m σ' H' ⟨rfl, hi, F', ρ', re', s', k'⟩
  by_cases hlt : i < ds.length
  · refine .inr ⟨wk.go F' H' i s' re'.sub hlt, fun σ2 H2 => ∃ F2 ρ2, RE X.K H0 F0 F2 H2 ρ2 σ2 ∧ Same F1 F2 ∧ OkOut X.K X.mg W H0 F0 F2 D (forL g mb (ds.drop (i + 1)) ρ2), fun σ2 H2 ⟨F2, ρ2, a1, a2, a3⟩ => ⟨ds.length - (i + 1), by omega, rfl, hlt, F2, ρ2, a1, a2, a3⟩, fun x H'' y => ?_⟩
    obtain ⟨F'', gr, rx⟩ := wk.yld F' H' i ds[i] x H'' s' re'.sub (by simp [hlt]) y
    rw [List.drop_eq_getElem_cons hlt] at k'
    have k' : OkOut X.K X.mg W H0 F0 F' D (match g ds[i] ρ' with
      | some ρ1 => match mb ρ1 with
        | .nx ρ' => forL g mb (ds.drop (i + 1)) ρ'
        | .ct ρ' => forL g mb (ds.drop (i + 1)) ρ'
        | .brk ρ' => .nx ρ'
        | o => o
      | none => .bad) := k'
    cases eg : g ds[i] ρ' with
    | none => rw [eg] at k'; exact k'.elim
    | some ρ1 =>
      rw [eg] at k'
      dsimp only at k'
      have sF : Same F1 F'' := s'.trans gr.ff
      refine ⟨H0, F0, F'', ρ', ds[i], ρ1, re'.grow gr, rx, eg, fun σ3 re3 => ⟨H0, F0, F'', ρ1, re3, ?_⟩⟩
      have k' := k'.mono gr.ff
      cases eb : mb ρ1 with
      | nx ρ2 => rw [eb] at k'; exact fun F3 H3 σ4 re4 s4 => ⟨F3, ρ2, re4, sF.trans s4, OkOut.mono (o := forL g mb (ds.drop (i + 1)) ρ2) k' s4⟩
      | ct ρ2 => rw [eb] at k'; exact fun F3 H3 σ4 re4 s4 => ⟨F3, ρ2, re4, sF.trans s4, OkOut.mono (o := forL g mb (ds.drop (i + 1)) ρ2) k' s4⟩
      | brk ρ2 => rw [eb] at k'; exact k'
      | ret d => rw [eb] at k'; exact k'
      | exc x ρ2 => rw [eb] at k'; exact k'
      | bad => rw [eb] at k'; exact k'
  · have e : i = ds.length := by omega
    subst e
    refine .inl ⟨wk.stop F' H' _ s' re'.sub (Nat.le_refl _), ?_⟩
    rw [List.drop_length] at k'
    exact k' F' H' σ' re' (Same.refl _)
def whileL (c : BM) (b : SM) : Nat → Rho → Out
  | 0, _ => .bad
  | n + 1, ρ => (c ρ).out ρ fun t => if t = true then (match b ρ with
      | .nx ρ' => whileL c b n ρ'
      | .ct ρ' => whileL c b n ρ'
      | .brk ρ' => .nx ρ'
      | o => o) else .nx ρ
theorem vs_while {body : List Stmt} {mc : BM} {mb : SM} (fuel : Rho → Nat) (hp : PassesOwn (model X.prog X.w) X.A X.env X.xe) (hc : VT X W c mc) (hb : VSs X W body mb) : VS X W (.While c body [] pos) (fun ρ => whileL mc mb (fuel ρ) ρ) := psW (ps_while hp hc hb) fun D σ H ⟨H0, F0, F, ρ, re, q⟩ => by
  refine ⟨fun n σ' H' => ∃ F' ρ', RE X.K H0 F0 F' H' ρ' σ' ∧ OkOut X.K X.mg W H0 F0 F' D (whileL mc mb n ρ'), ⟨fuel ρ, F, ρ, re, q⟩, ?_⟩
  rintro n σ' H' ⟨F', ρ', re', k⟩
  cases n with
  | zero => exact k.elim
  | succ n =>
    have k : OkOut X.K X.mg W H0 F0 F' D ((mc ρ').out ρ' fun t => if t = true then (match mb ρ' with
      | .nx ρ' => whileL mc mb n ρ'
      | .ct ρ' => whileL mc mb n ρ'
      | .brk ρ' => .nx ρ'
      | o => o) else .nx ρ') := k
    refine ⟨H0, F0, F', ρ', re', (OkOut.rk k re').imp fun t F2 H2 g2 k2 => ?_⟩
    cases t with
    | true =>
      rw [if_pos rfl] at k2 ⊢
      refine ⟨fun σ3 H3 => ∃ F3 ρ3, RE X.K H0 F0 F3 H3 ρ3 σ3 ∧ OkOut X.K X.mg W H0 F0 F3 D (whileL mc mb n ρ3), fun σ3 H3 h => ⟨n, Nat.lt_succ_self n, h⟩, H0, F0, F2, ρ', re'.grow g2, ?_⟩
      cases eb : mb ρ' with
      | nx ρ2 => rw [eb] at k2; exact fun F3 H3 σ4 re4 s4 => ⟨F3, ρ2, re4, OkOut.mono (o := whileL mc mb n ρ2) k2 s4⟩
      | ct ρ2 => rw [eb] at k2; exact fun F3 H3 σ4 re4 s4 => ⟨F3, ρ2, re4, OkOut.mono (o := whileL mc mb n ρ2) k2 s4⟩
      | brk ρ2 => rw [eb] at k2; exact k2
      | ret d => rw [eb] at k2; exact k2
      | exc x ρ2 => rw [eb] at k2; exact k2
      | bad => rw [eb] at k2; exact k2
    | false =>
      rw [if_neg Bool.false_ne_true] at k2 ⊢
      exact k2 F2 H2 σ' (re'.grow g2) (Same.refl _)
end
end L2.VL

set_option Elab.async false
set_option linter.all false
set_option autoImplicit false
set_option maxRecDepth 100000
set_option maxHeartbeats 4000000
namespace L2.VL
open PySem PySem.Spec PyProof.Rows

/-! ### a list of one's own, changed -/
section
variable {X : Cx} {W : WX} {a b c e e2 : Expr} {es : List Expr} {st : Stmt} {sts : List Stmt} {m m2 : EM} {pos p p2 : Pos}
def olAt (i : Nat) (ρ : Rho) : R (List D) := match ρ[i]? with
  | some (some (.ol ds)) => .ok ds
  | _ => .bad
theorem olAt_ok {i : Nat} {ρ : Rho} {K : PySem.W.Frag} {mg : Str → Option Value} {H0 F0 F H : Hp} {σ : St} (re : RE K H0 F0 F H ρ σ) {α : Type} {f : List D → R α} {k : α → Hp → Hp → Prop} (h : Rk K mg W F H σ ((olAt i ρ).bind f) k) :
    ∃ a vs ds, ρ[i]? = some (some (.ol ds)) ∧ σ[i]? = some (some (V.ref a)) ∧ H a = some (.lst vs) ∧ RpA K F vs ds ∧ F a = none ∧ H0 a = none ∧ Rk K mg W F H σ (f ds) k := by
  unfold olAt at h
  split at h
  · rename_i ds e
    obtain ⟨v, q1, a, vs, rfl, q2, q3, q4, q5⟩ := re.ok i _ e
    exact ⟨a, vs, ds, e, q1, q2, q3, q4, q5, h⟩
  · exact h.elim
theorem olAt_out {i : Nat} {ρ : Rho} {K : PySem.W.Frag} {mg : Str → Option Value} {H0 F0 F H : Hp} {σ : St} (re : RE K H0 F0 F H ρ σ) {f : List D → Out} {D' : Ends} (h : OkOut K mg W H0 F0 F D' ((olAt i ρ).out ρ f)) :
    ∃ a vs ds, ρ[i]? = some (some (.ol ds)) ∧ σ[i]? = some (some (V.ref a)) ∧ H a = some (.lst vs) ∧ RpA K F vs ds ∧ F a = none ∧ H0 a = none ∧ OkOut K mg W H0 F0 F D' (f ds) := by
  unfold olAt at h
  split at h
  · rename_i ds e
    obtain ⟨v, q1, a, vs, rfl, q2, q3, q4, q5⟩ := re.ok i _ e
    exact ⟨a, vs, ds, e, q1, q2, q3, q4, q5, h⟩
  · exact h.elim
def appM (i : Nat) (m : EM) : SM := fun ρ => (olAt i ρ).out ρ fun ds => (m ρ).out ρ fun d => if ds.length < 16777216 then .nx (ρ.set i (some (.ol (ds ++ [d])))) else .bad
theorem vs_append {i : Nat} (h : PE X c (tBM X.K "list" rAppend (tVar i) (tCons (tE X.K X.mg W m) tNil))) (hs : swapsWith c none pos.line X.env = pure false := by rfl) : VS X W (.Expr c pos) (appM i m) :=
  psW (ps_expr h hs) fun Dn σ H ⟨H0, F0, F, ρ, re, q⟩ => by
    obtain ⟨l, vs, ds, e1, e2, e3, e4, e5, e6, q⟩ := olAt_out re q
    refine ⟨_, e2, .inl ⟨rfl, vs, .of e3⟩, H0, F0, F, ρ, re, (OkOut.rk q re).imp fun d F' H' g k v r => ?_⟩
    by_cases hl : ds.length < 16777216
    · rw [if_pos hl] at k
      refine ⟨l, vs, v, rfl, rfl, g.hh _ _ e3, by rw [e4.length, sizeLine_eq]; exact hl, ?_⟩
      have re' := re.grow g
      have hF : F' l = none := by
        cases z : F' l with
        | none => rfl
        | some o =>
          rcases g.new l o z with y | y
          · rw [e5] at y; cases y
          · rw [e3] at y; cases y
      exact k F' _ σ (re'.write e1 rfl e2 ⟨l, _, rfl, upd_same, (e4.mono g.ff).append (.cons r .nil), hF, e6⟩) (Same.refl _)
    · rw [if_neg hl] at k; exact k.elim
/-- x += e, the list of one's own; e a list -/
def augLM (i : Nat) (m : LM) : SM := fun ρ => (olAt i ρ).out ρ fun ds => (m ρ).out ρ fun es => if ds.length + es.length ≤ 16777216 then .nx (ρ.set i (some (.ol (ds ++ es)))) else .bad
theorem vs_augL {i : Nat} {x : Str} {ml : LM} {pos' : Pos} (hN : X.N.Nodup) (hi : X.N[i]? = some x) (hx : Loc X.env.scope x) (he : VF X W e ml) (hf : X.fn x = true ∨ X.env.scope.names.lookup x = some .local := by first | exact .inl rfl | exact .inr rfl | assumption) :
    VS X W (.AugAssign (.Name x pos') .Add e pos) (augLM i ml) := psW (ps_aug hN hi hx he (show PIp X .Add rExt2 from iop_ext) hf) fun Dn σ H ⟨H0, F0, F, ρ, re, q⟩ => by
  obtain ⟨l, vs, ds, e1, e2, e3, e4, e5, e6, q⟩ := olAt_out re q
  refine ⟨_, e2, H0, F0, F, ρ, re, (OkOut.rk q re).imp fun es F' H' g k b ws hb r => ?_⟩
  by_cases hl : ds.length + es.length ≤ 16777216
  · rw [if_pos hl] at k
    have hlb : l ≠ b := ne_of_none (g.hh _ _ e3) hb
    refine ⟨l, b, vs, ws, rfl, rfl, by rw [upd_ne hlb]; exact g.hh _ _ e3, upd_same, by rw [e4.length, r.length, sizeLine_eq]; exact hl, ?_⟩
    have re' := (re.grow g).grow (Gr.junk g.fh (.lst ws) hb)
    have hF : F' l = none := by
      cases z : F' l with
      | none => rfl
      | some o =>
        rcases g.new l o z with y | y
        · rw [e5] at y; cases y
        · rw [e3] at y; cases y
    have es2 : σ.set i (some (V.ref l)) = σ := by
      obtain ⟨h1, h2⟩ := List.getElem?_eq_some_iff.mp e2
      rw [← h2]
      exact List.set_getElem_self h1
    show Dn.nx (σ.set i (some (V.ref l))) _
    rw [es2]
    exact k F' _ σ (re'.write e1 rfl e2 ⟨l, _, rfl, upd_same, (e4.mono g.ff).append r, hF, e6⟩) (Same.refl _)
  · rw [if_neg hl] at k; exact k.elim

/-! ### comprehensions -/
def wipeR (ρ : Rho) : List Nat → Rho
  | [] => ρ
  | v :: vs => (wipeR ρ vs).set v none
theorem wipeR_length (ρ : Rho) : ∀ vs : List Nat, (wipeR ρ vs).length = ρ.length
  | [] => rfl
  | v :: vs => by unfold wipeR; rw [List.length_set, wipeR_length ρ vs]
theorem wipeR_some {ρ : Rho} {i : Nat} {s : Sl} : ∀ {vs : List Nat}, (wipeR ρ vs)[i]? = some (some s) → ρ[i]? = some (some s) ∧ i ∉ vs
  | [], h => ⟨h, by simp⟩
  | v :: vs, h => by
    unfold wipeR at h
    by_cases hi : v = i
    · subst hi
      by_cases hv : v < (wipeR ρ vs).length
      · rw [List.getElem?_set_self hv] at h; cases h
      · rw [List.getElem?_eq_none (by simpa using hv)] at h; cases h
    · rw [List.getElem?_set_ne hi] at h
      obtain ⟨h1, h2⟩ := wipeR_some h
      exact ⟨h1, by simp only [List.mem_cons, not_or]; exact ⟨fun e => hi e.symm, h2⟩⟩
theorem wipe_keep {σ : St} {i : Nat} : ∀ {vs : List Nat}, i ∉ vs → (wipe σ vs)[i]? = σ[i]?
  | [], _ => rfl
  | v :: vs, h => by
    unfold wipe
    rw [List.getElem?_set_ne (fun e => h (by simp [e]))]
    exact wipe_keep fun z => h (by simp [z])
theorem RE.wiped {K : PySem.W.Frag} {H0 F0 F H : Hp} {ρ : Rho} {σ : St} (r : RE K H0 F0 F H ρ σ) (vs : List Nat) : RE K H0 F0 F H (wipeR ρ vs) (wipe σ vs) :=
  r.weak (by rw [wipe_length, wipeR_length, r.len]) (fun i s e => (wipeR_some e).1) fun i s e => wipe_keep (wipeR_some e).2
/-- a state behind a target's stores: only these slots are changed -/
theorem wipe_eq {σ σ' : St} (vs : List Nat) (hl : σ'.length = σ.length) (h : ∀ j, j ∉ vs → σ'[j]? = σ[j]?) : wipe σ' vs = wipe σ vs := by
  apply List.ext_getElem?
  intro j
  by_cases hj : j ∈ vs
  · have none_of : ∀ (τ : St) (vs : List Nat), j ∈ vs → (wipe τ vs)[j]? = if j < τ.length then some none else none := by
      intro τ vs
      induction vs with
      | nil => intro h; cases h
      | cons v vs ih =>
        intro h
        unfold wipe
        by_cases hv : v = j
        · subst hv
          by_cases hl2 : v < τ.length
          · rw [List.getElem?_set_self (by rw [wipe_length]; exact hl2), if_pos hl2]
          · rw [List.getElem?_eq_none (by rw [List.length_set, wipe_length]; omega), if_neg hl2]
        · rw [List.getElem?_set_ne hv]
          exact ih (by rcases List.mem_cons.mp h with z | z; exact absurd z.symm hv; exact z)
    rw [none_of σ' vs hj, none_of σ vs hj, hl]
  · rw [wipe_keep hj, wipe_keep hj, h j hj]
/-- a target that stores these slots -/
def tGc (K : PySem.W.Frag) (is : List Nat) (g : GM) : TG := fun v σ H Q => ∃ H0 F0 F ρ d ρ', RE K H0 F0 F H ρ σ ∧ Rp K F v d ∧ g d ρ = some ρ' ∧ ∀ σ', RE K H0 F0 F H ρ' σ' → σ'.length = σ.length → (∀ j, j ∉ is → σ'[j]? = σ[j]?) → Q σ' H
def tGsc (K : PySem.W.Frag) (is : List Nat) (g : GLM) : TGs := fun vs σ H Q => ∃ H0 F0 F ρ ds ρ', RE K H0 F0 F H ρ σ ∧ RpA K F vs ds ∧ g ds ρ = some ρ' ∧ ∀ σ', RE K H0 F0 F H ρ' σ' → σ'.length = σ.length → (∀ j, j ∉ is → σ'[j]? = σ[j]?) → Q σ' H
abbrev VGc (X : Cx) (is : List Nat) (tg : Expr) (g : GM) : Prop := PG X tg (tGc X.K is g)
abbrev VGsc (X : Cx) (is : List Nat) (ts : List Expr) (g : GLM) : Prop := PGs X ts (tGsc X.K is g)
theorem vgc_name {i : Nat} {x : Str} (hN : X.N.Nodup) (hi : X.N[i]? = some x) (hx : Loc X.env.scope x) (hf : X.fn x = true ∨ X.env.scope.names.lookup x = some .local := by first | exact .inl rfl | exact .inr rfl | assumption) : VGc X [i] (.Name x pos) (gN i) :=
  pgW (pg_name hN hi hx hf) fun v σ H Q ⟨H0, F0, F, ρ, d, ρ', re, r, e, k⟩ => by
    cases e
    exact k _ (re.setF r) (List.length_set ..) fun j hj => List.getElem?_set_ne fun z => hj (by simp [z])
theorem vgsc_nil : VGsc X [] [] gsN := pgsW pgs_nil fun vs σ H Q ⟨H0, F0, F, ρ, ds, ρ', re, r, e, k⟩ => by
  cases ds with
  | nil => cases r; cases e; exact ⟨rfl, k _ re rfl fun _ _ => rfl⟩
  | cons d ds => cases e
theorem vgsc_cons {is js : List Nat} {tg : Expr} {ts : List Expr} {g : GM} {gs : GLM} (h : VGc X is tg g) (h2 : VGsc X js ts gs) (hs : (assignEach (tg :: ts) X.env).map (·.2) = assign tg X.env :: (assignEach ts X.env).map (·.2) := by rfl) : VGsc X (is ++ js) (tg :: ts) (gsC g gs) :=
  pgsW (pgs_cons h h2 hs) fun vs σ H Q ⟨H0, F0, F, ρ, ds, ρ', re, r, e, k⟩ => by
    cases ds with
    | nil => cases e
    | cons d ds =>
      cases r with
      | cons r1 r2 =>
        have e : (g d ρ).bind (fun ρ' => gs ds ρ') = some ρ' := e
        cases e1 : g d ρ with
        | none => rw [e1] at e; cases e
        | some ρ1 =>
          rw [e1] at e
          exact ⟨_, _, rfl, H0, F0, F, ρ, d, ρ1, re, r1, e1, fun σ' re' l1 k1 => ⟨H0, F0, F, ρ1, ds, ρ', re', r2, e, fun σ'' re'' l2 k2 => k σ'' re'' (l2.trans l1) fun j hj => (k2 j fun z => hj (List.mem_append_right _ z)).trans (k1 j fun z => hj (List.mem_append_left _ z))⟩⟩
theorem vgc_tup {is : List Nat} {k n : Nat} {gs : GLM} (hc : X.calm = true) (h : VGsc X is es gs) (hn : (assignEach es X.env).length = n := by rfl) (hst : (assignEach es X.env).findIdx? (·.1) = none := by rfl) : VGc X is (.Tuple es k pos) (gT n gs) :=
  pgW (pg_or (pg_tup hc h hn hst) (pg_unl hc h hn hst)) fun v σ H Q ⟨H0, F0, F, ρ, d, ρ', re, r, e, k⟩ => by
    cases d with
    | tuple ds =>
      have e : (if ds.length = n then gs ds ρ else none) = some ρ' := e
      by_cases hl : ds.length = n
      · rw [if_pos hl] at e
        cases r with
        | tup s ra => exact .inl ⟨_, _, rfl, VL.Same.sqT re.sub s, by rw [ra.length]; exact hl, H0, F0, F, ρ, ds, ρ', re, ra, e, k⟩
      · rw [if_neg hl] at e; cases e
    | list ds =>
      have e : (if ds.length = n then gs ds ρ else none) = some ρ' := e
      by_cases hl : ds.length = n
      · rw [if_pos hl] at e
        cases r with
        | lst s ra => exact .inr ⟨_, _, rfl, re.sub.seq s, by rw [ra.length]; exact hl, H0, F0, F, ρ, ds, ρ', re, ra, e, k⟩
      · rw [if_neg hl] at e; cases e
    | _ => cases e
/-- no exception within -/
abbrev W0 : WX := fun _ _ _ _ => False
abbrev VTs (X : Cx) (W : WX) (es : List Expr) (m : BM) : Prop := PTs X es (tTt X.K X.mg W m)
theorem ptsW {ifs : List Expr} {t t' : TT} (h : PTs X ifs t) (w : ∀ σ H Q, t' σ H Q → t σ H Q) : PTs X ifs t' := ⟨fun p s σ H Q I q => h.run p s σ H Q I (w _ _ _ q)⟩
def yesM : BM := fun _ => .ok true
theorem vts_nil : VTs X W [] yesM := ptsW pts_nil fun σ H Q ⟨H0, F0, F, ρ, re, q⟩ => q.ok re.sub
theorem vts_one {mc : BM} (h : VT X W c mc) : VTs X W [c] mc := pts_one h
def lcL (ρ : Rho) (g : GM) (mt : BM) (me : EM) : List D → R (List D)
  | [] => .ok []
  | d :: ds => match g d ρ with
    | none => .bad
    | some ρ1 => match mt ρ1 with
      | .ok true => match me ρ1 with
        | .ok x => (lcL ρ g mt me ds).bind fun xs => .ok (x :: xs)
        | _ => .bad
      | .ok false => lcL ρ g mt me ds
      | _ => .bad
def lcM (own : List Nat) (mi : LM) (g : GM) (mt : BM) (me : EM) : LM := fun ρ => (mi ρ).bind fun ds => if ds.length ≤ 16777216 then
  (match lcL (wipeR ρ own) g mt me ds with
    | .ok xs => .ok xs
    | _ => .bad) else .bad
theorem Gr.cut {F G F'' H'' : Hp} {p : Addr} {o : HO} (hp : G p = none) (s : Same F G) (g : Gr F (upd G p o) F'' H'') : ∃ G'', H'' = upd G'' p o ∧ G'' p = none ∧ Gr F G F'' G'' := by
  have h1 : H'' p = some o := g.hh _ _ upd_same
  have f2 : F'' p = none := by
    cases z : F'' p with
    | none => rfl
    | some u =>
      rcases g.new p u z with y | y
      · rw [s.free hp] at y; cases y
      · rw [upd_same] at y; cases y
  refine ⟨fun b => if b = p then none else H'' b, ?_, by simp, fun b x e => ?_, g.ff, fun b x e => ?_, fun b x e => ?_⟩
  · funext b
    unfold upd
    by_cases hb : b = p
    · subst hb; rw [if_pos rfl]; exact h1
    · rw [if_neg hb]
      show H'' b = if b = p then none else H'' b
      rw [if_neg hb]
  · have hb : b ≠ p := ne_of_none e hp
    show (if b = p then none else H'' b) = some x
    rw [if_neg hb]
    exact g.hh _ _ (by rw [upd_ne hb]; exact e)
  · have hb : b ≠ p := ne_of_none e f2
    show (if b = p then none else H'' b) = some x
    rw [if_neg hb]
    exact g.fh _ _ e
  · rcases g.new b x e with y | y
    · exact .inl y
    · by_cases hb : b = p
      · subst hb; rw [upd_same] at y; cases y
      · rw [upd_ne hb] at y; exact .inr y
theorem t_lc {K : PySem.W.Frag} {mg : Str → Option Value} {own is : List Nat} {mi : LM} {g : GM} {mt : BM} {me : EM} (hsub : ∀ i ∈ is, i ∈ own) :
    ∀ σ H Q, tF K mg W (lcM own mi g mt me) σ H Q → tLc (tI K mg W mi) (tGc K is g) (tTt K mg W0 mt) (tE K mg W0 me) own σ H Q := fun σ H Q ⟨H0, F0, F, ρ, re, q⟩ => by
  refine ⟨H0, F0, F, ρ, re, q.bind.imp fun ds F1 H1 g1 k J wk A hA => ?_⟩
  by_cases hz : ds.length ≤ 16777216
  · rw [if_pos hz] at k
    generalize hρ : wipeR ρ own = ρw at k
    have rew : ∀ {F' G : Hp}, Gr F1 H1 F' G → RE K H0 F0 F' G ρw (wipe σ own) := fun {F' G} gr => by
      rw [← hρ]
      exact ((re.grow g1).grow gr).wiped own
    have s1 : Same F1 H1 := g1.fh
    cases el : lcL ρw g mt me ds with
    | exc x => rw [el] at k; exact k.elim
    | bad => rw [el] at k; exact k.elim
    | ok xs =>
      rw [el] at k
      refine ⟨fun i n H' => n = ds.length - i ∧ i ≤ ds.length ∧ ∃ F' G acc ys rest, H' = upd G A (.lst acc) ∧ G A = none ∧ Gr F1 H1 F' G ∧ RpA K F' acc ys ∧ acc.length ≤ i ∧ lcL ρw g mt me (ds.drop i) = .ok rest ∧ ys ++ rest = xs,
        ⟨ds.length, by simp, Nat.zero_le _, F1, H1, [], [], xs, rfl, hA, Gr.refl s1, .nil, Nat.le_refl _, by rw [List.drop_zero]; exact el, rfl⟩, ?_⟩
      rintro i n H' ⟨rfl, hi, F', G, acc, ys, rest, rfl, gA, gr, ra, la, er, ex⟩
      have sG : Same F' (upd G A (.lst acc)) := gr.fh.trans (VL.Same.upd gA)
      by_cases hlt : i < ds.length
      · refine .inr ⟨wk.go F' _ i gr.ff sG hlt, fun H' => i + 1 ≤ ds.length ∧ ∃ F' G acc ys rest, H' = upd G A (.lst acc) ∧ G A = none ∧ Gr F1 H1 F' G ∧ RpA K F' acc ys ∧ acc.length ≤ i + 1 ∧ lcL ρw g mt me (ds.drop (i + 1)) = .ok rest ∧ ys ++ rest = xs,
          fun H' ⟨h1, h2⟩ => ⟨ds.length - (i + 1), by omega, rfl, h1, h2⟩, fun x H'' y => ?_⟩
        obtain ⟨F2, gr2, rx⟩ := wk.yld F' _ i ds[i] x H'' gr.ff sG (by simp [hlt]) y
        obtain ⟨G2, rfl, gA2, gg2⟩ := Gr.cut gA gr.fh gr2
        have gr12 := gr.trans gg2
        have s2 : Same F2 (upd G2 A (.lst acc)) := gg2.fh.trans (VL.Same.upd gA2)
        have rw2 : RE K H0 F0 F2 (upd G2 A (.lst acc)) ρw (wipe σ own) := (rew gr12).grow (Gr.junk gg2.fh _ gA2)
        rw [List.drop_eq_getElem_cons hlt] at er
        have er : (match g ds[i] ρw with
          | none => R.bad
          | some ρ1 => match mt ρ1 with
            | .ok true => match me ρ1 with
              | .ok x => (lcL ρw g mt me (ds.drop (i + 1))).bind fun xs => .ok (x :: xs)
              | _ => .bad
            | .ok false => lcL ρw g mt me (ds.drop (i + 1))
            | _ => .bad) = R.ok rest := er
        cases eg : g ds[i] ρw with
        | none => rw [eg] at er; cases er
        | some ρ1 =>
          rw [eg] at er
          dsimp only at er
          refine ⟨H0, F0, F2, ρw, ds[i], ρ1, rw2, rx, eg, fun σ3 re3 l3 k3 => ⟨?_, ?_⟩⟩
          · have e1 : wipe σ3 own = wipe (wipe σ own) own := wipe_eq own l3 fun j hj => k3 j fun z => hj (hsub j z)
            rw [e1]
            exact wipe_eq own (wipe_length ..) fun j hj => wipe_keep hj
          · refine ⟨H0, F0, F2, ρ1, re3, ?_⟩
            cases et : mt ρ1 with
            | exc x => rw [et] at er; cases er
            | bad => rw [et] at er; cases er
            | ok b =>
              rw [et] at er
              intro F4 H4 g4
              obtain ⟨G4, rfl, gA4, gg4⟩ := Gr.cut gA2 gg2.fh g4
              cases b with
              | false =>
                rw [if_neg Bool.false_ne_true]
                exact ⟨by omega, F4, G4, acc, ys, rest, rfl, gA4, gr12.trans gg4, ra.mono (gg2.ff.trans gg4.ff), by omega, er, ex⟩
              | true =>
                rw [if_pos rfl]
                dsimp only at er
                refine ⟨H0, F0, F4, ρ1, re3.grow g4, ?_⟩
                cases ee : me ρ1 with
                | exc x => rw [ee] at er; cases er
                | bad => rw [ee] at er; cases er
                | ok d =>
                  rw [ee] at er
                  dsimp only at er
                  intro F5 H5 g5 v rv
                  obtain ⟨G5, rfl, gA5, gg5⟩ := Gr.cut gA4 gg4.fh g5
                  refine ⟨acc, upd_same, by rw [sizeLine_eq]; omega, by omega, F5, G5, acc ++ [v], ys ++ [d], ?_⟩
                  cases e9 : lcL ρw g mt me (ds.drop (i + 1)) with
                  | exc x => rw [e9] at er; cases er
                  | bad => rw [e9] at er; cases er
                  | ok r2 =>
                    rw [e9] at er
                    have er : R.ok (d :: r2) = R.ok rest := er
                    cases er
                    exact ⟨r2, by rw [upd_upd], gA5, (gr12.trans gg4).trans gg5, (ra.mono ((gg2.ff.trans gg4.ff).trans gg5.ff)).append (.cons rv .nil), by rw [List.length_append]; show acc.length + 1 ≤ i + 1; omega, rfl, by rw [← ex, List.append_assoc]; rfl⟩
      · have e : i = ds.length := by omega
        subst e
        refine .inl ⟨wk.stop F' _ _ gr.ff sG (Nat.le_refl _), ?_⟩
        rw [List.drop_length] at er
        cases er
        rw [List.append_nil] at ex
        subst ex
        exact k F' G gr A acc gA ra
  · rw [if_neg hz] at k; exact k.elim
/-- [elt for tg in iter if ..] -/
theorem v_lc {elt tg iter : Expr} {ifs : List Expr} {scope : Scope} {own : List (Str × Nat)} {is : List Nat} {mi : LM} {g : GM} {mt : BM} {me : EM} (hc : X.calm = true) (hN : X.N.Nodup) (hi : VI X W tg iter mi) (ok : BlkOk X.N X.env.scope scope own) (hsub : ∀ i ∈ is, i ∈ own.map (·.2))
    (hg : ∀ (s : Shared) (H : Hp) (C : Addr) (cl : List (Str × Addr)) (fp : List Addr), VGc (X.blk s H scope (compEnvC scope cl C X.env) fp) is tg g)
    (ht : ∀ (s : Shared) (H : Hp) (C : Addr) (cl : List (Str × Addr)) (fp : List Addr), VTs (X.blk s H scope (compEnvC scope cl C X.env) fp) W0 ifs mt)
    (he : ∀ (s : Shared) (H : Hp) (C : Addr) (cl : List (Str × Addr)) (fp : List Addr), VE (X.blk s H scope (compEnvC scope cl C X.env) fp) W0 elt me) (hs : ∀ x, foldedSetIterable iter X.env x = pure x := by intro _; rfl) :
    VF X W (.ListComp elt [⟨tg, iter, ifs, 0⟩] scope pos) (lcM (own.map (·.2)) mi g mt me) := peW (pe_lc hc hN hi ok hg ht he hs) (t_lc hsub)
/-- y = [..] -/
theorem vs_setLc {i : Nat} {y : Str} {py spos : Pos} {elt tg iter : Expr} {ifs : List Expr} {scope : Scope} {own : List (Str × Nat)} {is : List Nat} {mi : LM} {g : GM} {mt : BM} {me : EM} (hc : X.calm = true) (hN : X.N.Nodup) (hy : X.N[i]? = some y) (hyl : X.env.scope.names.lookup y = some .local)
    (hsw : swapsWith (.ListComp elt [⟨tg, iter, ifs, 0⟩] scope pos) (some (.Name y py)) spos.line X.env = pure true) (hi : VI X W tg iter mi) (ok : BlkOk X.N X.env.scope scope own) (hsub : ∀ i ∈ is, i ∈ own.map (·.2))
    (hg : ∀ (s : Shared) (H : Hp) (C : Addr) (cl : List (Str × Addr)) (fp : List Addr), VGc (X.blk s H scope (compEnvC scope cl C X.env) fp) is tg g)
    (ht : ∀ (s : Shared) (H : Hp) (C : Addr) (cl : List (Str × Addr)) (fp : List Addr), VTs (X.blk s H scope (compEnvC scope cl C X.env) fp) W0 ifs mt)
    (he : ∀ (s : Shared) (H : Hp) (C : Addr) (cl : List (Str × Addr)) (fp : List Addr), VE (X.blk s H scope (compEnvC scope cl C X.env) fp) W0 elt me) (hs : ∀ x, foldedSetIterable iter X.env x = pure x := by intro _; rfl) :
    VS X W (.Assign [.Name y py] (.ListComp elt [⟨tg, iter, ifs, 0⟩] scope pos) spos) (setLM i (lcM (own.map (·.2)) mi g mt me)) := psW (ps_setLc hc hN hy hyl hsw hi ok hg ht he hs) fun Dn σ H ⟨H0, F0, F, ρ, re, q⟩ =>
  t_lc hsub σ H _ ⟨H0, F0, F, ρ, re, (OkOut.rk q re).imp fun ds F' H' g k a vs hn r => by
    have re' := re.grow g
    exact k F' _ _ (re'.setN hn ⟨a, vs, rfl, upd_same, r, re'.sub.free hn, re'.same.free hn⟩) (Same.refl _)⟩
end

/-! ### defs -/
def spP (K : PySem.W.Frag) (mg : Str → Option Value) (n : Nat) (m : List D → R D) : Sp := fun vs H Q E => vs.length = n ∧ ∃ F ds, Same F H ∧ RpA K F vs ds ∧ match m ds with
  | .ok d => ∀ F' H' v, Gr F H F' H' → Rp K F' v d → Q v H'
  | .exc e => ∀ F' H' cls dx, Gr F H F' H' → ExOk K mg F' H' e cls dx → E cls dx H'
  | .bad => False
def rho0 (n : Nat) (ds : List D) : Rho := ds.map (fun d => some (.fz d)) ++ List.replicate (n - ds.length) none
def runD (n : Nat) (m : SM) : List D → R D := fun ds => match m (rho0 n ds) with
  | .nx _ => .ok .none
  | .ret d => .ok d
  | .exc e _ => .exc e
  | _ => .bad
theorem RE.start {K : PySem.W.Frag} {F H : Hp} {N : List Str} {vs : List V} {ds : List D} (s : Same F H) (r : RpA K F vs ds) : RE K H F F H (rho0 N.length ds) (start N vs) := by
  unfold rho0 L2.start
  refine ⟨Same.refl _, s, Same.refl _, fun _ _ e => .inl e, ?_, fun i sl e => ?_, fun i j a b p e1 e2 => ?_⟩
  · rw [List.length_append, List.length_append, List.length_map, List.length_map, List.length_replicate, List.length_replicate, r.length]
  · by_cases hi : i < ds.length
    · rw [List.getElem?_append_left (by rw [List.length_map]; exact hi), List.getElem?_map] at e
      rw [List.getElem?_append_left (by rw [List.length_map, r.length]; exact hi), List.getElem?_map]
      cases q : ds[i]? with
      | none => rw [q] at e; cases e
      | some d =>
        rw [q] at e; cases e
        obtain ⟨v, q1, q2⟩ := r.getD q
        exact ⟨v, by rw [q1]; rfl, q2⟩
    · rw [List.getElem?_append_right (by rw [List.length_map]; omega), List.getElem?_replicate] at e
      split at e <;> cases e
  · exfalso
    by_cases hi : i < ds.length
    · rw [List.getElem?_append_left (by rw [List.length_map]; exact hi), List.getElem?_map] at e1
      cases q : ds[i]? with
      | none => rw [q] at e1; cases e1
      | some d => rw [q] at e1; cases e1; cases e2
    · rw [List.getElem?_append_right (by rw [List.length_map]; omega), List.getElem?_replicate] at e1
      split at e1 <;> cases e1
section
variable {P : Program} {w : World} {K : PySem.W.Frag} {mg : Str → Option Value} {base : Heap}
/-- THE RULE for a def -/
theorem def_ok {x qual : Str} {st : Stmt} {f : Addr} {fd : FuncData} {N ps : List Str} {k : Nat} {m : SM} (F : Fun K x qual st f fd) (S : FnScope N ps (defScope st))
    (hbody : ∀ (cdv : Value) (A : Around) (outer : List Env) (s : Shared) (H : Hp) (E : XK), Room k (A.deeper (envOfC qual (defScope st) s.heap.objs.size f cdv)) →
      VSs (cxOf (L2.CX P w) P w K mg base N qual (defScope st) f cdv A outer s H E) (fun cls d _ H => E cls d H) (defBody st) m) : FnOk P w K mg base (L2.CX P w) (k + 1) f fd ps (spP K mg ps.length (runD N.length m)) := by
  refine F.okX S (fun vs H Q E h => h.1) fun cdv A outer s H vs Q E hr h => ⟨_, hbody cdv A outer s H E hr, ?_⟩
  obtain ⟨hl, F, ds, sf, r, q⟩ := h
  refine ⟨H, F, F, rho0 N.length ds, RE.start sf r, ?_⟩
  unfold runD at q
  have gr : ∀ {F' H' : Hp}, HE H F F' H' → Gr F H F' H' := fun h => ⟨h.same, h.ext, h.sub, h.new⟩
  show OkOut K mg _ H F F _ (m (rho0 N.length ds))
  cases e : m (rho0 N.length ds) with
  | nx ρ' => rw [e] at q; exact fun F' H' σ' re _ => q F' H' .non (gr re.he) .non
  | ret d => rw [e] at q; exact fun F' H' v he _ rv => q F' H' v (gr he) rv
  | brk ρ' => rw [e] at q; exact q.elim
  | ct ρ' => rw [e] at q; exact q.elim
  | exc x ρ' => rw [e] at q; exact fun F' H' σ' cls dx re _ xo => q F' H' cls dx (gr re.he) xo
  | bad => rw [e] at q; exact q
/-- a promise by an equal function, at the arguments that are asked -/
theorem fn_imp {k : Nat} {f : Addr} {fd : FuncData} {ps : List Str} {n : Nat} {m m' : List D → R D} (G : FnOk P w K mg base (L2.CX P w) k f fd ps (spP K mg n m)) (h : ∀ ds, m' ds = .bad ∨ m' ds = m ds) : FnOk P w K mg base (L2.CX P w) k f fd ps (spP K mg n m') :=
  G.imp fun vs H Q E ⟨hl, F, ds, s, r, q⟩ => ⟨hl, F, ds, s, r, by
    rcases h ds with e | e
    · rw [e] at q; exact q.elim
    · rw [e] at q; exact q⟩
end
section
variable {X : Cx} {W : WX} {e : Expr} {es : List Expr} {pos p p2 : Pos}
def callM (n : Nat) (m : List D → R D) (ms : LM) : EM := fun ρ => (ms ρ).bind fun ds => if ds.length = n then m ds else .bad
theorem passAtV (tk : Takes X W) : ∀ σ, PassesAt (L2.CX X.prog X.w) X σ (fun cls d H => W cls d σ H) := fun σ => passAt tk σ
theorem v_call {k : Nat} {f : Addr} {fd : FuncData} {ps : List Str} {x : Str} {n : Nat} {m : List D → R D} {ms : LM} (G : FnOk X.prog X.w X.K X.mg X.base (L2.CX X.prog X.w) k f fd ps (spP X.K X.mg n m)) (tk : Takes X W) (hr : Room k X.A) (hg : Gl X x) (hm : X.mg x = some (.ref f)) (hk : PySem.W.keepIn X.K (.ref f) = true) (hb : Binds X.K fd ps [])
    (ha : VA X W (e :: es) ms) (hdb : (x == ("__debug__" : Str)) = false := by decide) (he : starEach (e :: es) X.env = (false, eval e X.env) :: starEach es X.env := by rfl) (hpl : (backTo pos (starEach es X.env)).any (·.1) = false := by rfl) :
    VE X W (.Call (.Name x p) (e :: es) [] pos) (callM n m ms) := peW (pe_callSD (E := fun σ cls d H => W cls d σ H) G hr hg hm hk hb .nil (passAtV tk) ha hdb he hpl) fun σ H Q ⟨H0, F0, F, ρ, re, q⟩ => by
  refine ⟨H0, F0, F, ρ, re, q.bind.imp fun ds F' H' g k vs r => ?_⟩
  by_cases hl : ds.length = n
  · rw [if_pos hl] at k
    refine ⟨by rw [List.append_nil, r.length]; exact hl, F', ds, g.fh, by rw [List.append_nil]; exact r, ?_⟩
    cases e1 : m ds with
    | ok d => rw [e1] at k; exact fun F2 H2 v g2 rv => k F2 H2 g2 v rv
    | exc x => rw [e1] at k; exact fun F2 H2 cls dx g2 xo => k F2 H2 cls dx g2 xo
    | bad => rw [e1] at k; exact k
  · rw [if_neg hl] at k; exact k.elim
theorem v_call0 {k : Nat} {f : Addr} {fd : FuncData} {ps : List Str} {x : Str} {m : List D → R D} (G : FnOk X.prog X.w X.K X.mg X.base (L2.CX X.prog X.w) k f fd ps (spP X.K X.mg 0 m)) (hm0 : ∀ e, m [] ≠ .exc e) (tk : Takes X W) (hr : Room k X.A) (hg : Gl X x) (hm : X.mg x = some (.ref f)) (hk : PySem.W.keepIn X.K (.ref f) = true) (hb : Binds X.K fd ps [])
    (hdb : (x == ("__debug__" : Str)) = false := by decide) : VE X W (.Call (.Name x p) [] [] pos) (fun _ => m []) := peW (pe_call0 (E := E0) G hr hg hm hk hb .nil passL hdb) fun σ H Q ⟨H0, F0, F, ρ, re, q⟩ => by
  refine ⟨rfl, F, [], re.sub, .nil, ?_⟩
  cases e1 : m [] with
  | ok d => rw [e1] at q; exact fun F2 H2 v g2 rv => q F2 H2 g2 v rv
  | exc x => exact absurd e1 (hm0 x)
  | bad => rw [e1] at q; exact q
/-- raise X('..') -/
theorem vs_raise {x m : Str} {C : Addr} {bmB : List Value} {B newId initId : String} {j : Nat} {p3 : Pos} (hc : X.calm = true) (tk : Takes X W) (F : ExcBaseFacts B newId initId bmB) (q : PySem.W.excIn X.K C bmB newId = true) (gC : X.mg x = some (.ref C)) (kC : PySem.W.keepIn X.K (.ref C) = true) (r : Raises X (.ref C)) (hg : Gl X x)
    (hdb : (x == ("__debug__" : Str)) = false := by decide) : VS X W (.Raise (some (.Call (.Name x p) [.Constant (.str m) j p2] [] pos)) none p3) (fun ρ => .exc ⟨x, []⟩ ρ) := psW (ps_raise hc tk (pmk_own F q gC kC r hg hdb)) fun D σ H ⟨H0, F0, F, ρ, re, q⟩ =>
  q F H σ (.ref C) none re (Same.refl _) ⟨⟨C, gC, rfl⟩, .inl ⟨rfl, rfl⟩⟩
end
end L2.VL

set_option Elab.async false
set_option linter.all false
set_option autoImplicit false
set_option maxRecDepth 100000
set_option maxHeartbeats 4000000
namespace L2.VL
open PySem PySem.Spec PyProof.Rows

/-! ### facts of a law's text -/
def Df (K : PySem.W.Frag) (mg : Str → Option Value) (x : Str) (st : Stmt) (ps : List Str) (f : Addr) (fd : FuncData) : Prop := Fun K x x st f fd ∧ mg x = some (.ref f) ∧ Binds K fd ps []
def Ok (P : Program) (w : World) (K : PySem.W.Frag) (mg : Str → Option Value) (base : Heap) (x : Str) (ps : List Str) (k : Nat) (m : List D → R D) : Prop :=
  ∃ f fd, FnOk P w K mg base (L2.CX P w) k f fd ps (spP K mg ps.length m) ∧ mg x = some (.ref f) ∧ PySem.W.keepIn K (.ref f) = true ∧ Binds K fd ps []
def ExcF (K : PySem.W.Frag) (mg : Str → Option Value) (x : Str) (C : Addr) : Prop :=
  PySem.W.excIn K C [.type "ValueError", .type "Exception", .type "BaseException", .type "object"] "ValueError.__new__" = true ∧ mg x = some (.ref C) ∧ PySem.W.keepIn K (.ref C) = true ∧
    PySem.W.subIn K (.ref C) (.type "BaseException") = some true ∧ PySem.W.typeIn K (.ref C) = some (.type "type")
theorem df_mk {K : PySem.W.Frag} {h : Heap} {mg : Str → Option Value} {x : Str} {st : Stmt} {ps : List Str} {f : Addr} {oc : Value} {od an : Option Addr} {osl : Array (Option Value)} {kV doc pm cdv ct : Value} (X : K.In h) (G : h.Ns mainGlobals mg)
    (a : PySem.W.nsIn K mainGlobals x = some (some (.ref f))) (l : K.lookup f = some ⟨oc, od, .func (PySem.W.fnOf x x (defArgs st) (defBody st) (defScope st) .none kV doc pm an cdv ct), osl⟩) (c : PySem.W.codeIn K cdv x = true) (k : PySem.W.keepIn K (.ref f) = true)
    (hb : ∀ (kV doc pm : Value) (an : Option Addr) (cdv ct : Value) (us : List Value), us.length = ps.length → bindArgs (PySem.W.fnOf x x (defArgs st) (defBody st) (defScope st) .none kV doc pm an cdv ct) ⟨us, []⟩ = pure (ps.zip us)) :
    ∃ f fd, Df K mg x st ps f fd := ⟨f, _, fun_mk (st := st) l c k, PySem.W.mg_of X G a, (fun_mk (st := st) l c k).binds hb⟩
theorem ex_mk {K : PySem.W.Frag} {h : Heap} {mg : Str → Option Value} {x : Str} {C : Addr} (X : K.In h) (G : h.Ns mainGlobals mg) (a : PySem.W.nsIn K mainGlobals x = some (some (.ref C)))
    (e : PySem.W.excIn K C [.type "ValueError", .type "Exception", .type "BaseException", .type "object"] "ValueError.__new__" = true) (k : PySem.W.keepIn K (.ref C) = true) (s : PySem.W.subIn K (.ref C) (.type "BaseException") = some true) (t : PySem.W.typeIn K (.ref C) = some (.type "type")) :
    ∃ C, ExcF K mg x C := ⟨C, e, PySem.W.mg_of X G a, k, s, t⟩
theorem gc_int {K : PySem.W.Frag} {h : Heap} {mg : Str → Option Value} {x : Str} {i : Int} {t : Tok} (X : K.In h) (G : h.Ns mainGlobals mg) (a : PySem.W.nsIn K mainGlobals x = some (some (.int i t))) : ∃ u v, mg x = some u ∧ RelV v u ∧ ∀ F, Rp K F v (.int i) :=
  ⟨_, .int i, PySem.W.mg_of X G a, ⟨t, rfl⟩, fun _ => .int i⟩
theorem gc_str {K : PySem.W.Frag} {h : Heap} {mg : Str → Option Value} {x : Str} {i : Str} {t : Tok} (X : K.In h) (G : h.Ns mainGlobals mg) (a : PySem.W.nsIn K mainGlobals x = some (some (.str i t))) : ∃ u v, mg x = some u ∧ RelV v u ∧ ∀ F, Rp K F v (.str i) :=
  ⟨_, .str i, PySem.W.mg_of X G a, ⟨t, rfl⟩, fun _ => .str i⟩

section
variable {X : Cx} {W : WX} {a b c e e2 : Expr} {es : List Expr} {st : Stmt} {sts : List Stmt} {m m2 : EM} {pos p p2 : Pos}
def toEM (ml : LM) : EM := fun ρ => (ml ρ).bind fun ds => .ok (.list ds)
/-! ### op= -/
def iop_mulV : OpR X (inplaceOp .Mult) (rI (fun i j => mulOk i j = true) fun i j => .int (i * j)) := opI fun _ _ _ _ _ _ _ hc q => imul_int q (mulOk_ok hc)
theorem ip_mulV : PIp X .Mult (rI (fun i j => mulOk i j = true) fun i j => .int (i * j)) := iop_mulV
theorem ip_fdivV : PIp X .FloorDiv (rI (fun _ j => divOk j = true) fun i j => .int (i / j)) :=
  show OpR X (inplaceOp .FloorDiv) _ from opI fun i j _ _ _ _ _ hc q => by
    have h1 : (0 : Int) < j := (divOk_ok hc).1
    exact ifloordiv_int (by omega) (by rw [Int.fdiv_eq_ediv_of_nonneg i (by omega)]; exact q) (.inl (PyProof.noPylong_of_log2 (divOk_ok hc).2))
theorem ip_modV : PIp X .Mod (rI (fun _ j => 0 < j) fun i j => .int (i % j)) := show OpR X (inplaceOp .Mod) _ from iop_mod
theorem is_of {K : PySem.W.Frag} {r : R2} {f : D → D → Option D} (h : OpS K r f) : IpS K r f := h
theorem is_add {K : PySem.W.Frag} : IpS K (ipI fun i j => i + j) addI := s_addI
theorem is_sub {K : PySem.W.Frag} : IpS K (ipI fun i j => i - j) subD := s_sub
theorem is_mul {K : PySem.W.Frag} : IpS K (rI (fun i j => mulOk i j = true) fun i j => .int (i * j)) mulI := s_mulI
theorem is_fdiv {K : PySem.W.Frag} : IpS K (rI (fun _ j => divOk j = true) fun i j => .int (i / j)) fdivD := s_fdiv
theorem is_mod {K : PySem.W.Frag} : IpS K (rI (fun _ j => 0 < j) fun i j => .int (i % j)) modD := s_mod

/-! ### x, y = e, f -/
def parM (i j : Nat) (ms : LM) : SM := fun ρ => (ms ρ).out ρ fun ds => match ds with
  | [d, e] => .nx ((ρ.set i (some (.fz d))).set j (some (.fz e)))
  | _ => .bad
theorem vs_par {i j : Nat} {x y : Str} {ms : LM} {px py pt : Pos} {kt k2 pt2} (hc : X.calm = true) (hN : X.N.Nodup) (hi : X.N[i]? = some x) (hj : X.N[j]? = some y) (hij : i ≠ j)
    (hx : X.env.scope.names.lookup x = some .local) (hy : X.env.scope.names.lookup y = some .local) (ha : VA X W [a, b] ms)
    (hw : swappedStores [.Tuple [.Name x px, .Name y py] kt pt] (.Tuple [a, b] k2 pt2) X.env = pure (some [x, y]))
    (hs : swapsWithSole [.Tuple [.Name x px, .Name y py] kt pt] (.Tuple [a, b] k2 pt2) pos.line X.env = pure false := by rfl) :
    VS X W (.Assign [.Tuple [.Name x px, .Name y py] kt pt] (.Tuple [a, b] k2 pt2) pos) (parM i j ms) := psW (ps_par hc hN hi hj hij hx hy ha hw hs) fun D σ H ⟨H0, F0, F, ρ, re, q⟩ => by
  refine ⟨H0, F0, F, ρ, re, (OkOut.rk q re).imp fun ds F' H' g k vs r => ?_⟩
  split at k
  · rename_i d e
    cases r with
    | cons r1 r2 =>
      cases r2 with
      | cons r2 r3 =>
        cases r3
        exact ⟨_, _, rfl, k F' H' _ (((re.grow g).setF r1).setF r2) (Same.refl _)⟩
  · exact k.elim
/-- y = [..], to be read alone -/
theorem vs_setLcE {i : Nat} {y : Str} {py spos : Pos} {elt tg iter : Expr} {ifs : List Expr} {scope : Scope} {own : List (Str × Nat)} {is : List Nat} {mi : LM} {g : GM} {mt : BM} {me : EM} (hc : X.calm = true) (hN : X.N.Nodup) (hy : X.N[i]? = some y) (hyl : X.env.scope.names.lookup y = some .local)
    (hsw : swapsWith (.ListComp elt [⟨tg, iter, ifs, 0⟩] scope pos) (some (.Name y py)) spos.line X.env = pure true) (hi : VI X W tg iter mi) (ok : BlkOk X.N X.env.scope scope own) (hsub : ∀ i ∈ is, i ∈ own.map (·.2))
    (hg : ∀ (s : Shared) (H : Hp) (C : Addr) (cl : List (Str × Addr)) (fp : List Addr), VGc (X.blk s H scope (compEnvC scope cl C X.env) fp) is tg g)
    (ht : ∀ (s : Shared) (H : Hp) (C : Addr) (cl : List (Str × Addr)) (fp : List Addr), VTs (X.blk s H scope (compEnvC scope cl C X.env) fp) W0 ifs mt)
    (he : ∀ (s : Shared) (H : Hp) (C : Addr) (cl : List (Str × Addr)) (fp : List Addr), VE (X.blk s H scope (compEnvC scope cl C X.env) fp) W0 elt me) (hs : ∀ x, foldedSetIterable iter X.env x = pure x := by intro _; rfl) :
    VS X W (.Assign [.Name y py] (.ListComp elt [⟨tg, iter, ifs, 0⟩] scope pos) spos) (setM i (toEM (lcM (own.map (·.2)) mi g mt me))) := psW (ps_setLc hc hN hy hyl hsw hi ok hg ht he hs) fun Dn σ H ⟨H0, F0, F, ρ, re, q⟩ =>
  t_lc hsub σ H _ ⟨H0, F0, F, ρ, re, (Rk.bind (OkOut.rk q re)).imp fun ds F' H' g k a vs hn r => by
    have g2 : Gr F' H' (upd F' a (.lst vs)) (upd H' a (.lst vs)) := Gr.alloc g.fh _ hn
    exact k _ _ g2 _ _ _ (((re.grow g).grow g2).setF (.lst (.of upd_same) (r.mono g2.ff))) (Same.refl _)⟩

/-! ### isinstance with built-in classes -/
def tyName : D → String
  | .none => "NoneType"
  | .bool _ => "bool"
  | .int _ => "int"
  | .str _ => "str"
  | .list _ => "list"
  | .tuple _ => "tuple"
  | .dict _ => "dict"
theorem Rp.tyX {K : PySem.W.Frag} {F H : Hp} (s : Same F H) {v : V} {d : D} (h : Rp K F v d) : TyX K H v (.type (tyName d)) := by
  cases h with
  | non => exact .base .non
  | bl b => exact .base (.bl b)
  | int i => exact .base (.int i)
  | str x => exact .base (.str x)
  | lst h1 _ =>
    rcases s.seq h1 with (h | ⟨o, h⟩) | ⟨o, its, n, h, c, _⟩
    · exact .base (.lst h)
    · exact .base (.frz h)
    · exact .kList h c
  | tup h1 _ =>
    rcases VL.Same.sqT s h1 with (h | ⟨o, h⟩) | ⟨o, its, n, h, c, _⟩
    · exact .base (.tup h)
    · exact .fTuple h
    · exact .kTuple h c
  | dct h1 _ _ => exact .base (.dK (s _ _ h1))
end
end L2.VL

set_option Elab.async false
set_option linter.all false
set_option autoImplicit false
set_option maxRecDepth 100000
set_option maxHeartbeats 4000000
namespace L2.VL
open PySem PySem.Spec PyProof.Rows

theorem bt_int : bootBuiltins "int" = some (.type "int") := by decide +kernel
theorem bt_bool : bootBuiltins "bool" = some (.type "bool") := by decide +kernel
theorem bt_str : bootBuiltins "str" = some (.type "str") := by decide +kernel
theorem bt_list : bootBuiltins "list" = some (.type "list") := by decide +kernel
theorem bt_dict : bootBuiltins "dict" = some (.type "dict") := by decide +kernel
theorem bt_tuple : bootBuiltins "tuple" = some (.type "tuple") := by decide +kernel
theorem bt_set : bootBuiltins "set" = some (.type "set") := by decide +kernel
theorem bt_zip : bootBuiltins "zip" = some (.type "zip") := by decide +kernel
theorem bt_enumerate : bootBuiltins "enumerate" = some (.type "enumerate") := by decide +kernel
theorem bt_range : bootBuiltins "range" = some (.type "range") := by decide +kernel
theorem bt_isinstance : bootBuiltins "isinstance" = some (.builtin "isinstance") := by decide +kernel
theorem bt_max : bootBuiltins "max" = some (.builtin "max") := by decide +kernel
theorem bt_min : bootBuiltins "min" = some (.builtin "min") := by decide +kernel
theorem bt_sum : bootBuiltins "sum" = some (.builtin "sum") := by decide +kernel
theorem bt_divmod : bootBuiltins "divmod" = some (.builtin "divmod") := by decide +kernel
theorem bt_sorted : bootBuiltins "sorted" = some (.builtin "sorted") := by decide +kernel
theorem bt_all : bootBuiltins "all" = some (.builtin "all") := by decide +kernel
theorem bt_any : bootBuiltins "any" = some (.builtin "any") := by decide +kernel
theorem bt_abs : bootBuiltins "abs" = some (.builtin "abs") := by decide +kernel
theorem bt_len : bootBuiltins "len" = some (.builtin "len") := by decide +kernel
inductive Tc where
  | tInt | tBool | tStr | tList | tTuple
def Tc.name : Tc → String
  | .tInt => "int"
  | .tBool => "bool"
  | .tStr => "str"
  | .tList => "list"
  | .tTuple => "tuple"
def isTy : Tc → D → Bool
  | .tInt, .int _ => true
  | .tInt, .bool _ => true
  | .tBool, .bool _ => true
  | .tStr, .str _ => true
  | .tList, .list _ => true
  | .tTuple, .tuple _ => true
  | _, _ => false
theorem kb_all : ∀ (t : Tc), kitB "NoneType" t.name = some (isTy t .none) ∧ kitB "bool" t.name = some (isTy t (.bool true)) ∧ kitB "int" t.name = some (isTy t (.int 0)) ∧ kitB "str" t.name = some (isTy t (.str Str.empty)) ∧
    kitB "list" t.name = some (isTy t (.list [])) ∧ kitB "tuple" t.name = some (isTy t (.tuple [])) ∧ kitB "dict" t.name = some (isTy t (.dict []))
  | .tInt => by decide +kernel
  | .tBool => by decide +kernel
  | .tStr => by decide +kernel
  | .tList => by decide +kernel
  | .tTuple => by decide +kernel
theorem kb_of (K : PySem.W.Frag) (t : Tc) (d : D) : PySem.W.kitOne K (.type (tyName d)) (.type t.name) = some (isTy t d) := by
  obtain ⟨h1, h2, h3, h4, h5, h6, h7⟩ := kb_all t
  refine kit_ty ?_
  cases d with
  | none => exact h1
  | bool b => cases t <;> exact h2
  | int i => cases t <;> exact h3
  | str x => cases t <;> exact h4
  | list xs => cases t <;> exact h5
  | tuple xs => cases t <;> exact h6
  | dict xs => cases t <;> exact h7
section
variable {X : Cx} {W : WX} {a b c e e2 : Expr} {es : List Expr} {st : Stmt} {sts : List Stmt} {m m2 : EM} {pos p p2 p3 p4 : Pos}
theorem RpO.tyX {K : PySem.W.Frag} {F H : Hp} (s : Same F H) {v : V} {d : D} (h : RpO K F H v d) : TyX K H v (.type (tyName d)) := by
  rcases h with h | h
  · exact h.tyX s
  · cases h with
    | lst h1 h2 => exact .base (.lst h1)
    | dK h1 h2 => exact .base (.dK h1)
    | dT h1 h2 => exact .base (.dT h1)
def isi1D (t : Tc) (d : D) : Option D := some (.bool (isTy t d))
def isi2D (t u : Tc) (d : D) : Option D := some (.bool (isTy t d || isTy u d))
theorem v_isi1 {x : Str} (t : Tc) (hg : Gl X "isinstance") (hm : X.mg "isinstance" = none) (hg2 : Gl X x) (hm2 : X.mg x = none) (hv : bootBuiltins x = some (.type t.name)) (he : VO X W e m) (hn : x ≠ "__name__" := by decide) (hdb : (x == ("__debug__" : Str)) = false := by decide)
    (hst : starEach [e, .Name x p2] X.env = (false, eval e X.env) :: starEach [.Name x p2] X.env := by rfl) (hst2 : starEach [.Name x p2] X.env = (false, eval (.Name x p2) X.env) :: starEach [] X.env := by rfl) (hpl : (backTo pos (starEach [.Name x p2] X.env)).any (·.1) = false := by rfl) :
    VE X W (.Call (.Name "isinstance" p) [e, .Name x p2] [] pos) (un (isi1D t) m) :=
  peW (pe_callB call_isi hg hm bt_isinstance (pa_cons he (pa_cons (pe_bltn (v := .ty t.name) hg2 hm2 hv rfl hn hdb) pa_nil hst2) hst) (by decide) (by decide) hst hpl) fun σ H Q ⟨H0, F0, F, ρ, re, q⟩ => by
    refine ⟨H0, F0, F, ρ, re, q.bind.imp fun d F1 H1 g1 k1 v r1 => ?_⟩
    obtain ⟨c, e, k3⟩ := k1.ofO
    cases e
    exact ⟨v, .ty t.name, _, _, isTy t d, rfl, .ty _, r1.tyX g1.fh, kb_of _ t d, k3 _ _ (Gr.refl g1.fh) _ (.bl _)⟩
theorem v_isi2 {x y : Str} {kk : Nat} (t u : Tc) (hg : Gl X "isinstance") (hm : X.mg "isinstance" = none) (hg2 : Gl X x) (hm2 : X.mg x = none) (hv : bootBuiltins x = some (.type t.name)) (hg3 : Gl X y) (hm3 : X.mg y = none) (hv3 : bootBuiltins y = some (.type u.name)) (he : VO X W e m)
    (hn : x ≠ "__name__" := by decide) (hdb : (x == ("__debug__" : Str)) = false := by decide) (hn3 : y ≠ "__name__" := by decide) (hdb3 : (y == ("__debug__" : Str)) = false := by decide)
    (hst : starEach [e, .Tuple [.Name x p2, .Name y p3] kk p4] X.env = (false, eval e X.env) :: starEach [.Tuple [.Name x p2, .Name y p3] kk p4] X.env := by rfl)
    (hst2 : starEach [.Tuple [.Name x p2, .Name y p3] kk p4] X.env = (false, eval (.Tuple [.Name x p2, .Name y p3] kk p4) X.env) :: starEach [] X.env := by rfl)
    (hst3 : starEach [.Name x p2, .Name y p3] X.env = (false, eval (.Name x p2) X.env) :: starEach [.Name y p3] X.env := by rfl) (hst4 : starEach [.Name y p3] X.env = (false, eval (.Name y p3) X.env) :: starEach [] X.env := by rfl)
    (hpl : (backTo pos (starEach [.Tuple [.Name x p2, .Name y p3] kk p4] X.env)).any (·.1) = false := by rfl) :
    VE X W (.Call (.Name "isinstance" p) [e, .Tuple [.Name x p2, .Name y p3] kk p4] [] pos) (un (isi2D t u) m) :=
  peW (pe_callB call_isiT hg hm bt_isinstance (pa_cons he (pa_cons (L2.pe_tup (pa_cons (pe_bltn (v := .ty t.name) hg2 hm2 hv rfl hn hdb) (pa_cons (pe_bltn (v := .ty u.name) hg3 hm3 hv3 rfl hn3 hdb3) pa_nil hst4) hst3)) pa_nil hst2) hst) (by decide) (by decide) hst hpl) fun σ H Q ⟨H0, F0, F, ρ, re, q⟩ => by
    refine ⟨H0, F0, F, ρ, re, q.bind.imp fun d F1 H1 g1 k1 v r1 => ?_⟩
    obtain ⟨c, e, k3⟩ := k1.ofO
    cases e
    refine ⟨by show 2 ≤ sizeLine; decide, fun tp htp => ?_⟩
    have g2 := Gr.junk g1.fh (.tup [.ty t.name, .ty u.name]) htp
    refine ⟨v, tp, [.ty t.name, .ty u.name], _, [.type t.name, .type u.name], isTy t d || isTy u d, rfl, upd_same, .cons (.ty _) (.cons (.ty _) .nil), (r1.grow g2).tyX g2.fh, ?_, k3 _ _ g2 _ (.bl _)⟩
    refine kitAny_cons (kb_of _ t d) (fun h => ?_) (fun h => by rw [h]; rfl)
    rw [h, Bool.false_or]
    refine kitAny_cons (kb_of _ u d) (fun h => ?_) (fun h => h)
    rw [h]; rfl

/-! ### dicts that are read: keys by their data -/
def lookD (qs : List (D × D)) (k : D) : Option D := (qs.find? fun q => PyData.eqv q.1 k).map (·.2)
def isKey : D → Bool
  | .int _ => true
  | .str _ => true
  | _ => false
/-- not the mark of a dict with tuple keys -/
def isDK : List (D × D) → Bool
  | (.none, _) :: _ => false
  | _ => true
theorem isKey_of {d : D} (h : isKey d = true) : ∃ k : Key, d = kD k := by
  cases d with
  | int i => exact ⟨.inl i, rfl⟩
  | str x => exact ⟨.inr x, rfl⟩
  | _ => cases h
theorem RpO.key {K : PySem.W.Frag} {F H : Hp} {v : V} {k : Key} (h : RpO K F H v (kD k)) : v = kV k := by
  cases k with
  | inl i => exact h.int
  | inr x => exact h.str
theorem eqv_kD (k j : Key) : PyData.eqv (kD k) (kD j) = decide (k = j) := by
  cases k with
  | inl i =>
    cases j with
    | inl i' => show (i == i') = _; rw [key_ll]
    | inr x => show false = _; rw [key_lr]
  | inr x =>
    cases j with
    | inl i => show false = _; rw [key_rl]
    | inr x' => show (x == x') = _; rw [key_rr]; exact Bool.beq_eq_decide_eq ..
section
variable {κ : Type} [DecidableEq κ] {kf : κ → D} (hk : ∀ a b, PyData.eqv (kf a) (kf b) = decide (a = b))
include hk
theorem look_ok {K : PySem.W.Frag} {F : Hp} : ∀ {ws : List (κ × V)} {ds : List D} {k : κ}, RpA K F (ws.map (·.2)) ds →
    (∃ v d, valV ws k = some v ∧ lookD ((ws.map fun p => kf p.1).zip ds) (kf k) = some d ∧ Rp K F v d) ∨ (valV ws k = none ∧ lookD ((ws.map fun p => kf p.1).zip ds) (kf k) = none)
  | [], ds, k, h => .inr ⟨rfl, by cases h; rfl⟩
  | w :: ws, ds, k, h => by
    cases h with
    | cons h1 h2 =>
      rename_i d ds
      by_cases hw : w.1 = k
      · refine .inl ⟨w.2, d, valV_pos hw, ?_, h1⟩
        show ((((kf w.1, d) :: ((ws.map fun p => kf p.1).zip ds)).find? fun q => PyData.eqv q.1 (kf k)).map (·.2)) = some d
        rw [List.find?_cons_of_pos (by rw [hk]; exact decide_eq_true hw)]
        rfl
      · have e : lookD (((w :: ws).map fun p => kf p.1).zip (d :: ds)) (kf k) = lookD ((ws.map fun p => kf p.1).zip ds) (kf k) := by
          show ((((kf w.1, d) :: ((ws.map fun p => kf p.1).zip ds)).find? fun q => PyData.eqv q.1 (kf k)).map (·.2)) = _
          rw [List.find?_cons_of_neg (by rw [hk]; simpa using hw)]
          rfl
        rw [e, valV_neg hw]
        exact look_ok h2
def putD (qs : List (D × D)) (k v : D) : List (D × D) := if (qs.any fun q => PyData.eqv q.1 k) = true then qs.map (fun q => if PyData.eqv q.1 k = true then (q.1, v) else q) else qs ++ [(k, v)]
omit hk in
theorem zip_map_snd {K : PySem.W.Frag} {F : Hp} {ws : List (κ × V)} {ds : List D} (h : RpA K F (ws.map (·.2)) ds) : ((ws.map fun p => kf p.1).zip ds).length = ws.length := by
  rw [List.length_zip, List.length_map, ← h.length, List.length_map]
  omega
theorem put_any {K : PySem.W.Frag} {F : Hp} (k : κ) : ∀ {ws : List (κ × V)} {ds : List D}, RpA K F (ws.map (·.2)) ds → (((ws.map fun p => kf p.1).zip ds).any fun q => PyData.eqv q.1 (kf k)) = ws.any fun kv => decide (kv.1 = k)
  | [], ds, h => rfl
  | w :: ws, ds, h => by
    cases h with
    | cons h1 h2 =>
      rename_i d ds
      show (PyData.eqv (kf w.1) (kf k) || (((ws.map fun p => kf p.1).zip ds).any fun q => PyData.eqv q.1 (kf k))) = (decide (w.1 = k) || ws.any fun kv => decide (kv.1 = k))
      rw [hk, put_any k h2]
theorem put_repl {K : PySem.W.Frag} {F : Hp} (k : κ) {v : V} {d : D} (hv : Rp K F v d) : ∀ {ws : List (κ × V)} {ds : List D}, RpA K F (ws.map (·.2)) ds →
    RpD kf K F (ws.map fun kv => if kv.1 = k then (kv.1, v) else kv) (((ws.map fun p => kf p.1).zip ds).map fun q => if PyData.eqv q.1 (kf k) = true then (q.1, d) else q)
  | [], ds, h => ⟨[], .nil, rfl⟩
  | w :: ws, ds, h => by
    cases h with
    | cons h1 h2 =>
      rename_i e ds
      obtain ⟨es, r, q⟩ := put_repl k hv h2
      by_cases hw : w.1 = k
      · rw [show (w :: ws).map (fun kv => if kv.1 = k then (kv.1, v) else kv) = (w.1, v) :: ws.map (fun kv => if kv.1 = k then (kv.1, v) else kv) by rw [List.map_cons, if_pos hw]]
        refine ⟨d :: es, .cons hv r, ?_⟩
        show ((if PyData.eqv (kf w.1) (kf k) = true then (kf w.1, d) else (kf w.1, e)) :: _) = (kf w.1, d) :: _
        rw [hk, if_pos (decide_eq_true hw)]
        exact congrArg (List.cons _) q
      · rw [show (w :: ws).map (fun kv => if kv.1 = k then (kv.1, v) else kv) = w :: ws.map (fun kv => if kv.1 = k then (kv.1, v) else kv) by rw [List.map_cons, if_neg hw]]
        refine ⟨e :: es, .cons h1 r, ?_⟩
        show ((if PyData.eqv (kf w.1) (kf k) = true then (kf w.1, d) else (kf w.1, e)) :: _) = (kf w.1, e) :: _
        rw [hk, if_neg (by simpa using hw)]
        exact congrArg (List.cons _) q
omit [DecidableEq κ] hk in
theorem put_snoc {K : PySem.W.Frag} {F : Hp} (k : κ) {v : V} {d : D} (hv : Rp K F v d) : ∀ {ws : List (κ × V)} {ds : List D}, RpA K F (ws.map (·.2)) ds → RpD kf K F (ws ++ [(k, v)]) (((ws.map fun p => kf p.1).zip ds) ++ [(kf k, d)])
  | [], ds, h => by
    cases h
    exact ⟨[d], .cons hv .nil, rfl⟩
  | w :: ws, ds, h => by
    cases h with
    | cons h1 h2 =>
      rename_i e ds
      obtain ⟨es, r, q⟩ := put_snoc k hv h2
      exact ⟨e :: es, .cons h1 r, congrArg (List.cons _) q⟩
theorem RpD.put {K : PySem.W.Frag} {F : Hp} {ws : List (κ × V)} {qs : List (D × D)} {k : κ} {v : V} {d : D} (h : RpD kf K F ws qs) (hv : Rp K F v d) : RpD kf K F (putK ws k v) (putD qs (kf k) d) := by
  obtain ⟨ds, r, rfl⟩ := h
  unfold putK putD
  rw [put_any hk k r]
  split
  · exact put_repl hk k hv r
  · exact put_snoc k hv r
omit [DecidableEq κ] hk in
theorem RpD.length {K : PySem.W.Frag} {F : Hp} {ws : List (κ × V)} {qs : List (D × D)} (h : RpD kf K F ws qs) : qs.length = ws.length := by
  obtain ⟨ds, r, rfl⟩ := h
  rw [List.length_zip, List.length_map, ← r.length, List.length_map]
  omega
end
theorem RpO.dict {K : PySem.W.Frag} {F H : Hp} {v : V} {qs : List (D × D)} (s : Same F H) (hd : isDK qs = true) (h : RpO K F H v (.dict qs)) : ∃ a ws, v = .ref a ∧ H a = some (.dK ws) ∧ RpD kD K F ws qs := by
  rcases h with h | h
  · cases h with
    | dct h1 h2 h3 => exact ⟨_, _, rfl, s _ _ h1, _, h2, h3⟩
  · cases h with
    | dK h1 h2 => exact ⟨_, _, rfl, h1, h2⟩
    | dT h1 h2 => cases hd
def keyed (qs : List (D × D)) (y : D) : Bool := isDK qs && isKey y
theorem dget_of {K : PySem.W.Frag} {F H : Hp} {v w : V} {qs : List (D × D)} {y : D} (s : Same F H) (hk : keyed qs y = true) (h : RpO K F H v (.dict qs)) (h2 : RpO K F H w y) : ∃ a o, v = .ref a ∧ DGet H a w o ∧ ((∃ v' d, o = some v' ∧ lookD qs y = some d ∧ Rp K F v' d) ∨ (o = none ∧ lookD qs y = none)) := by
  unfold keyed at hk
  rw [Bool.and_eq_true] at hk
  obtain ⟨k, rfl⟩ := isKey_of hk.2
  obtain ⟨p, ws, rfl, h1, ds, h3, rfl⟩ := h.dict s hk.1
  refine ⟨p, valV ws k, rfl, by rw [h2.key]; exact .k h1, ?_⟩
  rcases look_ok eqv_kD (k := k) h3 with ⟨v, d', f1, f2, f3⟩ | ⟨f1, f2⟩
  · exact .inl ⟨v, d', f1, f2, f3⟩
  · exact .inr ⟨f1, f2⟩
def dgetD (x y : D) : Option D := match x with
  | .dict qs => if keyed qs y = true then lookD qs y else none
  | _ => none
theorem v_dget (hu : X.A.units + 64 < cLine) (ha : VO X W a m) (hb : VO X W b m2) (hs : NoSl b := by exact fun _ _ => rfl) : VE X W (.Subscript a b pos) (bin dgetD m m2) := peW (pe_dget (by omega) ha hb hs) fun σ H Q ⟨H0, F0, F, ρ, re, q⟩ => by
  refine ⟨H0, F0, F, ρ, re, q.bind.imp fun x F1 H1 g1 k1 v r1 => ?_⟩
  refine ⟨H0, F0, F1, ρ, re.grow g1, k1.bind.imp fun y F2 H2 g2 k2 w r2 => ?_⟩
  obtain ⟨d, e, k3⟩ := k2.ofO
  cases x with
  | dict qs =>
    have e : (if keyed qs y = true then lookD qs y else none) = some d := e
    by_cases hk : keyed qs y = true
    · rw [if_pos hk] at e
      obtain ⟨p, o, rfl, g, h⟩ := dget_of g2.fh hk (r1.grow g2) r2
      rcases h with ⟨v', d', rfl, h2, h3⟩ | ⟨rfl, h2⟩
      · rw [h2] at e; cases e
        exact ⟨p, v', rfl, g, k3 _ _ (Gr.refl g2.fh) _ h3⟩
      · rw [h2] at e; cases e
    · rw [if_neg hk] at e; cases e
  | _ => cases e
def inDct (y x : D) : Option D := match x with
  | .dict qs => if keyed qs y = true then some (.bool (lookD qs y).isSome) else none
  | _ => none
def notInDct (y x : D) : Option D := match x with
  | .dict qs => if keyed qs y = true then some (.bool (!(lookD qs y).isSome)) else none
  | _ => none
def rInDct (neg : Bool) : R2 := fun y x H Q => ∃ a o, x = .ref a ∧ DGet H a y o ∧ Q (.bl (if neg then !o.isSome else o.isSome)) H
theorem op_inDct (hu : X.A.units + 64 < cLine) : OpR X (compareOp .In) (rInDct false) := by
  intro pins s σ H x y v u Q I rx ry h
  obtain ⟨a, o, rfl, g, q⟩ := h
  cases ry
  exact d_in (by omega) I g rx fun s' I' => ⟨.bl _, H, I', rfl, q⟩
theorem op_notInDct (hu : X.A.units + 64 < cLine) : OpR X (compareOp .NotIn) (rInDct true) := by
  intro pins s σ H x y v u Q I rx ry h
  obtain ⟨a, o, rfl, g, q⟩ := h
  cases ry
  exact d_notIn (by omega) I g rx fun s' I' => ⟨.bl _, H, I', rfl, q⟩
theorem s_inDct {K : PySem.W.Frag} : OpS K (rInDct false) inDct := by
  intro F H x y a b c Q s ra rb e q
  cases b with
  | dict qs =>
    have e : (if keyed qs a = true then some (PyData.bool (lookD qs a).isSome) else none) = some c := e
    by_cases hk : keyed qs a = true
    · rw [if_pos hk] at e; cases e
      obtain ⟨p, o, rfl, g, h⟩ := dget_of s hk rb ra
      refine ⟨p, o, rfl, g, ?_⟩
      rcases h with ⟨v', d, rfl, h2, _⟩ | ⟨rfl, h2⟩
      · rw [h2] at q; exact q _ _ _ (Gr.refl s) (.bl _)
      · rw [h2] at q; exact q _ _ _ (Gr.refl s) (.bl _)
    · rw [if_neg hk] at e; cases e
  | _ => cases e
theorem s_notInDct {K : PySem.W.Frag} : OpS K (rInDct true) notInDct := by
  intro F H x y a b c Q s ra rb e q
  cases b with
  | dict qs =>
    have e : (if keyed qs a = true then some (PyData.bool (!(lookD qs a).isSome)) else none) = some c := e
    by_cases hk : keyed qs a = true
    · rw [if_pos hk] at e; cases e
      obtain ⟨p, o, rfl, g, h⟩ := dget_of s hk rb ra
      refine ⟨p, o, rfl, g, ?_⟩
      rcases h with ⟨v', d, rfl, h2, _⟩ | ⟨rfl, h2⟩
      · rw [h2] at q; exact q _ _ _ (Gr.refl s) (.bl _)
      · rw [h2] at q; exact q _ _ _ (Gr.refl s) (.bl _)
    · rw [if_neg hk] at e; cases e
  | _ => cases e
theorem v_inD (hu : X.A.units + 64 < cLine) (ha : VO X W a m) (hb : VO X W b m2) (hm : behindInMarks .In b = false := by rfl) : VE X W (.Compare a [.In] [b] pos) (bin inDct m m2) := v_cmp (op_inDct hu) s_inDct ha hb hm
theorem v_notInD (hu : X.A.units + 64 < cLine) (ha : VO X W a m) (hb : VO X W b m2) (hm : behindInMarks .NotIn b = false := by rfl) : VE X W (.Compare a [.NotIn] [b] pos) (bin notInDct m m2) := v_cmp (op_notInDct hu) s_notInDct ha hb hm
theorem t_inD (hu : X.A.units + 64 < cLine) (ha : VO X W a m) (hb : VO X W b m2) (hm : behindInMarks .In b = false := by rfl) : VT X W (.Compare a [.In] [b] pos) (asB (bin inDct m m2)) := vt_cmp (op_inDct hu) s_inDct ha hb hm
theorem t_notInD (hu : X.A.units + 64 < cLine) (ha : VO X W a m) (hb : VO X W b m2) (hm : behindInMarks .NotIn b = false := by rfl) : VT X W (.Compare a [.NotIn] [b] pos) (asB (bin notInDct m m2)) := vt_cmp (op_notInDct hu) s_notInDct ha hb hm

/-! ### zip of two lists, of two tuples -/
def zipD : List D → List D → List D
  | a :: as, b :: bs => .tuple [a, b] :: zipD as bs
  | _, _ => []
theorem zipD_length : ∀ (as bs : List D), (zipD as bs).length = min as.length bs.length
  | [], bs => by show (0 : Nat) = _; simp
  | a :: as, [] => by show (0 : Nat) = _; simp
  | a :: as, b :: bs => by show (zipD as bs).length + 1 = _; rw [zipD_length as bs, List.length_cons, List.length_cons]; omega
theorem zipD_get : ∀ {as bs : List D} {i : Nat} {d : D}, (zipD as bs)[i]? = some d → ∃ a b, as[i]? = some a ∧ bs[i]? = some b ∧ d = .tuple [a, b]
  | [], bs, i, d, h => by cases i <;> cases h
  | a :: as, [], i, d, h => by cases i <;> cases h
  | a :: as, b :: bs, 0, d, h => by cases h; exact ⟨a, b, rfl, rfl, rfl⟩
  | a :: as, b :: bs, i + 1, d, h => zipD_get (as := as) (bs := bs) (i := i) h
theorem Wk.zipL {K : PySem.W.Frag} {F : Hp} {a b : Addr} {vs ws : List V} {ds es : List D} (h : SqL K F a vs) (r : RpA K F vs ds) (h2 : SqL K F b ws) (r2 : RpA K F ws es) : Wk K (Itz K a b) F (zipD ds es) where
  go := fun F' H' i s1 s2 hi => by
    rw [zipD_length, ← r.length, ← r2.length] at hi
    exact ⟨vs, ws, vs[i]'(by omega), ws[i]'(by omega), s2.seq (s1.seq h), s2.seq (s1.seq h2), by simp, by simp⟩
  stop := fun F' H' i s1 s2 hi => by
    rw [zipD_length, ← r.length, ← r2.length] at hi
    exact ⟨vs, ws, s2.seq (s1.seq h), s2.seq (s1.seq h2), by omega⟩
  yld := fun F' H' i d x H'' s1 s2 hd ⟨T, x1, y1, e1, hT, e2, y2, y3⟩ => by
    subst e1 e2
    obtain ⟨d1, d2, f1, f2, rfl⟩ := zipD_get hd
    obtain ⟨v1, g1, g2⟩ := r.getD f1
    obtain ⟨w1, g3, g4⟩ := r2.getD f2
    have h5 := y2 vs (s2.seq (s1.seq h))
    have h6 := y3 ws (s2.seq (s1.seq h2))
    rw [g1] at h5; cases h5
    rw [g3] at h6; cases h6
    have gr : Gr F' H' (upd F' T (.tup [x1, y1])) (upd H' T (.tup [x1, y1])) := Gr.alloc s2 _ hT
    exact ⟨_, gr, .tup (.of upd_same) (.cons (g2.mono (s1.trans gr.ff)) (.cons (g4.mono (s1.trans gr.ff)) .nil))⟩
theorem Wk.zipT {K : PySem.W.Frag} {F : Hp} {a b : Addr} {vs ws : List V} {ds es : List D} (h : SqT K F a vs) (r : RpA K F vs ds) (h2 : SqT K F b ws) (r2 : RpA K F ws es) : Wk K (RZ.ItzT K a b) F (zipD ds es) where
  go := fun F' H' i s1 s2 hi => by
    rw [zipD_length, ← r.length, ← r2.length] at hi
    exact ⟨vs, ws, vs[i]'(by omega), ws[i]'(by omega), VL.Same.sqT s2 (VL.Same.sqT s1 h), VL.Same.sqT s2 (VL.Same.sqT s1 h2), by simp, by simp⟩
  stop := fun F' H' i s1 s2 hi => by
    rw [zipD_length, ← r.length, ← r2.length] at hi
    exact ⟨vs, ws, VL.Same.sqT s2 (VL.Same.sqT s1 h), VL.Same.sqT s2 (VL.Same.sqT s1 h2), by omega⟩
  yld := fun F' H' i d x H'' s1 s2 hd ⟨T, x1, y1, e1, hT, e2, y2, y3⟩ => by
    subst e1 e2
    obtain ⟨d1, d2, f1, f2, rfl⟩ := zipD_get hd
    obtain ⟨v1, g1, g2⟩ := r.getD f1
    obtain ⟨w1, g3, g4⟩ := r2.getD f2
    have h5 := y2 vs (VL.Same.sqT s2 (VL.Same.sqT s1 h))
    have h6 := y3 ws (VL.Same.sqT s2 (VL.Same.sqT s1 h2))
    rw [g1] at h5; cases h5
    rw [g3] at h6; cases h6
    have gr : Gr F' H' (upd F' T (.tup [x1, y1])) (upd H' T (.tup [x1, y1])) := Gr.alloc s2 _ hT
    exact ⟨_, gr, .tup (.of upd_same) (.cons (g2.mono (s1.trans gr.ff)) (.cons (g4.mono (s1.trans gr.ff)) .nil))⟩
def zipI (ma mb : EM) : LM := fun ρ => (ma ρ).bind fun x => (mb ρ).bind fun y => match x, y with
  | .list as, .list bs => .ok (zipD as bs)
  | .tuple as, .tuple bs => .ok (zipD as bs)
  | _, _ => .bad
theorem vi_zip {kk : Nat} {tpos : Pos} (hg : Gl X "zip") (hm : X.mg "zip" = none) (ha : VE X W a m) (hb : VE X W b m2)
    (hs : starEach [a, b] X.env = (false, eval a X.env) :: starEach [b] X.env := by rfl) (hs2 : starEach [b] X.env = (false, eval b X.env) :: starEach [] X.env := by rfl) (hpl : (backTo pos (starEach [b] X.env)).any (·.1) = false := by rfl) :
    VI X W (.Tuple es kk tpos) (.Call (.Name "zip" p) [a, b] [] pos) (zipI m m2) := piW (RZ.pi_zipA hg hm (pa_cons ha (pa_cons hb pa_nil hs2) hs) hs hpl) fun σ H Rr ⟨H0, F0, F, ρ, re, q⟩ => by
  refine ⟨H0, F0, F, ρ, re, q.bind.imp fun x F1 H1 g1 k1 v r1 => ?_⟩
  refine ⟨H0, F0, F1, ρ, re.grow g1, k1.bind.imp fun y F2 H2 g2 k2 w r2 => ?_⟩
  have r1 := r1.mono g2.ff
  split at k2
  · cases r1 with
    | lst h1 h2 =>
      cases r2 with
      | lst h3 h4 => exact ⟨_, _, _, _, rfl, .inl ⟨g2.fh.seq h1, g2.fh.seq h3, k2.ok g2.fh _ (.zipL h1 h2 h3 h4)⟩⟩
  · cases r1 with
    | tup h1 h2 =>
      cases r2 with
      | tup h3 h4 => exact ⟨_, _, _, _, rfl, .inr ⟨VL.Same.sqT g2.fh h1, VL.Same.sqT g2.fh h3, k2.ok g2.fh _ (.zipT h1 h2 h3 h4)⟩⟩
  · exact k2.elim
end
end L2.VL

set_option Elab.async false
set_option linter.all false
set_option autoImplicit false
set_option maxRecDepth 100000
set_option maxHeartbeats 4000000
namespace L2.VL
open PySem PySem.Spec PyProof.Rows
section
variable {X : Cx} {W : WX} {a b c e e2 : Expr} {es : List Expr} {st : Stmt} {sts : List Stmt} {m m2 : EM} {pos p p2 p3 p4 : Pos}

/-! ### a dict made anew, keys ints or texts -/
abbrev QM := Rho → R (List (D × D))
def tDk (K : PySem.W.Frag) (mg : Str → Option Value) (W : WX) (m : QM) : TE := fun σ H Q => ∃ H0 F0 F ρ, RE K H0 F0 F H ρ σ ∧ Rk K mg W F H σ (m ρ) fun qs F' H' => ∀ a ws, H' a = none → RpD kD K F' ws qs → Q (.ref a) (upd H' a (.dK ws))
abbrev VDk (X : Cx) (W : WX) (e : Expr) (m : QM) : Prop := PE X e (tDk X.K X.mg W m)
def toED (mq : QM) : EM := fun ρ => (mq ρ).bind fun qs => .ok (.dict qs)
theorem VDk.toE {mq : QM} (h : VDk X W e mq) : VE X W e (toED mq) := peW h fun σ H Q ⟨H0, F0, F, ρ, re, q⟩ => by
  refine ⟨H0, F0, F, ρ, re, q.bind.imp fun qs F' H' g k a ws hn r => ?_⟩
  have g2 : Gr F' H' (upd F' a (.dK ws)) (upd H' a (.dK ws)) := Gr.alloc g.fh _ hn
  obtain ⟨ds, r1, r2⟩ := r
  exact k _ _ g2 _ (.dct upd_same (r1.mono g2.ff) r2)
theorem vdk_nil : VDk X W (.Dict [] [] pos) (fun _ => .ok []) := peW pe_dnewK fun σ H Q ⟨H0, F0, F, ρ, re, q⟩ p hp => q.ok re.sub p [] hp ⟨[], .nil, rfl⟩
def dcL (ρ : Rho) (g : GM) (mt : BM) (mk mv : EM) : List D → List (D × D) → R (List (D × D))
  | [], qs => .ok qs
  | d :: ds, qs => match g d ρ with
    | none => .bad
    | some ρ1 => match mt ρ1 with
      | .ok true => match mk ρ1 with
        | .ok k => match mv ρ1 with
          | .ok v => if isKey k = true then dcL ρ g mt mk mv ds (putD qs k v) else .bad
          | _ => .bad
        | _ => .bad
      | .ok false => dcL ρ g mt mk mv ds qs
      | _ => .bad
def dcM (own : List Nat) (mi : LM) (g : GM) (mt : BM) (mk mv : EM) : QM := fun ρ => (mi ρ).bind fun ds => if ds.length ≤ 16777216 then
  (match dcL (wipeR ρ own) g mt mk mv ds [] with
    | .ok xs => .ok xs
    | _ => .bad) else .bad
theorem t_dc {K : PySem.W.Frag} {mg : Str → Option Value} {own is : List Nat} {mi : LM} {g : GM} {mt : BM} {mk mv : EM} (hsub : ∀ i ∈ is, i ∈ own) :
    ∀ σ H Q, tDk K mg W (dcM own mi g mt mk mv) σ H Q → tDc (tI K mg W mi) (tGc K is g) (tTt K mg W0 mt) (tE K mg W0 mk) (tE K mg W0 mv) own σ H Q := fun σ H Q ⟨H0, F0, F, ρ, re, q⟩ => by
  refine ⟨H0, F0, F, ρ, re, q.bind.imp fun ds F1 H1 g1 k J wk A hA => ?_⟩
  by_cases hz : ds.length ≤ 16777216
  · rw [if_pos hz] at k
    generalize hρ : wipeR ρ own = ρw at k
    have rew : ∀ {F' G : Hp}, Gr F1 H1 F' G → RE K H0 F0 F' G ρw (wipe σ own) := fun {F' G} gr => by
      rw [← hρ]
      exact ((re.grow g1).grow gr).wiped own
    have s1 : Same F1 H1 := g1.fh
    cases el : dcL ρw g mt mk mv ds [] with
    | exc x => rw [el] at k; exact k.elim
    | bad => rw [el] at k; exact k.elim
    | ok xs =>
      rw [el] at k
      refine ⟨fun i n H' => n = ds.length - i ∧ i ≤ ds.length ∧ ∃ F' G acc ys, H' = upd G A (.dK acc) ∧ G A = none ∧ Gr F1 H1 F' G ∧ RpD kD K F' acc ys ∧ acc.length ≤ i ∧ dcL ρw g mt mk mv (ds.drop i) ys = .ok xs,
        ⟨ds.length, by simp, Nat.zero_le _, F1, H1, [], [], rfl, hA, Gr.refl s1, ⟨[], .nil, rfl⟩, Nat.le_refl _, by rw [List.drop_zero]; exact el⟩, ?_⟩
      rintro i n H' ⟨rfl, hi, F', G, acc, ys, rfl, gA, gr, ra, la, er⟩
      have sG : Same F' (upd G A (.dK acc)) := gr.fh.trans (VL.Same.upd gA)
      by_cases hlt : i < ds.length
      · refine .inr ⟨wk.go F' _ i gr.ff sG hlt, fun H' => i + 1 ≤ ds.length ∧ ∃ F' G acc ys, H' = upd G A (.dK acc) ∧ G A = none ∧ Gr F1 H1 F' G ∧ RpD kD K F' acc ys ∧ acc.length ≤ i + 1 ∧ dcL ρw g mt mk mv (ds.drop (i + 1)) ys = .ok xs,
          fun H' ⟨h1, h2⟩ => ⟨ds.length - (i + 1), by omega, rfl, h1, h2⟩, fun x H'' y => ?_⟩
        obtain ⟨F2, gr2, rx⟩ := wk.yld F' _ i ds[i] x H'' gr.ff sG (by simp [hlt]) y
        obtain ⟨G2, rfl, gA2, gg2⟩ := Gr.cut gA gr.fh gr2
        have gr12 := gr.trans gg2
        have rw2 : RE K H0 F0 F2 (upd G2 A (.dK acc)) ρw (wipe σ own) := (rew gr12).grow (Gr.junk gg2.fh _ gA2)
        rw [List.drop_eq_getElem_cons hlt] at er
        have er : (match g ds[i] ρw with
          | none => R.bad
          | some ρ1 => match mt ρ1 with
            | .ok true => match mk ρ1 with
              | .ok k => match mv ρ1 with
                | .ok v => if isKey k = true then dcL ρw g mt mk mv (ds.drop (i + 1)) (putD ys k v) else .bad
                | _ => .bad
              | _ => .bad
            | .ok false => dcL ρw g mt mk mv (ds.drop (i + 1)) ys
            | _ => .bad) = R.ok xs := er
        cases eg : g ds[i] ρw with
        | none => rw [eg] at er; cases er
        | some ρ1 =>
          rw [eg] at er
          dsimp only at er
          refine ⟨H0, F0, F2, ρw, ds[i], ρ1, rw2, rx, eg, fun σ3 re3 l3 k3 => ⟨?_, ?_⟩⟩
          · have e1 : wipe σ3 own = wipe (wipe σ own) own := wipe_eq own l3 fun j hj => k3 j fun z => hj (hsub j z)
            rw [e1]
            exact wipe_eq own (wipe_length ..) fun j hj => wipe_keep hj
          · refine ⟨H0, F0, F2, ρ1, re3, ?_⟩
            cases et : mt ρ1 with
            | exc x => rw [et] at er; cases er
            | bad => rw [et] at er; cases er
            | ok b =>
              rw [et] at er
              intro F4 H4 g4
              obtain ⟨G4, rfl, gA4, gg4⟩ := Gr.cut gA2 gg2.fh g4
              cases b with
              | false =>
                rw [if_neg Bool.false_ne_true]
                exact ⟨by omega, F4, G4, acc, ys, rfl, gA4, gr12.trans gg4, ra.mono (gg2.ff.trans gg4.ff), by omega, er⟩
              | true =>
                rw [if_pos rfl]
                dsimp only at er
                refine ⟨H0, F0, F4, ρ1, re3.grow g4, ?_⟩
                cases ek : mk ρ1 with
                | exc x => rw [ek] at er; cases er
                | bad => rw [ek] at er; cases er
                | ok kd =>
                  rw [ek] at er
                  dsimp only at er
                  intro F5 H5 g5 y ry
                  obtain ⟨G5, rfl, gA5, gg5⟩ := Gr.cut gA4 gg4.fh g5
                  refine ⟨H0, F0, F5, ρ1, (re3.grow g4).grow g5, ?_⟩
                  cases ev : mv ρ1 with
                  | exc x => rw [ev] at er; cases er
                  | bad => rw [ev] at er; cases er
                  | ok d =>
                    rw [ev] at er
                    dsimp only at er
                    by_cases hk : isKey kd = true
                    · rw [if_pos hk] at er
                      intro F6 H6 g6 z rz
                      obtain ⟨G6, rfl, gA6, gg6⟩ := Gr.cut gA5 gg5.fh g6
                      obtain ⟨key, rfl⟩ := isKey_of hk
                      have hy : y = kV key := (show RpO K F5 G5 y (kD key) from .inl ry).key
                      have ra6 := ra.mono (((gg2.ff.trans gg4.ff).trans gg5.ff).trans gg6.ff)
                      refine ⟨acc, key, hy, upd_same, by rw [sizeLine_eq]; omega, by omega, F6, G6, putK acc key z, _, by rw [upd_upd], gA6, ((gr12.trans gg4).trans gg5).trans gg6, ra6.put eqv_kD rz, Nat.le_trans (length_putK ..) (by omega), er⟩
                    · rw [if_neg hk] at er; cases er
      · have e : i = ds.length := by omega
        subst e
        refine .inl ⟨wk.stop F' _ _ gr.ff sG (Nat.le_refl _), ?_⟩
        rw [List.drop_length] at er
        cases er
        exact k F' G gr A acc gA ra
  · rw [if_neg hz] at k; exact k.elim
theorem vdk_comp {kx vx tg iter : Expr} {ifs : List Expr} {scope : Scope} {own : List (Str × Nat)} {is : List Nat} {mi : LM} {g : GM} {mt : BM} {mk mv : EM} (hc : X.calm = true) (hN : X.N.Nodup) (hi : VI X W tg iter mi) (ok : BlkOk X.N X.env.scope scope own) (hsub : ∀ i ∈ is, i ∈ own.map (·.2))
    (hg : ∀ (s : Shared) (H : Hp) (C : Addr) (cl : List (Str × Addr)) (fp : List Addr), VGc (X.blk s H scope (compEnvC scope cl C X.env) fp) is tg g)
    (ht : ∀ (s : Shared) (H : Hp) (C : Addr) (cl : List (Str × Addr)) (fp : List Addr), VTs (X.blk s H scope (compEnvC scope cl C X.env) fp) W0 ifs mt)
    (hk : ∀ (s : Shared) (H : Hp) (C : Addr) (cl : List (Str × Addr)) (fp : List Addr), VE (X.blk s H scope (compEnvC scope cl C X.env) fp) W0 kx mk)
    (hv : ∀ (s : Shared) (H : Hp) (C : Addr) (cl : List (Str × Addr)) (fp : List Addr), VE (X.blk s H scope (compEnvC scope cl C X.env) fp) W0 vx mv) (hs : ∀ x, foldedSetIterable iter X.env x = pure x := by intro _; rfl) :
    VDk X W (.DictComp kx vx [⟨tg, iter, ifs, 0⟩] scope pos) (dcM (own.map (·.2)) mi g mt mk mv) := peW (pe_dc hc hN hi ok hg ht hk hv hs) (t_dc hsub)
/-- len of a dict -/
def lenDk : D → Option D
  | .dict qs => if isDK qs = true then some (.int qs.length) else none
  | _ => none
def rLenD : List V → Hp → VK → Prop := fun xs H Q => ∃ a kvs, xs = [V.ref a] ∧ H a = some (.dK kvs) ∧ Q (.int kvs.length) H
theorem c_lenD : CallR X (.builtin "len") rLenD := call_lenD
theorem s_lenD {K : PySem.W.Frag} : C1S K rLenD lenDk := by
  intro F H x a c Q s ra e q
  cases a with
  | dict qs =>
    have e : (if isDK qs = true then some (PyData.int qs.length) else none) = some c := e
    by_cases hk : isDK qs = true
    · rw [if_pos hk] at e; cases e
      obtain ⟨p, ws, rfl, h1, h2⟩ := ra.dict s hk
      exact ⟨p, ws, rfl, h1, by rw [← h2.length]; exact q _ _ _ (Gr.refl s) (.int _)⟩
    · rw [if_neg hk] at e; cases e
  | _ => cases e
/-- x = {..}: a dict of one's own -/
def setKM (i : Nat) (m : QM) : SM := fun ρ => (m ρ).out ρ fun qs => .nx (ρ.set i (some (.oK qs)))
theorem vs_setK {i : Nat} {x : Str} {pos' : Pos} {mq : QM} (hN : X.N.Nodup) (hi : X.N[i]? = some x) (hx : Loc X.env.scope x) (he : VDk X W e mq) (hs : swapsWith e (some (.Name x pos')) pos.line X.env = pure false := by rfl) (hf : X.fn x = true ∨ X.env.scope.names.lookup x = some .local := by first | exact .inl rfl | exact .inr rfl | assumption) :
    VS X W (.Assign [.Name x pos'] e pos) (setKM i mq) := psW (ps_set hN hi hx he hs hf) fun D σ H ⟨H0, F0, F, ρ, re, q⟩ => by
  refine ⟨H0, F0, F, ρ, re, (OkOut.rk q re).imp fun qs F' H' g k a ws hn r => ?_⟩
  have re' := re.grow g
  exact k F' _ _ (re'.setN hn ⟨a, ws, rfl, upd_same, r, re'.sub.free hn, re'.same.free hn⟩) (Same.refl _)
/-- d[k] = v -/
def okAt (i : Nat) (ρ : Rho) : R (List (D × D)) := match ρ[i]? with
  | some (some (.oK qs)) => .ok qs
  | _ => .bad
def dputM (i : Nat) (mk mv : EM) : SM := fun ρ => (okAt i ρ).out ρ fun qs => (mv ρ).out ρ fun v => (mk ρ).out ρ fun k => if isKey k = true ∧ qs.length < 16777216 then .nx (ρ.set i (some (.oK (putD qs k v)))) else .bad
theorem vs_dput {i : Nat} {x : Str} {mk mv : EM} {p5 : Pos} (hu : X.A.units + 64 < cLine) (ho : PE X (.Name x p) (tVar i)) (hk : VE X W a mk) (hv : VE X W b mv) (hs : swapsWith b (some (.Subscript (.Name x p) a p5)) pos.line X.env = pure false := by rfl) :
    VS X W (.Assign [.Subscript (.Name x p) a p5] b pos) (dputM i mk mv) := psW (ps_dput (by omega) ho hk hv hs) fun D σ H ⟨H0, F0, F, ρ, re, q⟩ => by
  unfold dputM okAt at q
  split at q
  · rename_i qs eo
    obtain ⟨v0, q1, l, ws, rfl, q2, q3, q4, q5⟩ := re.ok i _ eo
    have q : OkOut X.K X.mg W H0 F0 F D ((mv ρ).out ρ fun v => (mk ρ).out ρ fun k => if isKey k = true ∧ qs.length < 16777216 then .nx (ρ.set i (some (.oK (putD qs k v)))) else .bad) := q
    refine ⟨H0, F0, F, ρ, re, (OkOut.rk q re).imp fun d F1 H1 g1 k1 v rv => ⟨_, q1, H0, F0, F1, ρ, re.grow g1, (OkOut.rk k1 (re.grow g1)).imp fun kd F2 H2 g2 k2 y ry => ?_⟩⟩
    by_cases hc : isKey kd = true ∧ qs.length < 16777216
    · rw [if_pos hc] at k2
      obtain ⟨key, rfl⟩ := isKey_of hc.1
      have hy : y = kV key := (show RpO X.K F2 H2 y (kD key) from .inl ry).key
      have g12 := g1.trans g2
      have hl := g12.hh _ _ q2
      refine ⟨l, upd H2 l (.dK (putK ws key v)), rfl, by rw [hy]; exact .k hl (by rw [← q3.length, sizeLine_eq]; exact hc.2), ?_⟩
      have hF : F2 l = none := by
        cases z : F2 l with
        | none => rfl
        | some o =>
          rcases g12.new l o z with y | y
          · rw [q4] at y; cases y
          · rw [q2] at y; cases y
      exact k2 F2 _ σ ((re.grow g12).write eo rfl q1 ⟨l, _, rfl, upd_same, (q3.mono g12.ff).put eqv_kD (rv.mono g2.ff), hF, q5⟩) (Same.refl _)
    · rw [if_neg hc] at k2; exact k2.elim
  · exact q.elim
end
end L2.VL

set_option Elab.async false
set_option linter.all false
set_option autoImplicit false
set_option maxRecDepth 100000
set_option maxHeartbeats 4000000
/-! VL11: two clauses -/
namespace L2.VL
open PySem PySem.Spec PyProof.Rows

theorem SlOk.tuck {K : PySem.W.Frag} {H0 F G : Hp} {A : Addr} {o : HO} {s : Sl} {v : V} (h : SlOk K H0 F G s v) (hn : G A = none) : SlOk K (upd H0 A o) F (upd G A o) s v := by
  have ne : ∀ {a : Addr} {u : HO}, G a = some u → a ≠ A := fun e => ne_of_none e hn
  cases s with
  | fz d => exact h
  | ol ds => obtain ⟨a, vs, e1, e2, e3, e4, e5⟩ := h; exact ⟨a, vs, e1, by rw [upd_ne (ne e2)]; exact e2, e3, e4, by rw [upd_ne (ne e2)]; exact e5⟩
  | oK ds => obtain ⟨a, vs, e1, e2, e3, e4, e5⟩ := h; exact ⟨a, vs, e1, by rw [upd_ne (ne e2)]; exact e2, e3, e4, by rw [upd_ne (ne e2)]; exact e5⟩
  | oT ds => obtain ⟨a, vs, e1, e2, e3, e4, e5⟩ := h; exact ⟨a, vs, e1, by rw [upd_ne (ne e2)]; exact e2, e3, e4, by rw [upd_ne (ne e2)]; exact e5⟩
theorem SlOk.retuck {K : PySem.W.Frag} {H0 F G : Hp} {A : Addr} {o o' : HO} {s : Sl} {v : V} (h : SlOk K (upd H0 A o) F (upd G A o) s v) : SlOk K (upd H0 A o') F (upd G A o') s v := by
  have ne : ∀ {a : Addr}, upd H0 A o a = none → a ≠ A := fun e => by
    intro z; subst z; rw [upd_same] at e; cases e
  cases s with
  | fz d => exact h
  | ol ds => obtain ⟨a, vs, e1, e2, e3, e4, e5⟩ := h; have n := ne e5; rw [upd_ne n] at e2 e5; exact ⟨a, vs, e1, by rw [upd_ne n]; exact e2, e3, e4, by rw [upd_ne n]; exact e5⟩
  | oK ds => obtain ⟨a, vs, e1, e2, e3, e4, e5⟩ := h; have n := ne e5; rw [upd_ne n] at e2 e5; exact ⟨a, vs, e1, by rw [upd_ne n]; exact e2, e3, e4, by rw [upd_ne n]; exact e5⟩
  | oT ds => obtain ⟨a, vs, e1, e2, e3, e4, e5⟩ := h; have n := ne e5; rw [upd_ne n] at e2 e5; exact ⟨a, vs, e1, by rw [upd_ne n]; exact e2, e3, e4, by rw [upd_ne n]; exact e5⟩
theorem RE.tuck {K : PySem.W.Frag} {H0 F0 F G : Hp} {A : Addr} {o : HO} {ρ : Rho} {σ : St} (r : RE K H0 F0 F G ρ σ) (hn : G A = none) : RE K (upd H0 A o) F0 F (upd G A o) ρ σ := by
  have f : F A = none := r.sub.free hn
  refine ⟨fun b x e => ?_, fun b x e => ?_, r.ext, fun b x e => ?_, r.len, fun i s e => ?_, r.apart⟩
  · by_cases hb : b = A
    · subst hb; rw [upd_same] at e ⊢; exact e
    · rw [upd_ne hb] at e ⊢; exact r.same _ _ e
  · rw [upd_ne (ne_of_none e f)]; exact r.sub _ _ e
  · rw [upd_ne (ne_of_none e f)]; exact r.new _ _ e
  · obtain ⟨v, e1, e2⟩ := r.ok i s e; exact ⟨v, e1, e2.tuck hn⟩
theorem RE.retuck {K : PySem.W.Frag} {H0 F0 F G : Hp} {A : Addr} {o o' : HO} {ρ : Rho} {σ : St} (r : RE K (upd H0 A o) F0 F (upd G A o) ρ σ) (f : F A = none) : RE K (upd H0 A o') F0 F (upd G A o') ρ σ := by
  refine ⟨fun b x e => ?_, fun b x e => ?_, r.ext, fun b x e => ?_, r.len, fun i s e => ?_, r.apart⟩
  · by_cases hb : b = A
    · subst hb; rw [upd_same] at e ⊢; exact e
    · have z := r.same b x (by rw [upd_ne hb] at e ⊢; exact e); rw [upd_ne hb] at z ⊢; exact z
  · have hb := ne_of_none e f; have z := r.sub _ _ e; rw [upd_ne hb] at z ⊢; exact z
  · have hb := ne_of_none e f; have z := r.new _ _ e; rw [upd_ne hb] at z ⊢; exact z
  · obtain ⟨v, e1, e2⟩ := r.ok i s e; exact ⟨v, e1, e2.retuck⟩
section
variable {X : Cx} {W : WX} {pos : Pos}
def lc2L (own1 : List Nat) (ρ : Rho) (g : GM) (mt : BM) (mi1 : LM) (g1 : GM) (mt1 : BM) (me : EM) : List D → R (List D)
  | [] => .ok []
  | d :: ds => match g d ρ with
    | none => .bad
    | some ρ1 => match mt ρ1 with
      | .ok true => match mi1 ρ1 with
        | .ok ds1 => match lcL (wipeR ρ1 own1) g1 mt1 me ds1 with
          | .ok ys => (lc2L own1 ρ g mt mi1 g1 mt1 me ds).bind fun xs => .ok (ys ++ xs)
          | _ => .bad
        | _ => .bad
      | .ok false => lc2L own1 ρ g mt mi1 g1 mt1 me ds
      | _ => .bad
def lc2M (own own1 : List Nat) (mi : LM) (g : GM) (mt : BM) (mi1 : LM) (g1 : GM) (mt1 : BM) (me : EM) : LM := fun ρ => (mi ρ).bind fun ds =>
  (match lc2L own1 (wipeR ρ own) g mt mi1 g1 mt1 me ds with
    | .ok xs => if xs.length ≤ 16777216 then .ok xs else .bad
    | _ => .bad)
theorem t_lc2 {K : PySem.W.Frag} {mg : Str → Option Value} {own is own1 is1 : List Nat} {mi mi1 : LM} {g g1 : GM} {mt mt1 : BM} {me : EM} (hsub : ∀ i ∈ is, i ∈ own) (hsub1 : ∀ i ∈ is1, i ∈ own1) :
    ∀ σ H Q, tF K mg W (lc2M own own1 mi g mt mi1 g1 mt1 me) σ H Q → tLc2 (tI K mg W mi) (tGc K is g) (tTt K mg W0 mt) (tI K mg W0 mi1) (tGc K is1 g1) (tTt K mg W0 mt1) (tE K mg W0 me) own own1 σ H Q := fun σ H Q ⟨H0, F0, F, ρ, re, q⟩ => by
  refine ⟨H0, F0, F, ρ, re, q.bind.imp fun ds F1 H1 ga k J wk A hA => ?_⟩
  generalize hρ : wipeR ρ own = ρw at k
  have rew : ∀ {F' G : Hp}, Gr F1 H1 F' G → RE K H0 F0 F' G ρw (wipe σ own) := fun {F' G} gr => by
    rw [← hρ]
    exact ((re.grow ga).grow gr).wiped own
  have s1 : Same F1 H1 := ga.fh
  cases el : lc2L own1 ρw g mt mi1 g1 mt1 me ds with
  | exc x => rw [el] at k; exact k.elim
  | bad => rw [el] at k; exact k.elim
  | ok xs =>
    rw [el] at k
    dsimp only at k
    by_cases hz : xs.length ≤ 16777216
    · rw [if_pos hz] at k
      refine ⟨fun i n H' => n = ds.length - i ∧ i ≤ ds.length ∧ ∃ F' G acc ys rest, H' = upd G A (.lst acc) ∧ G A = none ∧ Gr F1 H1 F' G ∧ RpA K F' acc ys ∧ lc2L own1 ρw g mt mi1 g1 mt1 me (ds.drop i) = .ok rest ∧ ys ++ rest = xs,
        ⟨ds.length, by simp, Nat.zero_le _, F1, H1, [], [], xs, rfl, hA, Gr.refl s1, .nil, by rw [List.drop_zero]; exact el, rfl⟩, ?_⟩
      rintro i n H' ⟨rfl, hi, F', G, acc, ys, rest, rfl, gA, gr, ra, er, ex⟩
      have sG : Same F' (upd G A (.lst acc)) := gr.fh.trans (VL.Same.upd gA)
      by_cases hlt : i < ds.length
      · refine .inr ⟨wk.go F' _ i gr.ff sG hlt, fun H' => i + 1 ≤ ds.length ∧ ∃ F' G acc ys rest, H' = upd G A (.lst acc) ∧ G A = none ∧ Gr F1 H1 F' G ∧ RpA K F' acc ys ∧ lc2L own1 ρw g mt mi1 g1 mt1 me (ds.drop (i + 1)) = .ok rest ∧ ys ++ rest = xs,
          fun H' ⟨h1, h2⟩ => ⟨ds.length - (i + 1), by omega, rfl, h1, h2⟩, fun x H'' y => ?_⟩
        obtain ⟨F2, gr2, rx⟩ := wk.yld F' _ i ds[i] x H'' gr.ff sG (by simp [hlt]) y
        obtain ⟨G2, rfl, gA2, gg2⟩ := Gr.cut gA gr.fh gr2
        have gr12 := gr.trans gg2
        have rw2 : RE K (upd H0 A (.lst acc)) F0 F2 (upd G2 A (.lst acc)) ρw (wipe σ own) := (rew gr12).tuck gA2
        rw [List.drop_eq_getElem_cons hlt] at er
        have er : (match g ds[i] ρw with
          | none => R.bad
          | some ρ1 => match mt ρ1 with
            | .ok true => match mi1 ρ1 with
              | .ok ds1 => match lcL (wipeR ρ1 own1) g1 mt1 me ds1 with
                | .ok ys => (lc2L own1 ρw g mt mi1 g1 mt1 me (ds.drop (i + 1))).bind fun xs => .ok (ys ++ xs)
                | _ => .bad
              | _ => .bad
            | .ok false => lc2L own1 ρw g mt mi1 g1 mt1 me (ds.drop (i + 1))
            | _ => .bad) = R.ok rest := er
        cases eg : g ds[i] ρw with
        | none => rw [eg] at er; cases er
        | some ρ1 =>
          rw [eg] at er
          dsimp only at er
          refine ⟨upd H0 A (.lst acc), F0, F2, ρw, ds[i], ρ1, rw2, rx, eg, fun σ3 re3 l3 k3 => ⟨?_, ?_⟩⟩
          · have e1 : wipe σ3 own = wipe (wipe σ own) own := wipe_eq own l3 fun j hj => k3 j fun z => hj (hsub j z)
            rw [e1]
            exact wipe_eq own (wipe_length ..) fun j hj => wipe_keep hj
          · refine ⟨upd H0 A (.lst acc), F0, F2, ρ1, re3, ?_⟩
            cases et : mt ρ1 with
            | exc x => rw [et] at er; cases er
            | bad => rw [et] at er; cases er
            | ok b =>
              rw [et] at er
              intro F4 H4 g4
              obtain ⟨G4, rfl, gA4, gg4⟩ := Gr.cut gA2 gg2.fh g4
              cases b with
              | false =>
                rw [if_neg Bool.false_ne_true]
                exact ⟨by omega, F4, G4, acc, ys, rest, rfl, gA4, gr12.trans gg4, ra.mono (gg2.ff.trans gg4.ff), er, ex⟩
              | true =>
                rw [if_pos rfl]
                dsimp only at er
                refine ⟨upd H0 A (.lst acc), F0, F4, ρ1, re3.grow g4, ?_⟩
                cases ei : mi1 ρ1 with
                | exc x => rw [ei] at er; cases er
                | bad => rw [ei] at er; cases er
                | ok ds1 =>
                  rw [ei] at er
                  dsimp only at er
                  intro F5 H5 g5 J1 wk1
                  obtain ⟨G5, rfl, gA5, gg5⟩ := Gr.cut gA4 gg4.fh g5
                  generalize hρ1 : wipeR ρ1 own1 = ρv at er
                  cases el1 : lcL ρv g1 mt1 me ds1 with
                  | exc x => rw [el1] at er; cases er
                  | bad => rw [el1] at er; cases er
                  | ok zs =>
                    rw [el1] at er
                    dsimp only at er
                    cases e9 : lc2L own1 ρw g mt mi1 g1 mt1 me (ds.drop (i + 1)) with
                    | exc x => rw [e9] at er; cases er
                    | bad => rw [e9] at er; cases er
                    | ok r2 =>
                      rw [e9] at er
                      have er : R.ok (zs ++ r2) = R.ok rest := er
                      cases er
                      have gr5 := (gr12.trans gg4).trans gg5
                      have ra5 := ra.mono ((gg2.ff.trans gg4.ff).trans gg5.ff)
                      have hh : RE K (upd H0 A (.lst acc)) F0 F5 (upd G5 A (.lst acc)) ρv (wipe σ3 own1) := by rw [← hρ1]; exact ((re3.grow g4).grow g5).wiped own1
                      have f5 : F5 A = none := gg5.fh.free gA5
                      have rev : ∀ {F' G : Hp}, Gr F5 G5 F' G → ∀ acc', G A = none → RE K (upd H0 A (.lst acc')) F0 F' (upd G A (.lst acc')) ρv (wipe σ3 own1) := fun {F' G} gr' acc' gA' => by
                        have h6 : RE K (upd H0 A (.lst acc')) F0 F5 (upd G5 A (.lst acc')) ρv (wipe σ3 own1) := hh.retuck f5
                        refine h6.grow ⟨fun b x e => ?_, gr'.ff, fun b x e => ?_, fun b x e => ?_⟩
                        · by_cases hb : b = A
                          · subst hb; rw [upd_same] at e ⊢; exact e
                          · rw [upd_ne hb] at e ⊢; exact gr'.hh _ _ e
                        · have hb := ne_of_none e (gr'.fh.free gA'); rw [upd_ne hb]; exact gr'.fh _ _ e
                        · have hb := ne_of_none e (gr'.fh.free gA'); rw [upd_ne hb]; exact gr'.new _ _ e
                      refine ⟨fun j n H' => n = ds1.length - j ∧ j ≤ ds1.length ∧ ∃ F' G acc1 ys1 rest1, H' = upd G A (.lst acc1) ∧ G A = none ∧ Gr F5 G5 F' G ∧ RpA K F' acc1 ys1 ∧ lcL ρv g1 mt1 me (ds1.drop j) = .ok rest1 ∧ ys1 ++ rest1 = ys ++ zs,
                        ⟨ds1.length, by simp, Nat.zero_le _, F5, G5, acc, ys, zs, rfl, gA5, Gr.refl gg5.fh, ra5, by rw [List.drop_zero]; exact el1, rfl⟩, ?_⟩
                      rintro j n H' ⟨rfl, hj, F', G, acc1, ys1, rest1, rfl, gA', gr', ra1, er1, ex1⟩
                      have sG1 : Same F' (upd G A (.lst acc1)) := gr'.fh.trans (VL.Same.upd gA')
                      by_cases hlt1 : j < ds1.length
                      · refine .inr ⟨wk1.go F' _ j gr'.ff sG1 hlt1, fun H' => j + 1 ≤ ds1.length ∧ ∃ F' G acc1 ys1 rest1, H' = upd G A (.lst acc1) ∧ G A = none ∧ Gr F5 G5 F' G ∧ RpA K F' acc1 ys1 ∧ lcL ρv g1 mt1 me (ds1.drop (j + 1)) = .ok rest1 ∧ ys1 ++ rest1 = ys ++ zs,
                          fun H' ⟨h1, h2⟩ => ⟨ds1.length - (j + 1), by omega, rfl, h1, h2⟩, fun x1 H1' y1 => ?_⟩
                        obtain ⟨F6, gr6, rx1⟩ := wk1.yld F' _ j ds1[j] x1 H1' gr'.ff sG1 (by simp [hlt1]) y1
                        obtain ⟨G6, rfl, gA6, gg6⟩ := Gr.cut gA' gr'.fh gr6
                        have gr56 := gr'.trans gg6
                        rw [List.drop_eq_getElem_cons hlt1] at er1
                        have er1 : (match g1 ds1[j] ρv with
                          | none => R.bad
                          | some ρ1 => match mt1 ρ1 with
                            | .ok true => match me ρ1 with
                              | .ok x => (lcL ρv g1 mt1 me (ds1.drop (j + 1))).bind fun xs => .ok (x :: xs)
                              | _ => .bad
                            | .ok false => lcL ρv g1 mt1 me (ds1.drop (j + 1))
                            | _ => .bad) = R.ok rest1 := er1
                        cases eg1 : g1 ds1[j] ρv with
                        | none => rw [eg1] at er1; cases er1
                        | some ρ2 =>
                          rw [eg1] at er1
                          dsimp only at er1
                          refine ⟨upd H0 A (.lst acc1), F0, F6, ρv, ds1[j], ρ2, rev gr56 acc1 gA6, rx1, eg1, fun σ4 re4 l4 k4 => ⟨?_, ?_⟩⟩
                          · have e1 : wipe σ4 own1 = wipe (wipe σ3 own1) own1 := wipe_eq own1 l4 fun j hj => k4 j fun z => hj (hsub1 j z)
                            rw [e1]
                            exact wipe_eq own1 (wipe_length ..) fun j hj => wipe_keep hj
                          · refine ⟨upd H0 A (.lst acc1), F0, F6, ρ2, re4, ?_⟩
                            cases et1 : mt1 ρ2 with
                            | exc x => rw [et1] at er1; cases er1
                            | bad => rw [et1] at er1; cases er1
                            | ok b =>
                              rw [et1] at er1
                              intro F7 H7 g7
                              obtain ⟨G7, rfl, gA7, gg7⟩ := Gr.cut gA6 gg6.fh g7
                              cases b with
                              | false =>
                                rw [if_neg Bool.false_ne_true]
                                exact ⟨by omega, F7, G7, acc1, ys1, rest1, rfl, gA7, gr56.trans gg7, ra1.mono (gg6.ff.trans gg7.ff), er1, ex1⟩
                              | true =>
                                rw [if_pos rfl]
                                dsimp only at er1
                                refine ⟨upd H0 A (.lst acc1), F0, F7, ρ2, re4.grow g7, ?_⟩
                                cases ee : me ρ2 with
                                | exc x => rw [ee] at er1; cases er1
                                | bad => rw [ee] at er1; cases er1
                                | ok d =>
                                  rw [ee] at er1
                                  dsimp only at er1
                                  intro F8 H8 g8 v rv
                                  obtain ⟨G8, rfl, gA8, gg8⟩ := Gr.cut gA7 gg7.fh g8
                                  cases e10 : lcL ρv g1 mt1 me (ds1.drop (j + 1)) with
                                  | exc x => rw [e10] at er1; cases er1
                                  | bad => rw [e10] at er1; cases er1
                                  | ok r3 =>
                                    rw [e10] at er1
                                    have er1 : R.ok (d :: r3) = R.ok rest1 := er1
                                    cases er1
                                    refine ⟨acc1, upd_same, ?_, by omega, F8, G8, acc1 ++ [v], ys1 ++ [d], r3, by rw [upd_upd], gA8, (gr56.trans gg7).trans gg8, (ra1.mono ((gg6.ff.trans gg7.ff).trans gg8.ff)).append (.cons rv .nil), rfl, by rw [← ex1, List.append_assoc]; rfl⟩
                                    have l1 : acc1.length = ys1.length := ra1.length
                                    have l2 : xs.length = (ys ++ (zs ++ r2)).length := by rw [← ex]
                                    have l3 := congrArg List.length ex1
                                    simp only [List.length_append, List.length_cons] at l2 l3
                                    rw [sizeLine_eq]
                                    omega
                      · have e : j = ds1.length := by omega
                        subst e
                        refine .inl ⟨wk1.stop F' _ _ gr'.ff sG1 (Nat.le_refl _), by omega, F', G, acc1, ys1, r2, rfl, gA', gr5.trans gr', ra1, rfl, ?_⟩
                        rw [List.drop_length] at er1
                        cases er1
                        rw [List.append_nil] at ex1
                        rw [ex1, List.append_assoc]; exact ex
      · have e : i = ds.length := by omega
        subst e
        refine .inl ⟨wk.stop F' _ _ gr.ff sG (Nat.le_refl _), ?_⟩
        rw [List.drop_length] at er
        cases er
        rw [List.append_nil] at ex
        subst ex
        exact k F' G gr A acc gA ra
    · rw [if_neg hz] at k; exact k.elim
/-- [elt for tg in iter if .. for tg1 in iter1 if ..] -/
theorem v_lc2 {elt tg iter tg1 iter1 : Expr} {ifs ifs1 : List Expr} {scope : Scope} {own : List (Str × Nat)} {is is1 vs1 : List Nat} {mi mi1 : LM} {g g1 : GM} {mt mt1 : BM} {me : EM} (hc : X.calm = true) (hN : X.N.Nodup) (hi : VI X W tg iter mi) (ok : BlkOk X.N X.env.scope scope own) (hv : ∀ i ∈ vs1, i ∈ own.map (·.2)) (hsub : ∀ i ∈ is, i ∈ own.map (·.2)) (hsub1 : ∀ i ∈ is1, i ∈ vs1)
    (hg : ∀ (s : Shared) (H : Hp) (C : Addr) (cl : List (Str × Addr)) (fp : List Addr), VGc (X.blk s H scope (compEnvC scope cl C X.env) fp) is tg g)
    (ht : ∀ (s : Shared) (H : Hp) (C : Addr) (cl : List (Str × Addr)) (fp : List Addr), VTs (X.blk s H scope (compEnvC scope cl C X.env) fp) W0 ifs mt)
    (hi1 : ∀ (s : Shared) (H : Hp) (C : Addr) (cl : List (Str × Addr)) (fp : List Addr), VI (X.blk s H scope (compEnvC scope cl C X.env) fp) W0 tg1 iter1 mi1)
    (hg1 : ∀ (s : Shared) (H : Hp) (C : Addr) (cl : List (Str × Addr)) (fp : List Addr), VGc (X.blk s H scope (compEnvC scope cl C X.env) fp) is1 tg1 g1)
    (ht1 : ∀ (s : Shared) (H : Hp) (C : Addr) (cl : List (Str × Addr)) (fp : List Addr), VTs (X.blk s H scope (compEnvC scope cl C X.env) fp) W0 ifs1 mt1)
    (he : ∀ (s : Shared) (H : Hp) (C : Addr) (cl : List (Str × Addr)) (fp : List Addr), VE (X.blk s H scope (compEnvC scope cl C X.env) fp) W0 elt me) (hs : ∀ x, foldedSetIterable iter X.env x = pure x := by intro _; rfl) (hs1 : ∀ env x, foldedSetIterable iter1 env x = pure x := by intro _ _; rfl) :
    VF X W (.ListComp elt [⟨tg, iter, ifs, 0⟩, ⟨tg1, iter1, ifs1, 0⟩] scope pos) (lc2M (own.map (·.2)) vs1 mi g mt mi1 g1 mt1 me) := peW (pe_lc2 hc hN hi ok hv hg ht hi1 hg1 ht1 he hs hs1) (t_lc2 hsub hsub1)
theorem vs_setLc2 {i : Nat} {y : Str} {py spos : Pos} {elt tg iter tg1 iter1 : Expr} {ifs ifs1 : List Expr} {scope : Scope} {own : List (Str × Nat)} {is is1 vs1 : List Nat} {mi mi1 : LM} {g g1 : GM} {mt mt1 : BM} {me : EM} (hc : X.calm = true) (hN : X.N.Nodup) (hy : X.N[i]? = some y) (hyl : X.env.scope.names.lookup y = some .local)
    (hsw : swapsWith (.ListComp elt [⟨tg, iter, ifs, 0⟩, ⟨tg1, iter1, ifs1, 0⟩] scope pos) (some (.Name y py)) spos.line X.env = pure true)
    (hi : VI X W tg iter mi) (ok : BlkOk X.N X.env.scope scope own) (hv : ∀ i ∈ vs1, i ∈ own.map (·.2)) (hsub : ∀ i ∈ is, i ∈ own.map (·.2)) (hsub1 : ∀ i ∈ is1, i ∈ vs1)
    (hg : ∀ (s : Shared) (H : Hp) (C : Addr) (cl : List (Str × Addr)) (fp : List Addr), VGc (X.blk s H scope (compEnvC scope cl C X.env) fp) is tg g)
    (ht : ∀ (s : Shared) (H : Hp) (C : Addr) (cl : List (Str × Addr)) (fp : List Addr), VTs (X.blk s H scope (compEnvC scope cl C X.env) fp) W0 ifs mt)
    (hi1 : ∀ (s : Shared) (H : Hp) (C : Addr) (cl : List (Str × Addr)) (fp : List Addr), VI (X.blk s H scope (compEnvC scope cl C X.env) fp) W0 tg1 iter1 mi1)
    (hg1 : ∀ (s : Shared) (H : Hp) (C : Addr) (cl : List (Str × Addr)) (fp : List Addr), VGc (X.blk s H scope (compEnvC scope cl C X.env) fp) is1 tg1 g1)
    (ht1 : ∀ (s : Shared) (H : Hp) (C : Addr) (cl : List (Str × Addr)) (fp : List Addr), VTs (X.blk s H scope (compEnvC scope cl C X.env) fp) W0 ifs1 mt1)
    (he : ∀ (s : Shared) (H : Hp) (C : Addr) (cl : List (Str × Addr)) (fp : List Addr), VE (X.blk s H scope (compEnvC scope cl C X.env) fp) W0 elt me) (hs : ∀ x, foldedSetIterable iter X.env x = pure x := by intro _; rfl) (hs1 : ∀ env x, foldedSetIterable iter1 env x = pure x := by intro _ _; rfl) :
    VS X W (.Assign [.Name y py] (.ListComp elt [⟨tg, iter, ifs, 0⟩, ⟨tg1, iter1, ifs1, 0⟩] scope pos) spos) (setLM i (lc2M (own.map (·.2)) vs1 mi g mt mi1 g1 mt1 me)) := psW (ps_setLc2 hc hN hy hyl hsw hi ok hv hg ht hi1 hg1 ht1 he hs hs1) fun Dn σ H ⟨H0, F0, F, ρ, re, q⟩ =>
  t_lc2 hsub hsub1 σ H _ ⟨H0, F0, F, ρ, re, (OkOut.rk q re).imp fun ds F' H' g k a vs hn r => by
    have re' := re.grow g
    exact k F' _ _ (re'.setN hn ⟨a, vs, rfl, upd_same, r, re'.sub.free hn, re'.same.free hn⟩) (Same.refl _)⟩
theorem vs_setLc2E {i : Nat} {y : Str} {py spos : Pos} {elt tg iter tg1 iter1 : Expr} {ifs ifs1 : List Expr} {scope : Scope} {own : List (Str × Nat)} {is is1 vs1 : List Nat} {mi mi1 : LM} {g g1 : GM} {mt mt1 : BM} {me : EM} (hc : X.calm = true) (hN : X.N.Nodup) (hy : X.N[i]? = some y) (hyl : X.env.scope.names.lookup y = some .local)
    (hsw : swapsWith (.ListComp elt [⟨tg, iter, ifs, 0⟩, ⟨tg1, iter1, ifs1, 0⟩] scope pos) (some (.Name y py)) spos.line X.env = pure true)
    (hi : VI X W tg iter mi) (ok : BlkOk X.N X.env.scope scope own) (hv : ∀ i ∈ vs1, i ∈ own.map (·.2)) (hsub : ∀ i ∈ is, i ∈ own.map (·.2)) (hsub1 : ∀ i ∈ is1, i ∈ vs1)
    (hg : ∀ (s : Shared) (H : Hp) (C : Addr) (cl : List (Str × Addr)) (fp : List Addr), VGc (X.blk s H scope (compEnvC scope cl C X.env) fp) is tg g)
    (ht : ∀ (s : Shared) (H : Hp) (C : Addr) (cl : List (Str × Addr)) (fp : List Addr), VTs (X.blk s H scope (compEnvC scope cl C X.env) fp) W0 ifs mt)
    (hi1 : ∀ (s : Shared) (H : Hp) (C : Addr) (cl : List (Str × Addr)) (fp : List Addr), VI (X.blk s H scope (compEnvC scope cl C X.env) fp) W0 tg1 iter1 mi1)
    (hg1 : ∀ (s : Shared) (H : Hp) (C : Addr) (cl : List (Str × Addr)) (fp : List Addr), VGc (X.blk s H scope (compEnvC scope cl C X.env) fp) is1 tg1 g1)
    (ht1 : ∀ (s : Shared) (H : Hp) (C : Addr) (cl : List (Str × Addr)) (fp : List Addr), VTs (X.blk s H scope (compEnvC scope cl C X.env) fp) W0 ifs1 mt1)
    (he : ∀ (s : Shared) (H : Hp) (C : Addr) (cl : List (Str × Addr)) (fp : List Addr), VE (X.blk s H scope (compEnvC scope cl C X.env) fp) W0 elt me) (hs : ∀ x, foldedSetIterable iter X.env x = pure x := by intro _; rfl) (hs1 : ∀ env x, foldedSetIterable iter1 env x = pure x := by intro _ _; rfl) :
    VS X W (.Assign [.Name y py] (.ListComp elt [⟨tg, iter, ifs, 0⟩, ⟨tg1, iter1, ifs1, 0⟩] scope pos) spos) (setM i (toEM (lc2M (own.map (·.2)) vs1 mi g mt mi1 g1 mt1 me))) := psW (ps_setLc2 hc hN hy hyl hsw hi ok hv hg ht hi1 hg1 ht1 he hs hs1) fun Dn σ H ⟨H0, F0, F, ρ, re, q⟩ =>
  t_lc2 hsub hsub1 σ H _ ⟨H0, F0, F, ρ, re, (Rk.bind (OkOut.rk q re)).imp fun ds F' H' g k a vs hn r => by
    have g2 : Gr F' H' (upd F' a (.lst vs)) (upd H' a (.lst vs)) := Gr.alloc g.fh _ hn
    exact k _ _ g2 _ _ _ (((re.grow g).grow g2).setF (.lst (.of upd_same) (r.mono g2.ff))) (Same.refl _)⟩
end
end L2.VL

set_option Elab.async false
set_option linter.all false
set_option autoImplicit false
set_option maxRecDepth 100000
set_option maxHeartbeats 4000000
/-! VL12: the law's end -/
namespace L2.VL
open PySem PySem.Spec PyProof.Rows
def spLaw (K : PySem.W.Frag) : Sp := fun vs H Q E => ∃ (a : Addr) (ns : List Int), vs = [V.ref a] ∧ SqL K H a (ns.map V.int) ∧ ns.length ≤ 63 ∧ ∀ v H', v = V.bl true → Q v H'
theorem no_cx {P : Program} {w : World} {H : Hp} {s : Shared} {e : Value} {s' : Shared} (h : L2.CX P w [] H s (fun _ _ _ => False) e s') : False := by
  obtain ⟨_, _, _, _, _, _, _, _, _, _, _, _, h⟩ := h
  exact h
theorem fin_law {P : Program} {w : World} {K : PySem.W.Frag} {mg : Str → Option Value} {base : Heap} {CX : L2.CXT} {k : Nat} {f : Addr} {fd : FuncData} {ps : List Str} {m : List D → R D} (G : FnOk P w K mg base CX k f fd ps (spP K mg 1 m))
    (h : ∀ ns : List Int, ns.length ≤ 63 → m [.list (ns.map .int)] = .ok (.bool true)) : FnOk P w K mg base CX k f fd ps (spLaw K) := G.imp fun vs H Q E ⟨a, ns, ev, sq, hl, q⟩ => by
  subst ev
  refine ⟨rfl, H, [.list (ns.map .int)], Same.refl _, .cons (.lst sq (RpA.ofInts ns)) .nil, ?_⟩
  rw [h ns hl]
  intro F' H' v g r
  cases r
  exact q _ _ rfl
theorem fin_mk {P : Program} {w : World} {K : PySem.W.Frag} {mg : Str → Option Value} {CX : CXT} {k : Nat} {fa : Addr} {ps : List Str} {x : Str} {m : List D → R D} (h : ∀ ns : List Int, ns.length ≤ 63 → m [.list (ns.map .int)] = .ok (.bool true))
    (a : ∃ fd : FuncData, (∀ (s : Shared) (v : Value), BindsTo s fd ⟨[v], []⟩ [(x, v)]) ∧ ∀ base : Heap, K.In base → base.Ns mainGlobals mg → FnOk P w K mg base CX k fa fd ps (spP K mg 1 m)) :
    ∃ fd : FuncData, (∀ (s : Shared) (v : Value), BindsTo s fd ⟨[v], []⟩ [(x, v)]) ∧ ∀ base : Heap, K.In base → base.Ns mainGlobals mg → FnOk P w K mg base CX k fa fd ps (spLaw K) :=
  let ⟨fd, b, g⟩ := a
  ⟨fd, b, fun base h1 h2 => fin_law (g base h1 h2) h⟩
/-- the end, with what the top has reckoned -/
theorem walk_ofL {l : PySem.W.OpenLaw} {n k : Nat} {q : Program} {loose : List Str} {XP : (Str → Option Value) → Heap → Prop} {YP : World → Heap → Prop} {d : DefRec} {K : Params → PySem.W.Frag} {CX : World → CXT} {sp : World → Sp} {x : Str}
    (hn : l.most = some n) (hn2 : n ≤ sizeLine) (hdf : d.params.defaults = []) (hr : Room k callerA)
    (hY : ∀ (w : World) (h : Heap), YP w h → (K w.params).In h)
    (F : ∀ (w : World) (mg : Str → Option Value) (fa : Addr) (h : Heap), (K w.params).In h → h.Ns mainGlobals mg → XP mg h → mg d.name = some (.ref fa) →
      ∃ fd : FuncData, (∀ (s : Shared) (u : Value), BindsTo s fd ⟨[u], []⟩ [(x, u)]) ∧ ∀ base : Heap, (K w.params).In base → base.Ns mainGlobals mg → FnOk l.prog w (K w.params) mg base (CX w) k fa fd [x] (sp w))
    (hsp : ∀ (w : World) (H : Hp) (a : Addr) (ns : List Int), ns.length ≤ n → Only H → SqL (K w.params) H a (ns.map V.int) → sp w [.ref a] H (fun v _ => v = .bl true) fun _ _ _ => False)
    (hCX : ∀ (w : World) (H : Hp) (s : Shared) (e : Value) (s' : Shared), CX w [] H s (fun _ _ _ => False) e s' → False) :
    PySem.W.WalkO q loose XP YP l.row.toRowW d [] (fun f vs => PySem.call f vs) := by
  refine Att.attach_call hn hdf fun w s₀ s₁ mg mb fa o pm cd doc a vs ns G Y ho hd hcd hmg hobj hints hlen hg => ?_
  obtain ⟨fd, hb, hF⟩ := F w mg fa _ (hY w _ Y) G.T.g G.X hmg
  exact law_call (hY w _ Y) G.T.g G.T.b G.T.builtins G.T.nolimit hg hobj hints (Nat.le_trans hlen hn2) hr hF hb (fun H hO hS => hsp w H a ns hlen hO hS) fun H e s' => hCX w H s₁ e s'
theorem gc_loose {K : PySem.W.Frag} {p : Program} {lv : List (Str × PySem.W.WData)} {mg : Str → Option Value} {h : Heap} {x : Str} {i : Int} (X : PySem.W.XL p lv mg h) (hx : (x, PySem.W.WData.int i) ∈ lv) : ∃ u v, mg x = some u ∧ RelV v u ∧ ∀ F, Rp K F v (.int i) := by
  obtain ⟨v, e, r⟩ := X.2.val _ hx
  cases r with
  | int _ t => exact ⟨_, .int i, e, ⟨t, rfl⟩, fun _ => .int i⟩
end L2.VL

set_option Elab.async false
set_option linter.all false
set_option autoImplicit false
set_option maxRecDepth 100000
set_option maxHeartbeats 4000000
/-! VL13: x.setdefault(k, []).append(e) in a loop: a dict of lists -/
namespace L2.VL
open PySem PySem.Spec PyProof.Rows
/-- nothing of one's own -/
abbrev REp (K : PySem.W.Frag) (F H : Hp) (ρ : Rho) (σ : St) : Prop := RE K H F F H ρ σ
theorem REp.fz {K : PySem.W.Frag} {F H : Hp} {ρ : Rho} {σ : St} (r : REp K F H ρ σ) {i : Nat} {s : Sl} (e : ρ[i]? = some (some s)) : s.own = false := by
  cases h : s.own with
  | false => rfl
  | true =>
    obtain ⟨v, _, q⟩ := r.ok i s e
    obtain ⟨a, u, _, q1, _, q2⟩ := q.own h
    rw [q1] at q2; cases q2
theorem REp.mk' {K : PySem.W.Frag} {H0 F0 F H : Hp} {ρ : Rho} {σ : St} (r : RE K H0 F0 F H ρ σ) (h : ∀ (i : Nat) (s : Sl), ρ[i]? = some (some s) → s.own = false) : REp K F H ρ σ := by
  refine ⟨Same.refl _, r.sub, Same.refl _, fun _ _ e => .inl e, r.len, fun i s e => ?_, fun i j s t a e1 e2 => ?_⟩
  · obtain ⟨v, q1, q2⟩ := r.ok i s e
    refine ⟨v, q1, ?_⟩
    cases s with
    | fz d => exact q2
    | _ => cases h i _ e
  · rw [h i s e1] at e2; cases e2
theorem REp.grow {K : PySem.W.Frag} {F H F' H' : Hp} {ρ : Rho} {σ : St} (r : REp K F H ρ σ) (g : Gr F H F' H') : REp K F' H' ρ σ := REp.mk' (RE.grow r g) fun _ _ e => r.fz e
theorem REp.write {K : PySem.W.Frag} {F H : Hp} {ρ : Rho} {σ : St} (r : REp K F H ρ σ) {p : Addr} (o : HO) (f : F p = none) : REp K F (upd H p o) ρ σ := by
  refine ⟨Same.refl _, fun b x e => by rw [upd_ne (ne_of_none e f)]; exact r.sub _ _ e, Same.refl _, fun _ _ e => .inl e, r.len, fun i s e => ?_, fun i j s t a e1 e2 => ?_⟩
  · obtain ⟨v, q1, q2⟩ := r.ok i s e
    refine ⟨v, q1, ?_⟩
    have := r.fz e
    cases s with
    | fz d => exact q2
    | _ => cases this
  · rw [r.fz e1] at e2; cases e2

structure GE where
  k : Key
  b : Addr
  vs : List V
  ds : List D
def wsOf (gs : List GE) : List (Key × V) := gs.map fun e => (e.k, V.ref e.b)
def gsD (gs : List GE) : List (D × List D) := gs.map fun e => (kD e.k, e.ds)
def addG : List (D × List D) → D → D → List (D × List D)
  | [], k, e => [(k, [e])]
  | (k', ds) :: r, k, e => if PyData.eqv k' k = true then (k', ds ++ [e]) :: r else (k', ds) :: addG r k e
theorem addG_cases (k : Key) (d : D) : ∀ gs : List GE,
    (∃ pre e post, gs = pre ++ e :: post ∧ e.k = k ∧ valV (wsOf gs) k = some (.ref e.b) ∧ addG (gsD gs) (kD k) d = gsD pre ++ (kD e.k, e.ds ++ [d]) :: gsD post) ∨
    (valV (wsOf gs) k = none ∧ addG (gsD gs) (kD k) d = gsD gs ++ [(kD k, [d])])
  | [] => .inr ⟨rfl, rfl⟩
  | e :: gs => by
    have ea : addG (gsD (e :: gs)) (kD k) d = if PyData.eqv (kD e.k) (kD k) = true then (kD e.k, e.ds ++ [d]) :: gsD gs else (kD e.k, e.ds) :: addG (gsD gs) (kD k) d := rfl
    rw [eqv_kD] at ea
    by_cases h : e.k = k
    · rw [if_pos (decide_eq_true h)] at ea
      exact .inl ⟨[], e, gs, rfl, h, valV_pos h, ea⟩
    · rw [if_neg (by simpa using h)] at ea
      have ev : valV (wsOf (e :: gs)) k = valV (wsOf gs) k := valV_neg (p := (e.k, V.ref e.b)) h
      rcases addG_cases k d gs with ⟨pre, e', post, h1, h2, h3, h4⟩ | ⟨h1, h2⟩
      · exact .inl ⟨e :: pre, e', post, by rw [h1]; rfl, h2, by rw [ev]; exact h3, by rw [ea, h4]; rfl⟩
      · exact .inr ⟨by rw [ev]; exact h1, by rw [ea, h2]; rfl⟩
def grpL (i : Nat) (g : GM) (mk me : EM) : List D → Rho → List (D × List D) → Out
  | [], ρ, gs => .nx (ρ.set i (some (.oK (gs.map fun p => (p.1, .list p.2)))))
  | d :: ds, ρ, gs => match g d ρ with
    | none => .bad
    | some ρ1 => match mk ρ1 with
      | .ok k => match me ρ1 with
        | .ok e => if isKey k = true ∧ gs.length < 16777216 ∧ (gs.all fun p => decide (p.2.length < 16777216)) = true then grpL i g mk me ds ρ1 (addG gs k e) else .bad
        | _ => .bad
      | _ => .bad
def loneR (ρ : Rho) : Bool := ρ.all fun o => match o with
  | some s => !s.own
  | none => true
theorem loneR_ok {ρ : Rho} (h : loneR ρ = true) {i : Nat} {s : Sl} (e : ρ[i]? = some (some s)) : s.own = false := by
  have := List.all_eq_true.mp h _ (List.mem_of_getElem? e)
  cases z : s.own with
  | false => rfl
  | true => rw [show (match (some s : Option Sl) with | some s => !s.own | none => true) = !s.own from rfl, z] at this; cases this
def groupM (i : Nat) (mi : LM) (g : GM) (mk me : EM) : SM := fun ρ => match ρ[i]? with
  | some (some (.oK [])) => if loneR (ρ.set i none) = true then (mi ρ).out ρ fun ds => grpL i g mk me ds (ρ.set i none) [] else .bad
  | _ => .bad
structure GrpI (K : PySem.W.Frag) (i : Nat) (a : Addr) (F1 H1 F' H' : Hp) (ρ' : Rho) (σ' : St) (gs : List GE) : Prop where
  re : REp K F' H' ρ' σ'
  slot : σ'[i]? = some (some (V.ref a))
  non : ρ'[i]? = some none
  dict : H' a = some (.dK (wsOf gs))
  fa : F' a = none
  cells : ∀ e ∈ gs, H' e.b = some (.lst e.vs) ∧ RpA K F' e.vs e.ds ∧ F' e.b = none ∧ H1 e.b = none
  nodup : (gs.map (·.b)).Nodup
  ext : Same F1 F'
  kept : ∀ c o, c ≠ a → H1 c = some o → H' c = some o
  new : ∀ c o, F' c = some o → F1 c = some o ∨ H1 c = none
theorem GrpI.grow {K : PySem.W.Frag} {i : Nat} {a : Addr} {F1 H1 F' H' F2 H2 : Hp} {ρ' : Rho} {σ' : St} {gs : List GE} (I : GrpI K i a F1 H1 F' H' ρ' σ' gs) (g : Gr F' H' F2 H2) (ha : (H1 a).isSome = true) : GrpI K i a F1 H1 F2 H2 ρ' σ' gs := by
  have f2 : ∀ {c o}, F' c = none → H' c = some o → F2 c = none := fun {c o} h1 h2 => by
    cases z : F2 c with
    | none => rfl
    | some u =>
      rcases g.new c u z with y | y
      · rw [h1] at y; cases y
      · rw [h2] at y; cases y
  refine ⟨I.re.grow g, I.slot, I.non, g.hh _ _ I.dict, f2 I.fa I.dict, fun e he => ?_, I.nodup, I.ext.trans g.ff, fun c o h1 h2 => g.hh _ _ (I.kept c o h1 h2), fun c o e => ?_⟩
  · obtain ⟨h1, h2, h3, h4⟩ := I.cells e he
    exact ⟨g.hh _ _ h1, h2.mono g.ff, f2 h3 h1, h4⟩
  · rcases g.new c o e with y | y
    · exact I.new c o y
    · by_cases hc : c = a
      · subst hc; rw [I.dict] at y; cases y
      · refine .inr ?_
        cases z : H1 c with
        | none => rfl
        | some u => rw [I.kept c u hc z] at y; cases y
section
variable {X : Cx} {W : WX} {pos ep : Pos} {c : Expr}
theorem vs_group {i : Nat} {is : List Nat} {tg iter : Expr} {mi : LM} {g : GM} {mk me : EM} (hp : PassesOwn (model X.prog X.w) X.A X.env X.xe) (hc : X.calm = true) (hi : VI X W tg iter mi) (hg : VGc X is tg g) (hii : i ∉ is) (hgi : ∀ d ρ ρ1, g d ρ = some ρ1 → ρ[i]? = some none → ρ1[i]? = some none)
    (hcall : PE X c (tBM X.K "list" rAppend (tDSetd (tVar i) (tE X.K X.mg W mk) (tLst tNil)) (tCons (tE X.K X.mg W me) tNil))) (hsw : swapsWith c none ep.line X.env = pure false := by rfl)
    (hs : ∀ x, foldedSetIterable iter X.env x = pure x := by intro _; rfl) : VS X W (.For tg iter [.Expr c ep] [] pos) (groupM i mi g mk me) := psW (ps_for hp hc hi hg (pss_one (ps_expr hcall hsw)) hs) fun Dn σ H ⟨H0, F0, F, ρ, re, q⟩ => by
  unfold groupM at q
  split at q
  · rename_i eρ
    split at q
    · rename_i hl
      refine ⟨H0, F0, F, ρ, re, (OkOut.rk q re).imp fun ds F1 H1 g1 k J wk => ?_⟩
      have re1 := re.grow g1
      obtain ⟨v, q1, a, ws, rfl, q2, ⟨ds0, q3, q3'⟩, q4, q5⟩ := re1.ok i _ eρ
      have hws : ws = [] := by
        have := congrArg List.length q3'
        rw [List.length_zip, List.length_map, ← q3.length, List.length_map] at this
        cases ws with
        | nil => rfl
        | cons x r => exact absurd this (by show ¬ (0 = min (r.length + 1) (r.length + 1)); omega)
      subst hws
      have ha1 : (H1 a).isSome = true := by rw [q2]; rfl
      have hil : i < ρ.length := (List.getElem?_eq_some_iff.mp eρ).1
      have w0 : RE X.K H0 F0 F1 H1 (ρ.set i none) σ := re1.weak (by rw [List.length_set, re1.len]) (fun j s e => by
        by_cases hj : i = j
        · subst hj; rw [List.getElem?_set_self hil] at e; cases e
        · rw [List.getElem?_set_ne hj] at e; exact e) fun j s e => rfl
      have I0 : GrpI X.K i a F1 H1 F1 H1 (ρ.set i none) σ [] := ⟨REp.mk' w0 fun j s e => loneR_ok hl e, q1, List.getElem?_set_self hil, q2, q4, (fun e he => by cases he), List.nodup_nil, Same.refl _, fun _ _ _ e => e, fun _ _ e => .inl e⟩
      refine ⟨fun t n σ' H' => n = ds.length - t ∧ t ≤ ds.length ∧ ∃ F' ρ' gs, GrpI X.K i a F1 H1 F' H' ρ' σ' gs ∧ OkOut X.K X.mg W H0 F0 F' Dn (grpL i g mk me (ds.drop t) ρ' (gsD gs)),
        ⟨ds.length, by simp, Nat.zero_le _, F1, _, [], I0, by rw [List.drop_zero]; exact k⟩, ?_⟩
      rintro t n σ' H' ⟨rfl, ht, F', ρ', gs, I, k'⟩
      by_cases hlt : t < ds.length
      · refine .inr ⟨wk.go F' H' t I.ext I.re.sub hlt, fun σ2 H2 => ∃ F2 ρ2 gs2, GrpI X.K i a F1 H1 F2 H2 ρ2 σ2 gs2 ∧ OkOut X.K X.mg W H0 F0 F2 Dn (grpL i g mk me (ds.drop (t + 1)) ρ2 (gsD gs2)),
          fun σ2 H2 h => ⟨ds.length - (t + 1), by omega, rfl, hlt, h⟩, fun x H'' y => ?_⟩
        obtain ⟨F2, gr, rx⟩ := wk.yld F' H' t ds[t] x H'' I.ext I.re.sub (by simp [hlt]) y
        have I2 := I.grow gr ha1
        rw [List.drop_eq_getElem_cons hlt] at k'
        have k' : OkOut X.K X.mg W H0 F0 F' Dn (match g ds[t] ρ' with
          | none => .bad
          | some ρ1 => match mk ρ1 with
            | .ok k => match me ρ1 with
              | .ok e => if isKey k = true ∧ (gsD gs).length < 16777216 ∧ ((gsD gs).all fun p => decide (p.2.length < 16777216)) = true then grpL i g mk me (ds.drop (t + 1)) ρ1 (addG (gsD gs) k e) else .bad
              | _ => .bad
            | _ => .bad) := k'
        cases eg : g ds[t] ρ' with
        | none => rw [eg] at k'; exact k'.elim
        | some ρ1 =>
          rw [eg] at k'; dsimp only at k'
          cases ek : mk ρ1 with
          | exc e => rw [ek] at k'; exact k'.elim
          | bad => rw [ek] at k'; exact k'.elim
          | ok kd =>
            rw [ek] at k'; dsimp only at k'
            cases ee : me ρ1 with
            | exc e => rw [ee] at k'; exact k'.elim
            | bad => rw [ee] at k'; exact k'.elim
            | ok d =>
              rw [ee] at k'; dsimp only at k'
              by_cases hcond : isKey kd = true ∧ (gsD gs).length < 16777216 ∧ ((gsD gs).all fun p => decide (p.2.length < 16777216)) = true
              · rw [if_pos hcond] at k'
                obtain ⟨hk1, hk2, hk3⟩ := hcond
                obtain ⟨key, rfl⟩ := isKey_of hk1
                refine ⟨_, _, _, ρ', ds[t], ρ1, I2.re, rx, eg, fun σ3 re3 l3 k3 => ?_⟩
                have s3 : σ3[i]? = some (some (V.ref a)) := by rw [k3 i hii]; exact I2.slot
                have I3 : GrpI X.K i a F1 H1 F2 H'' ρ1 σ3 gs := { I2 with re := re3, slot := s3, non := hgi _ _ _ eg I2.non }
                refine ⟨.ref a, s3, a, rfl, .inl ⟨_, .of I3.dict⟩, _, _, _, ρ1, I3.re, ?_⟩
                rw [ek]
                intro F3 H3 g3 v rv
                have I4 := I3.grow g3 ha1
                refine ⟨Nat.zero_le _, fun p hp => ⟨wsOf gs, key, ?_, (show RpO X.K F3 H3 v (kD key) from .inl rv).key, ?_, fun v hv => ?_, fun hn => ?_⟩⟩
                · rw [upd_ne (ne_of_none I4.dict hp)]; exact I4.dict
                · rw [sizeLine_eq]; unfold wsOf; rw [List.length_map]; unfold gsD at hk2; rw [List.length_map] at hk2; exact hk2
                · -- the key is there
                  rcases addG_cases key d gs with ⟨pre, e, post, h1, h2, h3, h4⟩ | ⟨h1, h2⟩
                  · rw [h3] at hv; cases hv
                    have I5 := I4.grow (Gr.junk I4.re.sub (.lst []) hp) ha1
                    have he : e ∈ gs := by rw [h1]; simp
                    obtain ⟨c1, c2, c3, c4⟩ := I5.cells e he
                    refine ⟨.inl ⟨rfl, _, .of c1⟩, _, _, _, ρ1, I5.re, ?_⟩
                    rw [ee]
                    intro F6 H6 g6 y ry
                    have I6 := I5.grow g6 ha1
                    obtain ⟨c1, c2, c3, c4⟩ := I6.cells e he
                    refine ⟨e.b, e.vs, y, rfl, rfl, c1, ?_, F6, ρ1, pre ++ { e with vs := e.vs ++ [y], ds := e.ds ++ [d] } :: post, ?_, ?_⟩
                    · have := List.all_eq_true.mp hk3 (kD e.k, e.ds) (List.mem_map.mpr ⟨e, he, rfl⟩)
                      have := of_decide_eq_true this
                      rw [c2.length, sizeLine_eq]
                      exact this
                    · have hnd := I6.nodup
                      rw [h1, List.map_append, List.map_cons] at hnd
                      have hab : a ≠ e.b := ne_of_none (show H1 a = some _ from q2) c4
                      refine ⟨I6.re.write _ c3, I6.slot, I6.non, ?_, I6.fa, fun e' he' => ?_, ?_, I6.ext, fun c o h5 h6 => ?_, I6.new⟩
                      · rw [upd_ne hab, I6.dict, h1]
                        unfold wsOf
                        simp
                      · rcases List.mem_append.mp he' with hm | hm
                        · have hb : e'.b ≠ e.b := fun z => by
                            have := (List.nodup_append.mp hnd).2.2 e'.b (List.mem_map.mpr ⟨e', hm, rfl⟩) e.b List.mem_cons_self
                            exact this z
                          rw [upd_ne hb]
                          exact I6.cells e' (by rw [h1]; exact List.mem_append_left _ hm)
                        · rcases List.mem_cons.mp hm with rfl | hm
                          · exact ⟨upd_same, c2.append (.cons ry .nil), c3, c4⟩
                          · have hb : e'.b ≠ e.b := fun z => by
                              have := (List.nodup_cons.mp (List.nodup_append.mp hnd).2.1).1
                              exact this (List.mem_map.mpr ⟨e', hm, z⟩)
                            rw [upd_ne hb]
                            exact I6.cells e' (by rw [h1]; exact List.mem_append_right _ (List.mem_cons_of_mem _ hm))
                      · rw [List.map_append, List.map_cons]; exact hnd
                      · rw [upd_ne (ne_of_none h6 c4)]
                        exact I6.kept c o h5 h6
                    · rw [h4] at k'
                      have eg : gsD (pre ++ { e with vs := e.vs ++ [y], ds := e.ds ++ [d] } :: post) = gsD pre ++ (kD e.k, e.ds ++ [d]) :: gsD post := by
                        unfold gsD; simp
                      rw [eg]
                      exact k'.mono ((gr.ff.trans g3.ff).trans g6.ff)
                  · rw [h1] at hv; cases hv
                · -- a new key
                  rcases addG_cases key d gs with ⟨pre, e, post, h1, h2, h3, h4⟩ | ⟨h1, h2⟩
                  · rw [h3] at hn; cases hn
                  · have hap : a ≠ p := ne_of_none I4.dict hp
                    have hp1 : H1 p = none := by
                      cases z : H1 p with
                      | none => rfl
                      | some u => rw [I4.kept p u (fun z => hap z.symm) z] at hp; cases hp
                    have hpF : F3 p = none := I4.re.sub.free hp
                    have I5 : GrpI X.K i a F1 H1 F3 (upd (upd H3 p (.lst [])) a (.dK (putK (wsOf gs) key (.ref p)))) ρ1 σ3 (gs ++ [⟨key, p, [], []⟩]) := by
                      refine ⟨(I4.re.write _ hpF).write _ I4.fa, I4.slot, I4.non, ?_, I4.fa, fun e' he' => ?_, ?_, I4.ext, fun c o h5 h6 => ?_, I4.new⟩
                      · rw [upd_same, putK_new _ hn]; unfold wsOf; simp
                      · rcases List.mem_append.mp he' with hm | hm
                        · obtain ⟨c1, c2, c3, c4⟩ := I4.cells e' hm
                          refine ⟨?_, c2, c3, c4⟩
                          rw [upd_ne (fun z => ne_of_none (show H1 a = some _ from q2) c4 z.symm), upd_ne (ne_of_none c1 hp)]
                          exact c1
                        · cases List.mem_singleton.mp hm
                          refine ⟨?_, .nil, hpF, hp1⟩
                          show upd (upd H3 p (.lst [])) a _ p = _
                          rw [upd_ne (fun z => hap z.symm), upd_same]
                      · rw [List.map_append]
                        refine List.nodup_append.mpr ⟨I4.nodup, by simp, fun b hb b' hb' => ?_⟩
                        obtain ⟨e', he', rfl⟩ := List.mem_map.mp hb
                        have : b' = p := by simpa using hb'
                        subst this
                        exact ne_of_none (I4.cells e' he').1 hp
                      · rw [upd_ne h5, upd_ne (ne_of_none h6 hp1)]
                        exact I4.kept c o h5 h6
                    refine ⟨.inl ⟨rfl, [], .of (by rw [upd_ne (fun z => hap z.symm), upd_same])⟩, _, _, _, ρ1, I5.re, ?_⟩
                    rw [ee]
                    intro F6 H6 g6 y ry
                    have I6 := I5.grow g6 ha1
                    have hm0 : (⟨key, p, [], []⟩ : GE) ∈ gs ++ [⟨key, p, [], []⟩] := by simp
                    obtain ⟨c1, c2, c3, c4⟩ := I6.cells _ hm0
                    refine ⟨p, [], y, rfl, rfl, c1, by rw [sizeLine_eq]; decide, F6, ρ1, gs ++ [⟨key, p, [y], [d]⟩], ?_, ?_⟩
                    · have hnd := I6.nodup
                      rw [List.map_append] at hnd
                      refine ⟨I6.re.write _ c3, I6.slot, I6.non, ?_, I6.fa, fun e' he' => ?_, ?_, I6.ext, fun c o h5 h6 => ?_, I6.new⟩
                      · rw [upd_ne hap, I6.dict]; unfold wsOf; simp
                      · rcases List.mem_append.mp he' with hm | hm
                        · have hb : e'.b ≠ p := (List.nodup_append.mp hnd).2.2 e'.b (List.mem_map.mpr ⟨e', hm, rfl⟩) p (by simp)
                          rw [upd_ne hb]
                          exact I6.cells e' (List.mem_append_left _ hm)
                        · cases List.mem_singleton.mp hm
                          exact ⟨upd_same, .cons ry .nil, c3, c4⟩
                      · rw [List.map_append]; exact hnd
                      · rw [upd_ne (ne_of_none h6 hp1)]
                        exact I6.kept c o h5 h6
                    · rw [h2] at k'
                      have eg : gsD (gs ++ [⟨key, p, [y], [d]⟩]) = gsD gs ++ [(kD key, [d])] := by unfold gsD; simp
                      rw [eg]
                      exact k'.mono ((gr.ff.trans g3.ff).trans g6.ff)
              · rw [if_neg hcond] at k'; exact k'.elim
      · have e : t = ds.length := by omega
        subst e
        refine .inl ⟨wk.stop F' H' _ I.ext I.re.sub (Nat.le_refl _), ?_⟩
        rw [List.drop_length] at k'
        have k' : OkOut X.K X.mg W H0 F0 F' Dn (.nx (ρ'.set i (some (.oK ((gsD gs).map fun p => (p.1, .list p.2)))))) := k'
        -- the lists are frozen
        let Ff : Hp := fun c => if c ∈ gs.map (·.b) then H' c else F' c
        have Ff_in : ∀ {e : GE}, e ∈ gs → Ff e.b = some (.lst e.vs) := fun {e} he => by
          show (if e.b ∈ gs.map (·.b) then H' e.b else F' e.b) = _
          rw [if_pos (List.mem_map.mpr ⟨e, he, rfl⟩)]; exact (I.cells e he).1
        have Ff_ext : Same F' Ff := fun c o e => by
          show (if c ∈ gs.map (·.b) then H' c else F' c) = _
          split
          · exact I.re.sub _ _ e
          · exact e
        have hab : a ∉ gs.map (·.b) := fun z => by
          obtain ⟨e, he, rfl⟩ := List.mem_map.mp z
          rw [(I.cells e he).2.2.2] at q2; cases q2
        refine k' Ff H' σ' ?_ Ff_ext
        refine ⟨fun c o e => ?_, fun c o e => ?_, (re1.ext.trans I.ext).trans Ff_ext, fun c o e => ?_, ?_, fun j s e => ?_, fun j1 j2 s t b e1 e2 e3 e4 => ?_⟩
        · have hca : c ≠ a := fun z => by rw [z, q5] at e; cases e
          exact I.kept c o hca (re1.same _ _ e)
        · have e : (if c ∈ gs.map (·.b) then H' c else F' c) = some o := e
          split at e
          · exact e
          · exact I.re.sub _ _ e
        · have e : (if c ∈ gs.map (·.b) then H' c else F' c) = some o := e
          split at e
          · rename_i hm
            obtain ⟨e', he', rfl⟩ := List.mem_map.mp hm
            exact .inr (re1.same.free (I.cells e' he').2.2.2)
          · rcases I.new c o e with y | y
            · exact re1.new c o y
            · exact .inr (re1.same.free y)
        · rw [List.length_set]; exact I.re.len
        · by_cases hj : i = j
          · subst hj
            have hl' : i < ρ'.length := (List.getElem?_eq_some_iff.mp I.non).1
            rw [List.getElem?_set_self hl'] at e
            cases e
            refine ⟨_, I.slot, a, wsOf gs, rfl, I.dict, ⟨gs.map fun e => .list e.ds, ?_, ?_⟩, ?_, q5⟩
            · have : ∀ l : List GE, (∀ e ∈ l, e ∈ gs) → RpA X.K Ff ((wsOf l).map (·.2)) (l.map fun e => .list e.ds) := fun l => by
                induction l with
                | nil => exact fun _ => .nil
                | cons e r ih =>
                  intro hl
                  refine .cons (.lst (.inl (.of (Ff_in (hl e List.mem_cons_self)))) ((I.cells e (hl e List.mem_cons_self)).2.1.mono Ff_ext)) (ih fun e' he' => hl e' (List.mem_cons_of_mem _ he'))
              exact this gs fun _ h => h
            · unfold gsD wsOf
              rw [List.map_map, List.map_map, List.zip_map']
              rfl
            · show (if a ∈ gs.map (·.b) then H' a else F' a) = _
              rw [if_neg hab]; exact I.fa
          · rw [List.getElem?_set_ne hj] at e
            obtain ⟨v, y1, y2⟩ := I.re.ok j s e
            have := I.re.fz e
            refine ⟨v, y1, ?_⟩
            cases s with
            | fz d => exact Rp.mono Ff_ext y2
            | _ => cases this
        · by_cases h1 : i = j1
          · by_cases h2 : i = j2
            · exact fun _ _ => h1.symm.trans h2
            · rw [List.getElem?_set_ne h2] at e3
              rw [I.re.fz e3] at e4; cases e4
          · rw [List.getElem?_set_ne h1] at e1
            rw [I.re.fz e1] at e2; cases e2
    · exact q.elim
  · exact q.elim
end
/-! ### a dict of one's own is frozen -/
theorem RE.freezeK {K : PySem.W.Frag} {H0 F0 F H : Hp} {ρ : Rho} {σ : St} (r : RE K H0 F0 F H ρ σ) {i : Nat} {qs : List (D × D)} (e : ρ[i]? = some (some (.oK qs))) : ∃ F', Same F F' ∧ RE K H0 F0 F' H (ρ.set i (some (.fz (.dict qs)))) σ := by
  obtain ⟨v, q1, a, ws, rfl, q2, ⟨ds, q3, q3'⟩, q4, q5⟩ := r.ok i _ e
  have hl : i < ρ.length := (List.getElem?_eq_some_iff.mp e).1
  have hff : Same F (upd F a (.dK ws)) := VL.Same.upd q4
  refine ⟨upd F a (.dK ws), hff, r.same, fun b x eb => ?_, r.ext.trans hff, fun b x eb => ?_, by rw [List.length_set, r.len], fun j t et => ?_, fun j k t u2 b e1 e2 e3 e4 e5 e6 => ?_⟩
  · by_cases hb : b = a
    · subst hb; rw [upd_same] at eb; cases eb; exact q2
    · rw [upd_ne hb] at eb; exact r.sub _ _ eb
  · by_cases hb : b = a
    · subst hb; exact .inr q5
    · rw [upd_ne hb] at eb; exact r.new _ _ eb
  · by_cases hj : i = j
    · subst hj
      rw [List.getElem?_set_self hl] at et; cases et
      exact ⟨_, q1, .dct upd_same (q3.mono hff) q3'⟩
    · rw [List.getElem?_set_ne hj] at et
      obtain ⟨w, z1, z2⟩ := r.ok j t et
      refine ⟨w, z1, z2.move hff fun b u' f1 f2 f3 f4 => ⟨f3, ?_⟩⟩
      have hb : b ≠ a := fun z => by
        subst z; subst f1
        exact hj (r.apart i j _ t b e rfl et f2 q1 z1)
      rw [upd_ne hb]; exact f4
  · have back : ∀ {j : Nat} {t : Sl}, (ρ.set i (some (.fz (.dict qs))))[j]? = some (some t) → t.own = true → ρ[j]? = some (some t) := fun {j t} x y => by
      by_cases hj : i = j
      · subst hj
        rw [List.getElem?_set_self hl] at x; cases x; cases y
      · rw [List.getElem?_set_ne hj] at x; exact x
    exact r.apart j k t u2 b (back e1 e2) e2 (back e3 e4) e4 e5 e6
def frzKM (i : Nat) (s : SM) : SM := fun ρ => match ρ[i]? with
  | some (some (.oK qs)) => s (ρ.set i (some (.fz (.dict qs))))
  | _ => s ρ
theorem vs_frzK {X : Cx} {W : WX} {st : Stmt} {s1 : SM} (i : Nat) (h : VS X W st s1) : VS X W st (frzKM i s1) := psW h fun D σ H ⟨H0, F0, F, ρ, re, q⟩ => by
  unfold frzKM at q
  split at q
  · rename_i ds e
    obtain ⟨F', s, r⟩ := re.freezeK e
    exact ⟨H0, F0, F', _, r, q.mono s⟩
  · exact ⟨H0, F0, F, ρ, re, q⟩
/-- what a target of plain names leaves -/
theorem gN_keep {i j : Nat} (h : j ≠ i) : ∀ (d : D) (ρ ρ1 : Rho), gN i d ρ = some ρ1 → ρ[j]? = some none → ρ1[j]? = some none := fun d ρ ρ1 e e2 => by
  cases e
  rw [List.getElem?_set_ne (fun z => h z.symm)]; exact e2
end L2.VL

set_option Elab.async false
set_option linter.all false
set_option autoImplicit false
set_option maxRecDepth 100000
set_option maxHeartbeats 4000000
/-! VL14: e in range(a, b, c) -/
namespace L2.VL
open PySem PySem.Spec PyProof.Rows
def RgO (r : Addr) (a b c : Int) : HO := .ext fun h => ∃ t u v, h.get? r = some { cls := .type "range", data := .fields #[.int a t, .int b u, .int c v] }
theorem rgO_ok {P : Program} {w : World} {H : Hp} {h : Heap} {r : Addr} {a b c : Int} (e : ∃ t u v, h.get? r = some { cls := .type "range", data := .fields #[.int a t, .int b u, .int c v] }) : ObjOk P w H h r (RgO r a b c) :=
  ⟨e, (let ⟨_, _, _, q⟩ := e; ⟨_, q⟩), fun h1 h2 ⟨t, u, v, q⟩ k => ⟨t, u, v, k _ q⟩⟩
theorem in_range {M : Program} {w : World} {A : Around} {E : Value → Shared → Prop} {s : Shared} {r : Addr} {a b c i : Int} {t u v tk : Tok} {Q : Value → Shared → Prop} (ho : s.heap.get? r = some { cls := .type "range", data := .fields #[.int a t, .int b u, .int c v] })
    (h : Q (.bool (Builtin.Range.rangePlace? a b c i).isSome) s) : wpAny (model M w) A (compareOp .In (.int i tk) (.ref r)) Q E s := by
  have hT : s.TypeIs (.ref r) "range" := ⟨_, ho, rfl⟩
  show wpAny _ _ (do return .bool (← contains (.ref r) (.int i tk))) Q E s
  refine wpAny_bind (wpAny_contains_slot hT PySem.F.slot_range_contains (wpAny_call_entry PySem.F.slot_range_contains hT PySem.F.entry_range_contains ?_ (PySem.F.args_range_contains_2 _ _)))
  show wpAny _ _ (Builtin.Range.rangeFields (.ref r) >>= _) _ _ s
  refine wpAny_bind (wpAny_rangeFields (show IsRange s.heap r a b c t u v from ho) ?_)
  exact wpAny_pure ⟨_, rfl, wpAny_truthy_bool (wpAny_pure h)⟩
def rInRg : R2 := fun y x H Q => ∃ i r a b c, y = .int i ∧ x = .ref r ∧ H r = some (RgO r a b c) ∧ Q (.bl (Builtin.Range.rangePlace? a b c i).isSome) H
theorem op_inRg {X : Cx} : OpR X (compareOp .In) rInRg := by
  intro pins s σ H x y v u Q I rx ry h
  obtain ⟨i, r, a, b, c, rfl, rfl, hr, q⟩ := h
  obtain ⟨t, rfl⟩ := rx
  cases ry
  obtain ⟨t1, t2, t3, ho⟩ := (I.hok r _ hr).1
  exact in_range ho ⟨.bl _, H, I, rfl, q⟩
/-- range(a, b, c) as an object -/
def tRg3 (t : TA) : TE := fun σ H Q => t σ H fun vs H1 => ∃ i j c, vs = [.int i, .int j, .int c] ∧ c ≠ 0 ∧ c.natAbs < 1073741824 ∧ ∀ r, H1 r = none → Q (.ref r) (upd H1 r (RgO r i j c))
theorem pe_rg3 {X : Cx} {a b c : Expr} {ta : TA} {p pos : Pos} (hg : Gl X "range") (hm : X.mg "range" = none) (ha : PA X [a, b, c] ta)
    (hs : starEach [a, b, c] X.env = (false, eval a X.env) :: starEach [b, c] X.env := by rfl) (hpl : (backTo pos (starEach [b, c] X.env)).any (·.1) = false := by rfl) :
    PE X (.Call (.Name "range" p) [a, b, c] [] pos) (tRg3 ta) := by
  refine ⟨fun pins s σ H Q I h => ?_⟩
  refine Call_ (ld_blt I hg hm boot_range (PyProof.Rows.callWith_type1 (thn (ha.run pos pins s σ H _ I h) fun us s1 ⟨vs, H1, I1, r1, q1⟩ => ?_) hs hpl))
  obtain ⟨i, j, k, e, c0, c1, q⟩ := q1
  subst e
  cases r1 with
  | cons r rr =>
    cases rr with
    | cons r' rr =>
      cases rr with
      | cons r'' rr =>
        cases rr
        obtain ⟨t, rfl⟩ := r
        obtain ⟨t', rfl⟩ := r'
        obtain ⟨t'', rfl⟩ := r''
        refine call_range_3 c0 ?_ (.inl (PyProof.noPylong_small c1))
        have hf : H1 s1.heap.objs.size = none := I1.hok.fresh (Nat.le_refl _)
        exact ⟨.ref s1.heap.objs.size, _, I1.laid (t' := s1.toks) (fun b u e => Heap.get?_push_of_some _ e) (Nat.le_refl _) (rgO_ok ⟨_, _, _, Heap.get?_push_size _ rfl⟩), rfl, q _ hf⟩
def inRgD (x i j c : D) : Option D := match x, i, j, c with
  | .int x, .int i, .int j, .int c => if 0 < c ∧ c < 1073741824 then some (.bool (decide (i ≤ x) && decide (x < j) && decide ((x - i) % c = 0))) else none
  | _, _, _, _ => none
def inRgM (m1 m2 : EM) (m3 m4 : EM) : EM := fun ρ => (m1 ρ).bind fun x => (m2 ρ).bind fun i => (m3 ρ).bind fun j => (m4 ρ).bind fun c => R.ofO (inRgD x i j c)
theorem v_inRg {X : Cx} {W : WX} {e a b c : Expr} {m1 m2 m3 m4 : EM} {p pos pos2 : Pos} (hg : Gl X "range") (hm : X.mg "range" = none) (he : VO X W e m1) (ha : VO X W a m2) (hb : VO X W b m3) (hc : VO X W c m4)
    (hmk : behindInMarks .In (.Call (.Name "range" p) [a, b, c] [] pos2) = false := by rfl)
    (hs : starEach [a, b, c] X.env = (false, eval a X.env) :: starEach [b, c] X.env := by rfl) (hs2 : starEach [b, c] X.env = (false, eval b X.env) :: starEach [c] X.env := by rfl) (hs3 : starEach [c] X.env = (false, eval c X.env) :: starEach [] X.env := by rfl) (hpl : (backTo pos2 (starEach [b, c] X.env)).any (·.1) = false := by rfl) :
    VE X W (.Compare e [.In] [.Call (.Name "range" p) [a, b, c] [] pos2] pos) (inRgM m1 m2 m3 m4) := peW (pe_cmpR op_inRg he (pe_rg3 hg hm (pa_cons ha (pa_cons hb (pa_cons hc pa_nil hs3) hs2) hs) hs hpl) hmk) fun σ H Q ⟨H0, F0, F, ρ, re, q⟩ => by
  refine ⟨H0, F0, F, ρ, re, q.bind.imp fun x F1 H1 g1 k1 v1 r1 => ⟨H0, F0, F1, ρ, re.grow g1, k1.bind.imp fun i F2 H2 g2 k2 v2 r2 => ⟨H0, F0, F2, ρ, (re.grow g1).grow g2, k2.bind.imp fun j F3 H3 g3 k3 v3 r3 => ⟨H0, F0, F3, ρ, ((re.grow g1).grow g2).grow g3, k3.bind.imp fun c F4 H4 g4 k4 v4 r4 => ?_⟩⟩⟩⟩
  obtain ⟨d, e, k5⟩ := k4.ofO
  unfold inRgD at e
  split at e
  · rename_i x i j c
    split at e
    · rename_i hc0
      cases e
      refine ⟨i, j, c, by rw [r2.int, r3.int, r4.int], by omega, by omega, fun r hr => ⟨x, r, i, j, c, r1.int, rfl, upd_same, ?_⟩⟩
      have : (Builtin.Range.rangePlace? i j c x).isSome = (decide (i ≤ x) && decide (x < j) && decide ((x - i) % c = 0)) := by
        unfold Builtin.Range.rangePlace?
        simp only [show c > 0 from hc0.1, if_true]
        cases h : (decide (i ≤ x) && decide (x < j)) with
        | false => simp
        | true =>
          by_cases h2 : (x - i) % c = 0
          · simp [h2]
          · simp [h2]
      rw [this]
      exact k5 _ _ (Gr.junk g4.fh _ hr) _ (.bl _)
    · cases e
  · cases e
end L2.VL

set_option Elab.async false
set_option linter.all false
set_option autoImplicit false
set_option maxRecDepth 100000
set_option maxHeartbeats 4000000
/-! VL15: list(zip(*t)), t two tuples -/
namespace L2.VL
open PySem PySem.Spec PyProof.Rows RZ
section
variable {P : Program} {w : World} {A : Around} {E : Value → Shared → Prop} {s : Shared} {z I O T j1 j2 m1 m2 : Addr} {f : Bool} {oT : Obj} {k1 k2 : Nat} {us vs : Array Value} {x y : Value}
theorem zipH_item {Q : Value → Shared → Prop} (D : ZipApart z I O j1 j2 m1 m2) (hz : IsZipHeld s.heap z I O T f) (hT : s.heap.get? T = some oT) (hI : IsPair s.heap I (.ref j1) (.ref j2))
    (g1 : s.heap.IsTupleIter j1 m1 k1) (g2 : s.heap.IsTupleIter j2 m2 k2) (t1 : s.heap.IsTuple m1 us) (t2 : s.heap.IsTuple m2 vs) (ex : us[k1]? = some x) (ey : vs[k2]? = some y)
    (q : ∀ h', IsZipHeld h' z I O T true → h'.IsTupleIter j1 m1 (k1 + 1) → h'.IsTupleIter j2 m2 (k2 + 1) → IsPair h' s.heap.objs.size x y → h'.objs.size = s.heap.objs.size + 1 →
      (∀ c o, c ≠ z → c ≠ j1 → c ≠ j2 → s.heap.get? c = some o → h'.get? c = some o) → Q (.ref s.heap.objs.size) { s with heap := h' }) :
    wpAny (model P w) A (Builtin.«zip.__next__» ⟨[.ref z], []⟩) (fun r s' => ∃ v, r = .done (.ret v) ∧ Q v s') E s := by
  refine wpAny_bind (m := field (.ref z) 2) (wpAny_field hz rfl (x := .bool false) rfl (wpAny_bind (m := field (.ref z) 3) (wpAny_field hz rfl (x := .ref I) rfl (wpAny_bind (wpAny_seqItems hI rfl ?_)))))
  refine wpAny_bind (m := Builtin.SmallTypes.ownedTupleIsFree (.ref z)) (wpAny_tupleHeld_zip hz hT fun a1 z1 b1 => ?_)
  simp only [Bool.false_eq_true, if_false]; refine wpAny_bind ?_; rw [← Array.forIn_toList]; simp only [List.forIn_cons, List.forIn_nil]
  refine wpAny_bind (wpAny_bind (wpAny_holding (wpAny_bind (m := Builtin.SmallTypes.nextOf (.ref j1)) (nextOf_tuple_item (s := { s with heap := a1 }) (g1.extBut b1.extBut D.i1z) (t1.extBut b1.extBut D.l1z) ex fun a2 g3 b2 => wpAny_pure (wpAny_pure ?_)))))
  refine wpAny_bind (wpAny_bind (wpAny_holding (wpAny_bind (m := Builtin.SmallTypes.nextOf (.ref j2)) (nextOf_tuple_item (s := { s with heap := a2 }) ((g2.extBut b1.extBut D.i2z).extBut b2.extBut D.i12.symm) ((t2.extBut b1.extBut D.l2z).extBut b2.extBut D.l2i1) ey fun a3 g4 b3 => wpAny_pure (wpAny_pure (wpAny_pure ?_))))))
  refine wpAny_bind (m := newTuple [x, y]) (wpAny_newTuple (wpAny_pure ⟨_, rfl, ?_⟩))
  have sz : a3.objs.size = s.heap.objs.size := by rw [b3.1, b2.1, b1.1]
  have up : ∀ c o, a3.get? c = some o → (a3.push { cls := .type "tuple", data := .seq #[x, y] }).get? c = some o := fun c o e => Heap.get?_push_of_some _ e
  have np : IsPair (a3.push { cls := .type "tuple", data := .seq #[x, y] }) a3.objs.size x y := Heap.get?_push_size _ rfl
  have ns := Heap.size_push (h := a3) (o := { cls := .type "tuple", data := .seq #[x, y] })
  show Q (.ref a3.objs.size) _
  rw [sz] at np ns ⊢
  exact q _ (up _ _ (b3.extBut _ _ D.i2z.symm (b2.extBut _ _ D.i1z.symm z1))) ((g3.extBut b3.extBut D.i12).at fun o e => up _ o e) (g4.at fun o e => up _ o e) np ns fun c o c1 c2 c3 e => up c o (b3.extBut _ _ c3 (b2.extBut _ _ c2 (b1.extBut _ _ c1 e)))
theorem zipH_end {Q : Fin → Shared → Prop} (hh : A.handled = none) (D : ZipApart z I O j1 j2 m1 m2) (hz : IsZipHeld s.heap z I O T f) (hT : s.heap.get? T = some oT) (hI : IsPair s.heap I (.ref j1) (.ref j2))
    (g1 : s.heap.IsTupleIter j1 m1 k1) (g2 : s.heap.IsTupleIter j2 m2 k2) (t1 : s.heap.IsTuple m1 us) (t2 : s.heap.IsTuple m2 vs) (he : us[k1]? = none ∨ vs[k2]? = none)
    (q : ∀ h' e, (∀ c o, c ≠ z → c ≠ j1 → c ≠ j2 → s.heap.get? c = some o → h'.get? c = some o) → (∃ o, h'.get? e = some o ∧ o.cls = .type "StopIteration") → E (.ref e) { s with heap := h' }) :
    wpAny (model P w) A (Builtin.«zip.__next__» ⟨[.ref z], []⟩) Q E s := by
  refine wpAny_bind (m := field (.ref z) 2) (wpAny_field hz rfl (x := .bool false) rfl (wpAny_bind (m := field (.ref z) 3) (wpAny_field hz rfl (x := .ref I) rfl (wpAny_bind (wpAny_seqItems hI rfl ?_)))))
  refine wpAny_bind (m := Builtin.SmallTypes.ownedTupleIsFree (.ref z)) (wpAny_tupleHeld_zip hz hT fun a1 z1 b1 => ?_)
  simp only [Bool.false_eq_true, if_false]; refine wpAny_bind ?_; rw [← Array.forIn_toList]; simp only [List.forIn_cons, List.forIn_nil]
  refine wpAny_bind (wpAny_bind (wpAny_holding (wpAny_bind (m := Builtin.SmallTypes.nextOf (.ref j1)) ?_)))
  cases ex : us[k1]? with
  | none => exact nextOf_tuple_end (s := { s with heap := a1 }) hh (g1.extBut b1.extBut D.i1z) (t1.extBut b1.extBut D.l1z) ex fun a2 e b2 he => q a2 e (fun c o c1 c2 _ h => b2 _ _ c2 (b1.extBut _ _ c1 h)) he
  | some x =>
    have ey : vs[k2]? = none := he.resolve_left (by rw [ex]; exact fun h => nomatch h)
    refine nextOf_tuple_item (s := { s with heap := a1 }) (g1.extBut b1.extBut D.i1z) (t1.extBut b1.extBut D.l1z) ex fun a2 g3 b2 => wpAny_pure (wpAny_pure ?_)
    exact wpAny_bind (wpAny_bind (wpAny_holding (wpAny_bind (m := Builtin.SmallTypes.nextOf (.ref j2)) (nextOf_tuple_end (s := { s with heap := a2 }) hh ((g2.extBut b1.extBut D.i2z).extBut b2.extBut D.i12.symm) ((t2.extBut b1.extBut D.l2z).extBut b2.extBut D.l2i1) ey
      fun a3 e b3 he => q a3 e (fun c o c1 c2 c3 h => b3 _ _ c3 (b2.extBut _ _ c2 (b1.extBut _ _ c1 h))) he))))
theorem nextH_item {Q : Option Value → Shared → Prop} (D : ZipApart z I O j1 j2 m1 m2) (hz : IsZipHeld s.heap z I O T f) (hT : s.heap.get? T = some oT) (hI : IsPair s.heap I (.ref j1) (.ref j2))
    (g1 : s.heap.IsTupleIter j1 m1 k1) (g2 : s.heap.IsTupleIter j2 m2 k2) (t1 : s.heap.IsTuple m1 us) (t2 : s.heap.IsTuple m2 vs) (ex : us[k1]? = some x) (ey : vs[k2]? = some y)
    (q : ∀ h', IsZipHeld h' z I O T true → h'.IsTupleIter j1 m1 (k1 + 1) → h'.IsTupleIter j2 m2 (k2 + 1) → IsPair h' s.heap.objs.size x y → h'.objs.size = s.heap.objs.size + 1 →
      (∀ c o, c ≠ z → c ≠ j1 → c ≠ j2 → s.heap.get? c = some o → h'.get? c = some o) → Q (some (.ref s.heap.objs.size)) { s with heap := h' }) : wpAny (model P w) A (pyNext (.ref z)) Q E s := by
  have ty : s.TypeIs (.ref z) "zip" := ⟨_, hz, rfl⟩
  unfold pyNext
  exact wpAny_bind (wpAny_attempt (wpAny_callSpecial?_slot (name := Str.ofString "__next__") ty F.slot_zip_next (wpAny_call_entry F.slot_zip_next ty F.entry_zip_next (zipH_item D hz hT hI g1 g2 t1 t2 ex ey fun h' a b c d e g => wpAny_pure (q h' a b c d e g)) (F.args_zip_next_1 _))))
theorem nextH_end {Q : Option Value → Shared → Prop} (hh : A.handled = none) (D : ZipApart z I O j1 j2 m1 m2) (hz : IsZipHeld s.heap z I O T f) (hT : s.heap.get? T = some oT) (hI : IsPair s.heap I (.ref j1) (.ref j2))
    (g1 : s.heap.IsTupleIter j1 m1 k1) (g2 : s.heap.IsTupleIter j2 m2 k2) (t1 : s.heap.IsTuple m1 us) (t2 : s.heap.IsTuple m2 vs) (he : us[k1]? = none ∨ vs[k2]? = none)
    (q : ∀ h', (∀ c o, c ≠ z → c ≠ j1 → c ≠ j2 → s.heap.get? c = some o → h'.get? c = some o) → Q none { s with heap := h' }) : wpAny (model P w) A (pyNext (.ref z)) Q E s := by
  have ty : s.TypeIs (.ref z) "zip" := ⟨_, hz, rfl⟩
  unfold pyNext
  exact wpAny_bind (wpAny_attempt (wpAny_callSpecial?_slot (name := Str.ofString "__next__") ty F.slot_zip_next (wpAny_call_entry F.slot_zip_next ty F.entry_zip_next (zipH_end hh D hz hT hI g1 g2 t1 t2 he fun h' e hk ⟨o, ho, hc⟩ =>
    wpAny_bind (wpAny_isInstance (T := "StopIteration") (b := true) ⟨o, ho, hc⟩ isSubtype_stop (wpAny_pure (q _ hk)))) (F.args_zip_next_1 _))))
end
theorem nolen_zip : typeLookup (.type "zip") "__len__" = pure none := by rw [typeLookup_type, builtinLookup_eq_fast]; kernel_rfl
theorem nohint_zip : typeLookup (.type "zip") "__length_hint__" = pure none := by rw [typeLookup_type, builtinLookup_eq_fast]; kernel_rfl
def lobj (xs : Array Value) (c : Nat) : Obj := { cls := .type "list", dict := none, data := .seq xs c, slots := #[] }
section
variable {P : Program} {w : World} {A : Around} {E : Value → Shared → Prop} {s : Shared} {z I O T j1 j2 m1 m2 S : Addr}
/-- one turn of list(..)'s loop -/
theorem loop_turn {R : Result → Shared → Prop} {res : Value} (h : wpAny (model P w) A.in1 (pyNext (.ref z)) (fun o s' => match o with
      | some v => ∃ acc c, s'.heap.get? S = some (lobj acc c) ∧ acc.size < 1000 ∧ codeAny (model P w) A (.builtin "list.extend.loop" ⟨[.ref S, .ref z, res], []⟩) R { s' with heap := s'.heap.update S (Obj.mapSeq (·.push v)) }
      | none => R (.ok (.ret res)) s') (fun e s' => R (.error e) s') s) :
    codeAny (model P w) A (.builtin "list.extend.loop" ⟨[.ref S, .ref z, res], []⟩) R s := by
  refine codeAny_builtin PySem.F.entry_extend_loop ?_
  rw [Around.under_plainId PySem.F.plain_extend_loop _]
  refine wpAny_bind (m := pyNext (.ref z)) (wpAny_mono h (fun o s' q => ?_) fun _ _ q => q)
  cases o with
  | none => exact wpAny_pure q
  | some v =>
    obtain ⟨acc, c, hS, hz, k⟩ := q
    refine wpAny_bind (m := updateSeq S (·.push v)) (wpAny_updateSeq hS rfl (wpAny_pure ⟨plainId_quiet PySem.F.plain_extend_loop _, k⟩) (by rw [sizeLine_eq]; omega) (by show (acc.push v).size ≤ _; rw [Array.size_push, sizeLine_eq]; omega))
theorem upd_obj {h : Heap} {acc : Array Value} {c : Nat} (v : Value) (e : h.get? S = some (lobj acc c)) : ∃ c', (h.update S (Obj.mapSeq (·.push v))).get? S = some (lobj (acc.push v) c') := ⟨_, Heap.get?_update_self _ e rfl⟩
theorem upd_oth {h : Heap} {g : Obj → Obj} {b : Addr} {o : Obj} (hb : b ≠ S) (e : h.get? b = some o) : (h.update S g).get? b = some o := (Heap.get?_update_other _ _ hb.symm).trans e
/-- list(z), z a new zip of two tuples of two -/
theorem call_list_zip2 {Q : Value → Shared → Prop} {x1 x2 y1 y2 a b : Value} (hh : A.handled = none) (D : ZipApart z I O j1 j2 m1 m2) (hz : IsZip s.heap z I O .none) (hI : IsPair s.heap I (.ref j1) (.ref j2)) (hO : IsPair s.heap O a b)
    (g1 : s.heap.IsTupleIter j1 m1 0) (g2 : s.heap.IsTupleIter j2 m2 0) (t1 : s.heap.IsTuple m1 #[x1, x2]) (t2 : s.heap.IsTuple m2 #[y1, y2])
    (q : ∀ h' tk T1 T2 c, (∀ b o, b ≠ z → b ≠ O → b ≠ j1 → b ≠ j2 → s.heap.get? b = some o → h'.get? b = some o) → s.heap.objs.size < T1 → T1 < T2 → IsPair h' T1 x1 y1 → IsPair h' T2 x2 y2 → h'.get? s.heap.objs.size = some (lobj #[.ref T1, .ref T2] c) → Q (.ref s.heap.objs.size) { s with heap := h', toks := tk }) :
    wpAny (model P w) A (call (.type "list") [.ref z]) Q E s := by
  refine callType_codes (Q₁ := fun obj s' => obj = .ref s.heap.objs.size ∧ s' = { s with heap := s.heap.push (lobj #[] 0) }) PySem.F.called_list (PySem.F.typeCall_list_1 _) PySem.F.entry_list_init (code_list_new _ ⟨rfl, rfl⟩) fun obj s' h' => ?_
  obtain ⟨rfl, rfl⟩ := h'
  generalize hS : s.heap.objs.size = S at q ⊢
  have e0 : (s.heap.push (lobj #[] 0)).get? S = some (lobj #[] 0) := by rw [← hS]; exact Heap.get?_push_size _ rfl
  have old0 : ∀ b o, s.heap.get? b = some o → (s.heap.push (lobj #[] 0)).get? b = some o := fun b o e => Heap.get?_push_of_some _ e
  have nS : ∀ {b o}, s.heap.get? b = some o → b ≠ S := fun {b o} e => by rw [← hS]; exact Nat.ne_of_lt (Heap.lt_size e)
  obtain ⟨oj1, ej1, _⟩ := id g1
  obtain ⟨oj2, ej2, _⟩ := id g2
  obtain ⟨om1, em1, _⟩ := id t1
  obtain ⟨om2, em2, _⟩ := id t2
  have zS := nS hz; have IS := nS hI; have OS := nS hO; have j1S := nS ej1; have j2S := nS ej2; have m1S := nS em1; have m2S := nS em2
  have sz0 : (s.heap.push (lobj #[] 0)).objs.size = S + 1 := by rw [Heap.size_push, hS]
  generalize hh0 : s.heap.push (lobj #[] 0) = k0 at e0 old0 sz0 ⊢
  refine ⟨⟨_, e0, rfl⟩, PySem.F.args_list_init_2 _ _, ?_⟩
  -- the list is emptied
  refine wpAny_bind (m := Builtin.List.listItems (.ref S)) ?_
  unfold Builtin.List.listItems
  refine wpAny_bind (wpAny_seqItems e0 rfl (wpAny_pure ?_))
  refine wpAny_bind (m := updateSeq S (fun _ => #[])) (wpAny_updateSeq e0 rfl ?_)
  obtain ⟨c1, e1⟩ : ∃ c1, (k0.update S (Obj.mapSeq (fun _ => (#[] : Array Value)))).get? S = some (lobj #[] c1) := ⟨_, Heap.get?_update_self _ e0 rfl⟩
  have old1 : ∀ b o, b ≠ S → s.heap.get? b = some o → (k0.update S (Obj.mapSeq (fun _ => (#[] : Array Value)))).get? b = some o := fun b o hb e => upd_oth hb (old0 b o e)
  have sz1 : (k0.update S (Obj.mapSeq (fun _ => (#[] : Array Value)))).objs.size = S + 1 := by rw [← sz0]; exact Heap.size_update ..
  generalize k0.update S (Obj.mapSeq (fun _ => (#[] : Array Value))) = k1 at e1 old1 sz1 ⊢
  refine wpAny_bind (m := letGo _) (wpAny_letGo ?_)
  -- the list is made longer
  show wpAny _ A.in1.in1 (Builtin.List.listExtendWith (.ref S) (.ref z) .none) _ _ _
  unfold Builtin.List.listExtendWith
  have hz1 := old1 _ _ zS hz
  have ty : ({ s with heap := k1 } : Shared).TypeIs (.ref z) "zip" := ⟨_, hz1, rfl⟩
  refine wpAny_bind (wpAny_typeOf ty ?_)
  rw [if_neg (by
    have : Builtin.List.listSameRef (.ref S) (.ref z) = false := by simp [Builtin.List.listSameRef, zS.symm]
    rw [this]; decide)]
  refine wpAny_bind (wpAny_pyIter_zip hz1 ?_)
  refine wpAny_bind (wpAny_holding ?_)
  unfold Builtin.List.listLengthHint
  refine wpAny_bind (wpAny_specialOf ty nolen_zip (wpAny_bind (m := specialOf (.ref z) (Str.ofString "__length_hint__")) (wpAny_specialOf ty nohint_zip (wpAny_pure ?_))))
  refine wpAny_bind (m := rule _) (wpAny_rule (wpAny_bind (m := Builtin.List.listTouch (.ref S)) ?_))
  refine wpAny_bind (m := updateSeq S (·.push .none)) (wpAny_updateSeq e1 rfl ?_)
  obtain ⟨c2, e2⟩ : ∃ c2, (k1.update S (Obj.mapSeq (·.push Value.none))).get? S = some (lobj #[.none] c2) := ⟨_, Heap.get?_update_self _ e1 rfl⟩
  have old2 : ∀ b o, b ≠ S → s.heap.get? b = some o → (k1.update S (Obj.mapSeq (·.push Value.none))).get? b = some o := fun b o hb e => upd_oth hb (old1 b o hb e)
  have sz2 : (k1.update S (Obj.mapSeq (·.push Value.none))).objs.size = S + 1 := by rw [← sz1]; exact Heap.size_update ..
  generalize k1.update S (Obj.mapSeq (·.push Value.none)) = k2 at e2 old2 sz2 ⊢
  refine wpAny_updateSeq e2 rfl ?_
  obtain ⟨c3, e3⟩ : ∃ c3, (k2.update S (Obj.mapSeq (·.pop))).get? S = some (lobj #[] c3) := ⟨_, Heap.get?_update_self _ e2 rfl⟩
  have old3 : ∀ b o, b ≠ S → s.heap.get? b = some o → (k2.update S (Obj.mapSeq (·.pop))).get? b = some o := fun b o hb e => upd_oth hb (old2 b o hb e)
  have sz3 : (k2.update S (Obj.mapSeq (·.pop))).objs.size = S + 1 := by rw [← sz2]; exact Heap.size_update ..
  generalize k2.update S (Obj.mapSeq (·.pop)) = k3 at e3 old3 sz3 ⊢
  refine wpAny_pure ⟨plainId_quiet PySem.F.plain_extend_loop _, loop_turn ?_⟩
  -- the first pair
  refine pyNext_zipT_item (s := { s with heap := k3 }) D (old3 _ _ zS hz) (old3 _ _ IS hI) (old3 _ _ OS hO) (g1.at fun o e => old3 _ o j1S e) (g2.at fun o e => old3 _ o j2S e) (t1.at fun o e => old3 _ o m1S e) (t2.at fun o e => old3 _ o m2S e) (x := x1) (y := y1) rfl rfl
    fun k4 z4 O4 g14 g24 p4 sz4 kp4 => ⟨#[], c3, kp4 _ _ zS.symm OS.symm j1S.symm j2S.symm e3, by decide, loop_turn ?_⟩
  have e4 := kp4 _ _ zS.symm OS.symm j1S.symm j2S.symm e3
  have T1S : k3.objs.size ≠ S := by rw [sz3]; omega
  generalize hT1 : k3.objs.size = T1 at z4 p4 sz4 T1S ⊢
  obtain ⟨c5, e5⟩ := upd_obj (.ref T1) e4
  have up5 : ∀ {b o}, b ≠ S → k4.get? b = some o → (k4.update S (Obj.mapSeq (·.push (.ref T1)))).get? b = some o := fun {b o} hb e => upd_oth hb e
  have sz5 : (k4.update S (Obj.mapSeq (·.push (.ref T1)))).objs.size = T1 + 1 := by rw [← sz4]; exact Heap.size_update ..
  generalize hk5 : k4.update S (Obj.mapSeq (·.push (.ref T1))) = k5 at e5 up5 sz5 ⊢
  have hI4 := kp4 _ _ D.TIz D.TITO D.TIi1 D.TIi2 (old3 _ _ IS hI)
  have m14 : k5.IsTuple m1 #[x1, x2] := t1.at fun o e => up5 m1S (kp4 _ _ D.l1z D.l1TO D.l1i1 D.l1i2 (old3 _ _ m1S e))
  have m24 : k5.IsTuple m2 #[y1, y2] := t2.at fun o e => up5 m2S (kp4 _ _ D.l2z D.l2TO D.l2i1 D.l2i2 (old3 _ _ m2S e))
  have hz5 : IsZipHeld k5 z I O T1 false := up5 zS z4
  -- the second pair
  refine nextH_item (s := { s with heap := k5 }) D hz5 (up5 T1S p4) (up5 IS hI4) (g14.at fun o e => up5 j1S e) (g24.at fun o e => up5 j2S e) m14 m24 (x := x2) (y := y2) rfl rfl
    fun k6 z6 g16 g26 p6 sz6 kp6 => ⟨#[.ref T1], c5, kp6 _ _ zS.symm j1S.symm j2S.symm e5, (by show 1 < 1000; decide), loop_turn ?_⟩
  have e6 := kp6 _ _ zS.symm j1S.symm j2S.symm e5
  have T2S : k5.objs.size ≠ S := by rw [sz5, ← hT1, sz3]; omega
  have lt12 : T1 < k5.objs.size := by rw [sz5]; omega
  have lz : z < T1 := by rw [← hT1]; exact Heap.lt_size (old3 _ _ zS hz)
  have lj1 : j1 < T1 := by rw [← hT1]; exact Heap.lt_size (old3 _ _ j1S ej1)
  have lj2 : j2 < T1 := by rw [← hT1]; exact Heap.lt_size (old3 _ _ j2S ej2)
  have p14 := kp6 _ _ (Nat.ne_of_gt lz) (Nat.ne_of_gt lj1) (Nat.ne_of_gt lj2) (up5 T1S p4)
  generalize hT2 : k5.objs.size = T2 at p6 sz6 T2S lt12 ⊢
  obtain ⟨c7, e7⟩ := upd_obj (.ref T2) e6
  have up7 : ∀ {b o}, b ≠ S → k6.get? b = some o → (k6.update S (Obj.mapSeq (·.push (.ref T2)))).get? b = some o := fun {b o} hb e => upd_oth hb e
  generalize hk7 : k6.update S (Obj.mapSeq (·.push (.ref T2))) = k7 at e7 up7 ⊢
  have kp47 : ∀ b o, b ≠ z → b ≠ O → b ≠ j1 → b ≠ j2 → s.heap.get? b = some o → k7.get? b = some o := fun b o b1 b2 b3 b4 e =>
    have bS := nS e
    up7 bS (kp6 _ _ b1 b3 b4 (up5 bS (kp4 _ _ b1 b2 b3 b4 (old3 _ _ bS e))))
  -- the end
  refine nextH_end (s := { s with heap := k7 }) hh D (up7 zS z6) (up7 T1S p14) (up7 IS (kp6 _ _ D.TIz D.TIi1 D.TIi2 (up5 IS hI4))) (g16.at fun o e => up7 j1S e) (g26.at fun o e => up7 j2S e)
    (t1.at fun o e => kp47 _ o D.l1z D.l1TO D.l1i1 D.l1i2 e) (t2.at fun o e => kp47 _ o D.l2z D.l2TO D.l2i1 D.l2i2 e) (.inl rfl) fun k8 kp8 => ?_
  have T1z := Nat.ne_of_gt lz
  refine ⟨rfl, q k8 s.toks T1 T2 c7 (fun b o b1 b2 b3 b4 e => kp8 _ _ b1 b3 b4 (kp47 b o b1 b2 b3 b4 e)) (by rw [← hT1, sz3]; omega) lt12 ?_ ?_ ?_⟩
  · exact kp8 _ _ (Nat.ne_of_gt lz) (Nat.ne_of_gt lj1) (Nat.ne_of_gt lj2) (up7 T1S p14)
  · exact kp8 _ _ (Nat.ne_of_gt (Nat.lt_trans lz lt12)) (Nat.ne_of_gt (Nat.lt_trans lj1 lt12)) (Nat.ne_of_gt (Nat.lt_trans lj2 lt12)) (up7 T2S p6)
  · exact kp8 _ _ zS.symm j1S.symm j2S.symm e7
end
end L2.VL

set_option Elab.async false
set_option linter.all false
set_option autoImplicit false
set_option maxRecDepth 100000
set_option maxHeartbeats 4000000
/-! VL16: list(zip(*t)) as a rule -/
namespace L2.VL
open PySem PySem.Spec PyProof.Rows RZ
def zipStarL : D → Option (List D)
  | .tuple [.tuple [a, b], .tuple [c, d]] => some [.tuple [a, c], .tuple [b, d]]
  | .list [.tuple [a, b], .tuple [c, d]] => some [.tuple [a, c], .tuple [b, d]]
  | _ => none
theorem zipStarL_inv {d : D} {c : List D} (h : zipStarL d = some c) : ∃ a1 a2 b1 b2, (d = .tuple [.tuple [a1, a2], .tuple [b1, b2]] ∨ d = .list [.tuple [a1, a2], .tuple [b1, b2]]) ∧ c = [.tuple [a1, b1], .tuple [a2, b2]] := by
  unfold zipStarL at h
  split at h
  · cases h; exact ⟨_, _, _, _, .inl rfl, rfl⟩
  · cases h; exact ⟨_, _, _, _, .inr rfl, rfl⟩
  · cases h
theorem Rp.tup2 {K : PySem.W.Frag} {F : Hp} {v : V} {a b : D} (r : Rp K F v (.tuple [a, b])) : ∃ p x y, v = .ref p ∧ SqT K F p [x, y] ∧ Rp K F x a ∧ Rp K F y b := by
  cases r with
  | tup h1 h2 =>
    cases h2 with
    | cons r1 h2 =>
      cases h2 with
      | cons r2 h2 =>
        cases h2
        exact ⟨_, _, _, rfl, h1, r1, r2⟩
section
variable {X : Cx} {W : WX} {e : Expr} {p p2 sp pos pos2 : Pos} {m : EM}
theorem vf_listZipStar (hc : X.calm = true) (hg : Gl X "list") (hm : X.mg "list" = none) (hg2 : Gl X "zip") (hm2 : X.mg "zip" = none) (he : VE X W e m)
    (hst : starEach [.Starred e sp] X.env = [(true, eval e X.env)] := by rfl)
    (hs : starEach [.Call (.Name "zip" p2) [.Starred e sp] [] pos2] X.env = (false, eval (.Call (.Name "zip" p2) [.Starred e sp] [] pos2) X.env) :: starEach [] X.env := by rfl) :
    VF X W (.Call (.Name "list" p) [.Call (.Name "zip" p2) [.Starred e sp] [] pos2] [] pos) (unL zipStarL m) := by
  refine ⟨fun pins s σ H Q I ⟨H0, F0, F, ρ, re, q⟩ => ?_⟩
  refine Call_ (ld_blt I hg hm boot_list (PyProof.Rows.callWith_type1 ?_ hs rfl))
  rw [hs]
  show wpAny _ _ (spliced ((false, eval (.Call (.Name "zip" p2) [.Starred e sp] [] pos2) X.env) :: backTo pos (starEach [] X.env))) _ _ s
  refine Calls.spliced_cons ?_
  refine Call_ (ld_blt I hg2 hm2 PyProof.Rows.boot_zip ?_)
  rw [hst]
  refine PySem.W.ks_call (P := fun _ => True) rfl (fun h _ => ⟨.machine, .inr (.inl rfl), .of_pure rfl⟩) (PySem.W.ks_lone (thn (he.run pins s σ H (fun v H1 => ∃ F1 d c, Gr F H F1 H1 ∧ Rp X.K F1 v d ∧ zipStarL d = some c ∧ ∀ F' H', Gr F1 H1 F' H' → ∀ a vs, H' a = none → RpA X.K F' vs c → Q (.ref a) (upd H' a (.lst vs))) I
    ⟨H0, F0, F, ρ, re, q.bind.imp fun d F1 H1 g k v r => ?_⟩) fun v s1 hv => ?_))
  · obtain ⟨c, e1, k2⟩ := k.ofO
    exact ⟨F1, d, c, g, r, e1, fun F' H' g' a vs hn ra => k2 F' H' g' a vs hn ra⟩
  · obtain ⟨y, H1, I1, ry, F1, d, c, g, r, ec, k⟩ := hv
    obtain ⟨a1, a2, b1, b2, hd, rfl⟩ := zipStarL_inv ec
    -- the two lines
    obtain ⟨p0, m1, m2, x1, x2, y1, y2, rfl, h0, t1, t2, r1, r2, r3, r4⟩ : ∃ p0 m1 m2 x1 x2 y1 y2, y = V.ref p0 ∧ (SqT X.K H1 p0 [.ref m1, .ref m2] ∨ SqL X.K H1 p0 [.ref m1, .ref m2]) ∧ SqT X.K H1 m1 [x1, x2] ∧ SqT X.K H1 m2 [y1, y2] ∧ Rp X.K F1 x1 a1 ∧ Rp X.K F1 x2 a2 ∧ Rp X.K F1 y1 b1 ∧ Rp X.K F1 y2 b2 := by
      rcases hd with rfl | rfl
      · obtain ⟨p0, u, v, rfl, h1, ru, rv⟩ := r.tup2
        obtain ⟨m1, x1, x2, rfl, t1, r1, r2⟩ := ru.tup2
        obtain ⟨m2, y1, y2, rfl, t2, r3, r4⟩ := rv.tup2
        exact ⟨p0, m1, m2, x1, x2, y1, y2, rfl, .inl (VL.Same.sqT g.fh h1), VL.Same.sqT g.fh t1, VL.Same.sqT g.fh t2, r1, r2, r3, r4⟩
      · cases r with
        | lst h1 h2 =>
          cases h2 with
          | cons ru h2 =>
            cases h2 with
            | cons rv h2 =>
              cases h2
              obtain ⟨m1, x1, x2, rfl, t1, r1, r2⟩ := ru.tup2
              obtain ⟨m2, y1, y2, rfl, t2, r3, r4⟩ := rv.tup2
              exact ⟨_, m1, m2, x1, x2, y1, y2, rfl, .inr (g.fh.seq h1), VL.Same.sqT g.fh t1, VL.Same.sqT g.fh t2, r1, r2, r3, r4⟩
    obtain rfl : v = Value.ref p0 := ry
    refine StX.star_any I1 h0 fun us s2 I2 rv => ⟨trivial, ?_⟩
    cases rv with
    | cons q1 rv =>
      cases rv with
      | cons q2 rv =>
        cases rv
        cases q1
        cases q2
        obtain ⟨its1, v1, p1, _⟩ := I2.tuple t1
        obtain ⟨its2, v2, p2, _⟩ := I2.tuple t2
        obtain ⟨o1, ho1, _⟩ := id p1
        obtain ⟨o2, ho2, _⟩ := id p2
        -- their items
        obtain ⟨w1, w2, rfl, s1x, s2x⟩ : ∃ w1 w2, its1 = [w1, w2] ∧ RelV x1 w1 ∧ RelV x2 w2 := by
          cases v1 with
          | cons q1 v1 => cases v1 with
            | cons q2 v1 => cases v1; exact ⟨_, _, rfl, q1, q2⟩
        obtain ⟨w3, w4, rfl, s1y, s2y⟩ : ∃ w3 w4, its2 = [w3, w4] ∧ RelV y1 w3 ∧ RelV y2 w4 := by
          cases v2 with
          | cons q1 v2 => cases v2 with
            | cons q2 v2 => cases v2; exact ⟨_, _, rfl, q1, q2⟩
        refine call_zipT (show s2.heap.IsTuple m1 #[w1, w2] from p1) (show s2.heap.IsTuple m2 #[w3, w4] from p2) fun h' hz hTI hTO h1 h2 hsz hk => Calls.spliced_nil ?_
        have I3 : Inv X pins σ H1 { s2 with heap := h' } := I2.kept (t' := s2.toks) hk
        refine call_list_zip2 (s := { s2 with heap := h' }) (I3.ok.hd hc) (PySem.W.ktu_apart s2.heap.objs.size m1 m2 (Heap.lt_size ho1) (Heap.lt_size ho2)) hz hTI hTO h1 h2 ((show s2.heap.IsTuple m1 #[w1, w2] from p1).at fun o e => hk _ o e) ((show s2.heap.IsTuple m2 #[w3, w4] from p2).at fun o e => hk _ o e) fun h'' tk T1 T2 c kp lt1 lt2 q1 q2 q3 => ?_
        generalize hS : h'.objs.size = S at lt1 q3 ⊢
        have fr : ∀ b, s2.heap.objs.size ≤ b → FpOk X pins H1 b := fun b hb => I2.fpOk hb (I2.hok.fresh hb)
        obtain ⟨G1, ga, gb⟩ := restrict h'' fun b => decide (b ≠ T2) && decide (b ≠ S)
        obtain ⟨G2, gc, gd⟩ := restrict h'' fun b => decide (b ≠ S)
        have T1S : T1 ≠ S := Nat.ne_of_gt lt1
        have T2S : T2 ≠ S := Nat.ne_of_gt (Nat.lt_trans lt1 lt2)
        have T12 : T1 ≠ T2 := Nat.ne_of_lt lt2
        have g1of : ∀ b o, b ≠ T2 → b ≠ S → h''.get? b = some o → G1.get? b = some o := fun b o n1 n2 e => (ga b (by simp [n1, n2])).trans e
        have g2of : ∀ b o, b ≠ S → h''.get? b = some o → G2.get? b = some o := fun b o n2 e => (gc b (by simp [n2])).trans e
        have g12 : ∀ b o, G1.get? b = some o → G2.get? b = some o := fun b o e => by
          by_cases n1 : b = T2
          · rw [gb b (by simp [n1])] at e; cases e
          · by_cases n2 : b = S
            · rw [gb b (by simp [n2])] at e; cases e
            · rw [ga b (by simp [n1, n2])] at e; exact g2of b o n2 e
        have g2h : ∀ b o, G2.get? b = some o → h''.get? b = some o := fun b o e => by
          by_cases n2 : b = S
          · rw [gd b (by simp [n2])] at e; cases e
          · rw [gc b (by simp [n2])] at e; exact e
        have hT1n : H1 T1 = none := I3.hok.fresh (show h'.objs.size ≤ T1 by rw [hS]; exact Nat.le_of_lt lt1)
        have hT2n : H1 T2 = none := I3.hok.fresh (show h'.objs.size ≤ T2 by rw [hS]; exact Nat.le_of_lt (Nat.lt_trans lt1 lt2))
        have hSn : H1 S = none := I3.hok.fresh (show h'.objs.size ≤ S by rw [hS]; exact Nat.le_refl _)
        have n2 : (upd H1 T1 (.tup [x1, y1])) T2 = none := by rw [upd_ne T12.symm]; exact hT2n
        have nS : (upd (upd H1 T1 (.tup [x1, y1])) T2 (.tup [x2, y2])) S = none := by rw [upd_ne T2S.symm, upd_ne T1S.symm]; exact hSn
        have I4 : Inv X pins σ (upd H1 T1 (.tup [x1, y1])) { s2 with heap := G1, toks := tk } :=
          I3.turnedNew (t' := tk) (ch := [s2.heap.objs.size + 4, s2.heap.objs.size + 3, s2.heap.objs.size, s2.heap.objs.size + 1]) (fun b o hb e => by
            have bl : b < S := by rw [← hS]; exact Heap.lt_size e
            refine g1of b o (Nat.ne_of_lt (Nat.lt_trans bl (Nat.lt_trans lt1 lt2))) (Nat.ne_of_lt bl) (kp b o (fun z => hb (by simp [z])) (fun z => hb (by simp [z])) (fun z => hb (by simp [z])) (fun z => hb (by simp [z])) e)) (fun b hb => by
            have : b = s2.heap.objs.size + 4 ∨ b = s2.heap.objs.size + 3 ∨ b = s2.heap.objs.size ∨ b = s2.heap.objs.size + 1 := by simpa using hb
            rcases this with rfl | rfl | rfl | rfl
            · exact fr _ (Nat.le_add_right _ _)
            · exact fr _ (Nat.le_add_right _ _)
            · exact fr _ (Nat.le_refl _)
            · exact fr _ (Nat.le_add_right _ _)) (show h'.objs.size ≤ T1 by rw [hS]; exact Nat.le_of_lt lt1)
            ⟨by show 2 ≤ sizeLine; decide, [w1, w3], .cons s1x (.cons s1y .nil), ⟨_, g1of _ _ T12 T1S q1, rfl, _, rfl⟩⟩
        have I5 : Inv X pins σ (upd (upd H1 T1 (.tup [x1, y1])) T2 (.tup [x2, y2])) { s2 with heap := G2, toks := tk } :=
          Inv.laidN (s := { s2 with heap := G1, toks := tk }) (h' := G2) (t' := tk) I4 g12 (gb T2 (by simp)) n2 ⟨by show 2 ≤ sizeLine; decide, [w2, w4], .cons s2x (.cons s2y .nil), ⟨_, g2of _ _ T2S q2, rfl, _, rfl⟩⟩
        have I6 : Inv X pins σ (upd (upd (upd H1 T1 (.tup [x1, y1])) T2 (.tup [x2, y2])) S (.lst [.ref T1, .ref T2])) { s2 with heap := h'', toks := tk } :=
          Inv.laidN (s := { s2 with heap := G2, toks := tk }) (h' := h'') (t' := tk) I5 g2h (gd S (by simp)) nS ⟨by show 2 ≤ sizeLine; decide, [.ref T1, .ref T2], c, .cons rfl (.cons rfl .nil), q3⟩
        have gr1 : Gr F1 H1 (upd F1 T1 (.tup [x1, y1])) (upd H1 T1 (.tup [x1, y1])) := Gr.alloc g.fh _ hT1n
        have gr2 : Gr (upd F1 T1 (.tup [x1, y1])) (upd H1 T1 (.tup [x1, y1])) (upd (upd F1 T1 (.tup [x1, y1])) T2 (.tup [x2, y2])) (upd (upd H1 T1 (.tup [x1, y1])) T2 (.tup [x2, y2])) := Gr.alloc gr1.fh _ n2
        have ff := gr1.ff.trans gr2.ff
        refine ⟨.ref S, _, I6, rfl, k _ _ (gr1.trans gr2) S _ nS (.cons (.tup (.of (gr2.ff _ _ upd_same)) (.cons (r1.mono ff) (.cons (r3.mono ff) .nil))) (.cons (.tup (.of upd_same) (.cons (r2.mono ff) (.cons (r4.mono ff) .nil))) .nil))⟩
end
end L2.VL

set_option Elab.async false
set_option linter.all false
set_option autoImplicit false
set_option maxRecDepth 100000
set_option maxHeartbeats 4000000
/-! VE1: the mirrors, reckoned -/
namespace L2.VL
open PySem PySem.Spec PyProof.Rows
theorem nr {α : Sort _} {a b : α} (h : a = b) : a = b := h
/-! ### readings -/
@[simp] theorem mC_e (d : D) (ρ : Rho) : mC d ρ = .ok d := nr rfl
def sVar : Option (Option Sl) → R D
  | some (some (.fz d)) => .ok d
  | _ => .bad
def sVarO : Option (Option Sl) → R D
  | some (some (.fz d)) => .ok d
  | some (some (.ol ds)) => .ok (.list ds)
  | some (some (.oK qs)) => .ok (.dict qs)
  | some (some (.oT qs)) => .ok (.dict ((.none, .none) :: qs))
  | _ => .bad
theorem mVar_s (i : Nat) (ρ : Rho) : mVar i ρ = sVar ρ[i]? := by
  unfold mVar
  split
  · rename_i d h; rw [h]; rfl
  · rename_i h
    unfold sVar
    split
    · rename_i d h2; exact absurd h2 (h d)
    · rfl
@[simp] theorem sVar_fz (d : D) : sVar (some (some (.fz d))) = .ok d := nr rfl
/-- the slot, found by its number -/
@[simp] theorem mVar_0 (d : D) (ρ : Rho) : mVar 0 (some (.fz d) :: ρ) = .ok d := nr rfl
theorem mVar_succ (i : Nat) (o : Option Sl) (ρ : Rho) : mVar (i + 1) (o :: ρ) = mVar i ρ := by
  rw [mVar_s, mVar_s]; rfl
def bin2 (f : D → D → Option D) : R D → R D → R D
  | .ok x, .ok y => R.ofO (f x y)
  | .ok _, .exc e => .exc e
  | .ok _, .bad => .bad
  | .exc e, _ => .exc e
  | .bad, _ => .bad
@[simp] theorem bin_e (f : D → D → Option D) (ma mb : EM) (ρ : Rho) : bin f ma mb ρ = bin2 f (ma ρ) (mb ρ) := by
  unfold bin
  cases ma ρ with
  | ok x => cases mb ρ <;> rfl
  | exc e => rfl
  | bad => rfl
@[simp] theorem bin2_ok (f : D → D → Option D) (x y : D) : bin2 f (.ok x) (.ok y) = R.ofO (f x y) := nr rfl
def un1 (f : D → Option D) : R D → R D
  | .ok x => R.ofO (f x)
  | .exc e => .exc e
  | .bad => .bad
@[simp] theorem un_e (f : D → Option D) (ma : EM) (ρ : Rho) : un f ma ρ = un1 f (ma ρ) := by unfold un; cases ma ρ <;> rfl
@[simp] theorem un1_ok (f : D → Option D) (x : D) : un1 f (.ok x) = R.ofO (f x) := nr rfl
def asB1 : R D → R Bool
  | .ok (.bool b) => .ok b
  | .exc e => .exc e
  | _ => .bad
@[simp] theorem asB_e (m : EM) (ρ : Rho) : asB m ρ = asB1 (m ρ) := by
  unfold asB
  cases m ρ with
  | ok d => cases d <;> rfl
  | _ => rfl
@[simp] theorem asB1_ok (b : Bool) : asB1 (.ok (.bool b)) = .ok b := nr rfl
def tru1 : R D → R Bool
  | .ok d => R.ofO (truD d)
  | .exc e => .exc e
  | .bad => .bad
@[simp] theorem truM_e (m : EM) (ρ : Rho) : truM m ρ = tru1 (m ρ) := by unfold truM; cases m ρ <;> rfl
@[simp] theorem tru1_ok (d : D) : tru1 (.ok d) = R.ofO (truD d) := nr rfl
@[simp] theorem truD_b (b : Bool) : truD (.bool b) = some b := nr rfl
def not1 : R Bool → R Bool
  | .ok b => .ok (!b)
  | .exc e => .exc e
  | .bad => .bad
@[simp] theorem notM_e (m : BM) (ρ : Rho) : notM m ρ = not1 (m ρ) := by unfold notM; cases m ρ <;> rfl
@[simp] theorem not1_ok (b : Bool) : not1 (.ok b) = .ok (!b) := nr rfl
def and1 (r : R Bool) (n : BM) (ρ : Rho) : R Bool := match r with
  | .ok true => n ρ
  | .ok false => .ok false
  | .exc e => .exc e
  | .bad => .bad
@[simp] theorem andM_e (m n : BM) (ρ : Rho) : andM m n ρ = and1 (m ρ) n ρ := by
  unfold andM
  cases m ρ with
  | ok b => cases b <;> rfl
  | _ => rfl
@[simp] theorem and1_t (n : BM) (ρ : Rho) : and1 (.ok true) n ρ = n ρ := nr rfl
@[simp] theorem and1_f (n : BM) (ρ : Rho) : and1 (.ok false) n ρ = .ok false := nr rfl
def or1 (r : R Bool) (n : BM) (ρ : Rho) : R Bool := match r with
  | .ok false => n ρ
  | .ok true => .ok true
  | .exc e => .exc e
  | .bad => .bad
@[simp] theorem orM_e (m n : BM) (ρ : Rho) : orM m n ρ = or1 (m ρ) n ρ := by
  unfold orM
  cases m ρ with
  | ok b => cases b <;> rfl
  | _ => rfl
@[simp] theorem or1_t (n : BM) (ρ : Rho) : or1 (.ok true) n ρ = .ok true := nr rfl
@[simp] theorem or1_f (n : BM) (ρ : Rho) : or1 (.ok false) n ρ = n ρ := nr rfl
def andV1 (r : R Bool) (n : EM) (ρ : Rho) : R D := match r with
  | .ok true => n ρ
  | .ok false => .ok (.bool false)
  | .exc e => .exc e
  | .bad => .bad
@[simp] theorem andV_e (m n : EM) (ρ : Rho) : andV m n ρ = andV1 (asB1 (m ρ)) n ρ := by
  unfold andV
  rw [asB_e]
  cases asB1 (m ρ) with
  | ok b => cases b <;> rfl
  | _ => rfl
@[simp] theorem andV1_t (n : EM) (ρ : Rho) : andV1 (.ok true) n ρ = n ρ := nr rfl
@[simp] theorem andV1_f (n : EM) (ρ : Rho) : andV1 (.ok false) n ρ = .ok (.bool false) := nr rfl
def orV1 (r : R Bool) (n : EM) (ρ : Rho) : R D := match r with
  | .ok false => n ρ
  | .ok true => .ok (.bool true)
  | .exc e => .exc e
  | .bad => .bad
@[simp] theorem orV_e (m n : EM) (ρ : Rho) : orV m n ρ = orV1 (asB1 (m ρ)) n ρ := by
  unfold orV
  rw [asB_e]
  cases asB1 (m ρ) with
  | ok b => cases b <;> rfl
  | _ => rfl
@[simp] theorem orV1_t (n : EM) (ρ : Rho) : orV1 (.ok true) n ρ = .ok (.bool true) := nr rfl
@[simp] theorem orV1_f (n : EM) (ρ : Rho) : orV1 (.ok false) n ρ = n ρ := nr rfl
def notV1 : R Bool → R D
  | .ok b => .ok (.bool (!b))
  | .exc e => .exc e
  | .bad => .bad
@[simp] theorem notV_e (m : EM) (ρ : Rho) : notV m ρ = notV1 (asB1 (m ρ)) := by
  unfold notV
  rw [asB_e]
  cases asB1 (m ρ) <;> rfl
@[simp] theorem notV1_ok (b : Bool) : notV1 (.ok b) = .ok (.bool (!b)) := nr rfl
def if1 (r : R Bool) (a b : EM) (ρ : Rho) : R D := match r with
  | .ok true => a ρ
  | .ok false => b ρ
  | .exc e => .exc e
  | .bad => .bad
@[simp] theorem ifE_e (c : BM) (a b : EM) (ρ : Rho) : ifE c a b ρ = if1 (c ρ) a b ρ := by
  unfold ifE
  cases c ρ with
  | ok t => cases t <;> rfl
  | _ => rfl
@[simp] theorem if1_t (a b : EM) (ρ : Rho) : if1 (.ok true) a b ρ = a ρ := nr rfl
@[simp] theorem if1_f (a b : EM) (ρ : Rho) : if1 (.ok false) a b ρ = b ρ := nr rfl
def chain1 (f g : D → D → Option D) (a b : R D) (mc : EM) (ρ : Rho) : R D := match a, b with
  | .ok x, .ok y => (R.ofO (f x y)).bind fun z => match z with
    | .bool true => (mc ρ).bind fun w => R.ofO (g y w)
    | .bool false => .ok (.bool false)
    | _ => .bad
  | .ok _, .exc e => .exc e
  | .ok _, .bad => .bad
  | .exc e, _ => .exc e
  | .bad, _ => .bad
@[simp] theorem nilM_e (ρ : Rho) : nilM ρ = .ok [] := nr rfl
def cons1 : R D → R (List D) → R (List D)
  | .ok d, .ok ds => .ok (d :: ds)
  | .ok _, .exc e => .exc e
  | .ok _, .bad => .bad
  | .exc e, _ => .exc e
  | .bad, _ => .bad
@[simp] theorem consM_e (m : EM) (ms : LM) (ρ : Rho) : consM m ms ρ = cons1 (m ρ) (ms ρ) := by
  unfold consM
  cases m ρ with
  | ok d => cases ms ρ <;> rfl
  | _ => rfl
@[simp] theorem cons1_ok (d : D) (ds : List D) : cons1 (.ok d) (.ok ds) = .ok (d :: ds) := nr rfl
def tup1 : R (List D) → R D
  | .ok ds => if ds.length ≤ 16777216 then .ok (.tuple ds) else .bad
  | .exc e => .exc e
  | .bad => .bad
@[simp] theorem tupM_e (ms : LM) (ρ : Rho) : tupM ms ρ = tup1 (ms ρ) := by unfold tupM; cases ms ρ <;> rfl
theorem tup1_ok (ds : List D) (h : ds.length ≤ 16777216) : tup1 (.ok ds) = .ok (.tuple ds) := if_pos h
def lst1 : R (List D) → R (List D)
  | .ok ds => if ds.length ≤ 16777216 then .ok ds else .bad
  | .exc e => .exc e
  | .bad => .bad
@[simp] theorem lstM_e (ms : LM) (ρ : Rho) : lstM ms ρ = lst1 (ms ρ) := by unfold lstM; cases ms ρ <;> rfl
theorem lst1_ok (ds : List D) (h : ds.length ≤ 16777216) : lst1 (.ok ds) = .ok ds := if_pos h
@[simp] theorem tup1_0 : tup1 (.ok []) = .ok (.tuple []) := nr rfl
@[simp] theorem tup1_1 (a : D) : tup1 (.ok [a]) = .ok (.tuple [a]) := nr rfl
@[simp] theorem tup1_2 (a b : D) : tup1 (.ok [a, b]) = .ok (.tuple [a, b]) := nr rfl
@[simp] theorem tup1_3 (a b c : D) : tup1 (.ok [a, b, c]) = .ok (.tuple [a, b, c]) := nr rfl
@[simp] theorem tup1_4 (a b c d : D) : tup1 (.ok [a, b, c, d]) = .ok (.tuple [a, b, c, d]) := nr rfl
@[simp] theorem lst1_0 : lst1 (.ok []) = .ok [] := nr rfl
@[simp] theorem lst1_1 (a : D) : lst1 (.ok [a]) = .ok [a] := nr rfl
@[simp] theorem lst1_2 (a b : D) : lst1 (.ok [a, b]) = .ok [a, b] := nr rfl
@[simp] theorem lst1_3 (a b c : D) : lst1 (.ok [a, b, c]) = .ok [a, b, c] := nr rfl
@[simp] theorem lst1_4 (a b c d : D) : lst1 (.ok [a, b, c, d]) = .ok [a, b, c, d] := nr rfl
def toE1 : R (List D) → R D
  | .ok ds => .ok (.list ds)
  | .exc e => .exc e
  | .bad => .bad
@[simp] theorem toEM_e (ml : LM) (ρ : Rho) : toEM ml ρ = toE1 (ml ρ) := by unfold toEM; cases ml ρ <;> rfl
@[simp] theorem toE1_ok (ds : List D) : toE1 (.ok ds) = .ok (.list ds) := nr rfl
def unL1 (f : D → Option (List D)) : R D → R (List D)
  | .ok x => R.ofO (f x)
  | .exc e => .exc e
  | .bad => .bad
@[simp] theorem unL_e (f : D → Option (List D)) (m : EM) (ρ : Rho) : unL f m ρ = unL1 f (m ρ) := by unfold unL; cases m ρ <;> rfl
@[simp] theorem unL1_ok (f : D → Option (List D)) (x : D) : unL1 f (.ok x) = R.ofO (f x) := nr rfl
/-! ### calls -/
def call1 (n : Nat) (m : List D → R D) : R (List D) → R D
  | .ok ds => if ds.length = n then m ds else .bad
  | .exc e => .exc e
  | .bad => .bad
@[simp] theorem callM_e (n : Nat) (m : List D → R D) (ms : LM) (ρ : Rho) : callM n m ms ρ = call1 n m (ms ρ) := by unfold callM; cases ms ρ <;> rfl
@[simp] theorem call1_1 (m : List D → R D) (a : D) : call1 1 m (.ok [a]) = m [a] := nr rfl
@[simp] theorem call1_2 (m : List D → R D) (a b : D) : call1 2 m (.ok [a, b]) = m [a, b] := nr rfl
@[simp] theorem call1_3 (m : List D → R D) (a b c : D) : call1 3 m (.ok [a, b, c]) = m [a, b, c] := nr rfl
@[simp] theorem call1_4 (m : List D → R D) (a b c d : D) : call1 4 m (.ok [a, b, c, d]) = m [a, b, c, d] := nr rfl
/-! ### statements -/
def Out.sq (o : Out) (s : SM) : Out := match o with
  | .nx ρ => s ρ
  | o => o
@[simp] theorem seqM_e (s1 s2 : SM) (ρ : Rho) : seqM s1 s2 ρ = (s1 ρ).sq s2 := by unfold seqM Out.sq; cases s1 ρ <;> rfl
@[simp] theorem sq_nx (ρ : Rho) (s : SM) : (Out.nx ρ).sq s = s ρ := nr rfl
@[simp] theorem sq_ret (d : D) (s : SM) : (Out.ret d).sq s = .ret d := nr rfl
@[simp] theorem sq_brk (ρ : Rho) (s : SM) : (Out.brk ρ).sq s = .brk ρ := nr rfl
@[simp] theorem sq_ct (ρ : Rho) (s : SM) : (Out.ct ρ).sq s = .ct ρ := nr rfl
@[simp] theorem sq_exc (e : Ex) (ρ : Rho) (s : SM) : (Out.exc e ρ).sq s = .exc e ρ := nr rfl
@[simp] theorem skipM_e (ρ : Rho) : skipM ρ = .nx ρ := nr rfl
def ret1 (r : R D) (ρ : Rho) : Out := match r with
  | .ok d => .ret d
  | .exc e => .exc e ρ
  | .bad => .bad
@[simp] theorem retM_e (m : EM) (ρ : Rho) : retM m ρ = ret1 (m ρ) ρ := by unfold retM R.out ret1; cases m ρ <;> rfl
@[simp] theorem ret1_ok (d : D) (ρ : Rho) : ret1 (.ok d) ρ = .ret d := nr rfl
@[simp] theorem ret1_exc (e : Ex) (ρ : Rho) : ret1 (.exc e) ρ = .exc e ρ := nr rfl
def expr1 (r : R D) (ρ : Rho) : Out := match r with
  | .ok _ => .nx ρ
  | .exc e => .exc e ρ
  | .bad => .bad
@[simp] theorem exprM_e (m : EM) (ρ : Rho) : exprM m ρ = expr1 (m ρ) ρ := by unfold exprM R.out expr1; cases m ρ <;> rfl
@[simp] theorem expr1_ok (d : D) (ρ : Rho) : expr1 (.ok d) ρ = .nx ρ := nr rfl
@[simp] theorem expr1_exc (e : Ex) (ρ : Rho) : expr1 (.exc e) ρ = .exc e ρ := nr rfl
def ifS (r : R Bool) (t u : SM) (ρ : Rho) : Out := match r with
  | .ok true => t ρ
  | .ok false => u ρ
  | .exc e => .exc e ρ
  | .bad => .bad
@[simp] theorem ifM_e (c : BM) (t u : SM) (ρ : Rho) : ifM c t u ρ = ifS (c ρ) t u ρ := by
  unfold ifM R.out ifS
  cases c ρ with
  | ok b => cases b <;> rfl
  | _ => rfl
@[simp] theorem ifS_t (t u : SM) (ρ : Rho) : ifS (.ok true) t u ρ = t ρ := nr rfl
@[simp] theorem ifS_f (t u : SM) (ρ : Rho) : ifS (.ok false) t u ρ = u ρ := nr rfl
@[simp] theorem ifS_exc (e : Ex) (t u : SM) (ρ : Rho) : ifS (.exc e) t u ρ = .exc e ρ := nr rfl
def set1 (i : Nat) (r : R D) (ρ : Rho) : Out := match r with
  | .ok d => .nx (ρ.set i (some (.fz d)))
  | .exc e => .exc e ρ
  | .bad => .bad
@[simp] theorem setM_e (i : Nat) (m : EM) (ρ : Rho) : setM i m ρ = set1 i (m ρ) ρ := by unfold setM R.out set1; cases m ρ <;> rfl
@[simp] theorem set1_ok (i : Nat) (d : D) (ρ : Rho) : set1 i (.ok d) ρ = .nx (ρ.set i (some (.fz d))) := nr rfl
@[simp] theorem set1_exc (i : Nat) (e : Ex) (ρ : Rho) : set1 i (.exc e) ρ = .exc e ρ := nr rfl
def setL1 (i : Nat) (r : R (List D)) (ρ : Rho) : Out := match r with
  | .ok d => .nx (ρ.set i (some (.ol d)))
  | .exc e => .exc e ρ
  | .bad => .bad
@[simp] theorem setLM_e (i : Nat) (m : LM) (ρ : Rho) : setLM i m ρ = setL1 i (m ρ) ρ := by unfold setLM R.out setL1; cases m ρ <;> rfl
@[simp] theorem setL1_ok (i : Nat) (d : List D) (ρ : Rho) : setL1 i (.ok d) ρ = .nx (ρ.set i (some (.ol d))) := nr rfl
@[simp] theorem setL1_exc (i : Nat) (e : Ex) (ρ : Rho) : setL1 i (.exc e) ρ = .exc e ρ := nr rfl
def aug1 (i : Nat) (f : D → D → Option D) (a b : R D) (ρ : Rho) : Out := match a, b with
  | .ok x, .ok y => set1 i (R.ofO (f x y)) ρ
  | .ok _, .exc e => .exc e ρ
  | .ok _, .bad => .bad
  | .exc e, _ => .exc e ρ
  | .bad, _ => .bad
@[simp] theorem augM_e (i : Nat) (f : D → D → Option D) (m : EM) (ρ : Rho) : augM i f m ρ = aug1 i f (mVar i ρ) (m ρ) ρ := by
  unfold augM R.out aug1
  cases mVar i ρ with
  | ok x =>
    cases m ρ with
    | ok y =>
      dsimp only <;> (cases R.ofO (f x y) <;> rfl)
    | _ => rfl
  | _ => rfl
@[simp] theorem aug1_ok (i : Nat) (f : D → D → Option D) (x y : D) (ρ : Rho) : aug1 i f (.ok x) (.ok y) ρ = set1 i (R.ofO (f x y)) ρ := nr rfl
def par1 (i j : Nat) (r : R (List D)) (ρ : Rho) : Out := match r with
  | .ok [d, e] => .nx ((ρ.set i (some (.fz d))).set j (some (.fz e)))
  | .ok _ => .bad
  | .exc e => .exc e ρ
  | .bad => .bad
@[simp] theorem parM_e (i j : Nat) (ms : LM) (ρ : Rho) : parM i j ms ρ = par1 i j (ms ρ) ρ := by
  unfold parM R.out par1
  cases ms ρ with
  | ok ds => 
    match ds with
    | [] => rfl
    | [_] => rfl
    | [_, _] => rfl
    | _ :: _ :: _ :: _ => rfl
  | _ => rfl
@[simp] theorem par1_ok (i j : Nat) (d e : D) (ρ : Rho) : par1 i j (.ok [d, e]) ρ = .nx ((ρ.set i (some (.fz d))).set j (some (.fz e))) := nr rfl
/-! ### targets -/
@[simp] theorem gN_e (i : Nat) (d : D) (ρ : Rho) : gN i d ρ = some (ρ.set i (some (.fz d))) := nr rfl
@[simp] theorem gsN_e (ρ : Rho) : gsN [] ρ = some ρ := nr rfl
@[simp] theorem gsC_e (g : GM) (gs : GLM) (d : D) (ds : List D) (ρ : Rho) : gsC g gs (d :: ds) ρ = (g d ρ).bind (gs ds) := by
  unfold gsC
  cases h : g d ρ with
  | none => simp [h]
  | some x => simp [h]
@[simp] theorem gT_e1 (gs : GLM) (a : D) (ρ : Rho) : gT 1 gs (.tuple [a]) ρ = gs [a] ρ := nr rfl
@[simp] theorem gT_e2 (gs : GLM) (a b : D) (ρ : Rho) : gT 2 gs (.tuple [a, b]) ρ = gs [a, b] ρ := nr rfl
@[simp] theorem gT_e3 (gs : GLM) (a b c : D) (ρ : Rho) : gT 3 gs (.tuple [a, b, c]) ρ = gs [a, b, c] ρ := nr rfl
@[simp] theorem gT_e4 (gs : GLM) (a b c d : D) (ρ : Rho) : gT 4 gs (.tuple [a, b, c, d]) ρ = gs [a, b, c, d] ρ := nr rfl
@[simp] theorem gT_l2 (gs : GLM) (a b : D) (ρ : Rho) : gT 2 gs (.list [a, b]) ρ = gs [a, b] ρ := nr rfl
@[simp] theorem gT_l3 (gs : GLM) (a b c : D) (ρ : Rho) : gT 3 gs (.list [a, b, c]) ρ = gs [a, b, c] ρ := nr rfl
@[simp] theorem gT_l4 (gs : GLM) (a b c d : D) (ρ : Rho) : gT 4 gs (.list [a, b, c, d]) ρ = gs [a, b, c, d] ρ := nr rfl
def asg1 (g : GM) (r : R D) (ρ : Rho) : Out := match r with
  | .ok d => match g d ρ with
    | some ρ' => .nx ρ'
    | none => .bad
  | .exc e => .exc e ρ
  | .bad => .bad
@[simp] theorem asgM_e (g : GM) (m : EM) (ρ : Rho) : asgM g m ρ = asg1 g (m ρ) ρ := by
  unfold asgM R.out asg1
  cases m ρ with
  | ok d =>
    dsimp only <;> (cases g d ρ <;> rfl)
  | _ => rfl
def ofSome : Option Rho → Out
  | some ρ => .nx ρ
  | none => .bad
@[simp] theorem ofSome_some (ρ : Rho) : ofSome (some ρ) = .nx ρ := nr rfl
@[simp] theorem asg1_ok (g : GM) (d : D) (ρ : Rho) : asg1 g (.ok d) ρ = ofSome (g d ρ) := by
  show (match g d ρ with | some ρ' => _ | none => _) = _
  cases g d ρ <;> rfl
@[simp] theorem asg1_exc (g : GM) (e : Ex) (ρ : Rho) : asg1 g (.exc e) ρ = .exc e ρ := nr rfl
/-! ### lists of one's own, frozen lists -/
def app1 (i : Nat) (o : R (List D)) (r : R D) (ρ : Rho) : Out := match o, r with
  | .ok ds, .ok d => if ds.length < 16777216 then .nx (ρ.set i (some (.ol (ds ++ [d])))) else .bad
  | .ok _, .exc e => .exc e ρ
  | .ok _, .bad => .bad
  | .exc e, _ => .exc e ρ
  | .bad, _ => .bad
@[simp] theorem appM_e (i : Nat) (m : EM) (ρ : Rho) : appM i m ρ = app1 i (olAt i ρ) (m ρ) ρ := by
  unfold appM R.out app1
  cases olAt i ρ with
  | ok x => cases m ρ <;> rfl
  | _ => rfl
theorem app1_ok (i : Nat) (ds : List D) (d : D) (ρ : Rho) (h : ds.length < 16777216) : app1 i (.ok ds) (.ok d) ρ = .nx (ρ.set i (some (.ol (ds ++ [d])))) := if_pos h
@[simp] theorem olAt_0 (ds : List D) (ρ : Rho) : olAt 0 (some (.ol ds) :: ρ) = .ok ds := nr rfl
/-! ### iteration -/
def seq1 : R D → R (List D)
  | .ok (.list ds) => .ok ds
  | .ok (.tuple ds) => .ok ds
  | .exc e => .exc e
  | _ => .bad
@[simp] theorem seqI_e (m : EM) (ρ : Rho) : seqI m ρ = seq1 (m ρ) := by
  unfold seqI
  cases m ρ with
  | ok d => cases d <;> rfl
  | _ => rfl
@[simp] theorem seq1_l (ds : List D) : seq1 (.ok (.list ds)) = .ok ds := nr rfl
@[simp] theorem seq1_t (ds : List D) : seq1 (.ok (.tuple ds)) = .ok ds := nr rfl
def rng1 : R D → R (List D)
  | .ok (.int j) => if -4611686018427387904 ≤ j ∧ j < 4611686018427387904 then .ok (rngL 0 j.toNat) else .bad
  | .exc e => .exc e
  | _ => .bad
@[simp] theorem rng1I_e (m : EM) (ρ : Rho) : rng1I m ρ = rng1 (m ρ) := by
  unfold rng1I
  cases m ρ with
  | ok d => cases d <;> rfl
  | _ => rfl
theorem rng1_ok (j : Int) (h : -4611686018427387904 ≤ j) (h2 : j < 4611686018427387904) : rng1 (.ok (.int j)) = .ok (rngL 0 j.toNat) := if_pos ⟨h, h2⟩
@[simp] theorem rng1_2 : rng1 (.ok (.int 2)) = .ok [.int 0, .int 1] := nr rfl
@[simp] theorem rng1_3 : rng1 (.ok (.int 3)) = .ok [.int 0, .int 1, .int 2] := nr rfl
@[simp] theorem rng1_4 : rng1 (.ok (.int 4)) = .ok [.int 0, .int 1, .int 2, .int 3] := nr rfl
def zip1 : R D → R D → R (List D)
  | .ok (.list xs), .ok (.list ys) => .ok (zipD xs ys)
  | .ok (.tuple xs), .ok (.tuple ys) => .ok (zipD xs ys)
  | .ok _, .exc e => .exc e
  | .exc e, _ => .exc e
  | _, _ => .bad
@[simp] theorem zipI_e (m n : EM) (ρ : Rho) : zipI m n ρ = zip1 (m ρ) (n ρ) := by
  unfold zipI
  cases m ρ with
  | ok d =>
    cases n ρ with
    | ok e => cases d <;> cases e <;> rfl
    | _ => cases d <;> rfl
  | _ => cases n ρ <;> rfl
@[simp] theorem zip1_l (xs ys : List D) : zip1 (.ok (.list xs)) (.ok (.list ys)) = .ok (zipD xs ys) := nr rfl
@[simp] theorem zip1_t (xs ys : List D) : zip1 (.ok (.tuple xs)) (.ok (.tuple ys)) = .ok (zipD xs ys) := nr rfl
@[simp] theorem zipD_c (a b : D) (xs ys : List D) : zipD (a :: xs) (b :: ys) = .tuple [a, b] :: zipD xs ys := nr rfl
@[simp] theorem zipD_n (ys : List D) : zipD [] ys = [] := by cases ys <;> rfl
/-! ### comprehensions -/
@[simp] theorem yesM_e (ρ : Rho) : yesM ρ = .ok true := nr rfl
def lcE : R D → R (List D) → R (List D)
  | .ok x, .ok xs => .ok (x :: xs)
  | .ok _, .exc e => .exc e
  | _, _ => .bad
def lcT (r : R Bool) (me : EM) (ρ : Rho) (rs : R (List D)) : R (List D) := match r with
  | .ok true => lcE (me ρ) rs
  | .ok false => rs
  | _ => .bad
def lcG (o : Option Rho) (mt : BM) (me : EM) (rs : R (List D)) : R (List D) := match o with
  | some ρ => lcT (mt ρ) me ρ rs
  | none => .bad
@[simp] theorem lcL_nil (ρ : Rho) (g : GM) (mt : BM) (me : EM) : lcL ρ g mt me [] = .ok [] := nr rfl
theorem lcL_cons (ρ : Rho) (g : GM) (mt : BM) (me : EM) (d : D) (ds : List D) : lcL ρ g mt me (d :: ds) = lcG (g d ρ) mt me (lcL ρ g mt me ds) := by
  show (match g d ρ with | none => R.bad | some ρ1 => _) = _
  cases g d ρ with
  | none => rfl
  | some ρ1 =>
    show (match mt ρ1 with | .ok true => _ | .ok false => _ | _ => _) = lcT (mt ρ1) me ρ1 _
    cases mt ρ1 with
    | ok b =>
      cases b with
      | true =>
        show (match me ρ1 with | .ok x => _ | _ => _) = lcE (me ρ1) _
        cases me ρ1 with
        | ok x => cases lcL ρ g mt me ds <;> rfl
        | _ => rfl
      | false => rfl
    | _ => rfl
@[simp] theorem lcG_some (ρ : Rho) (mt : BM) (me : EM) (rs : R (List D)) : lcG (some ρ) mt me rs = lcT (mt ρ) me ρ rs := nr rfl
@[simp] theorem lcT_t (me : EM) (ρ : Rho) (rs : R (List D)) : lcT (.ok true) me ρ rs = lcE (me ρ) rs := nr rfl
@[simp] theorem lcT_f (me : EM) (ρ : Rho) (rs : R (List D)) : lcT (.ok false) me ρ rs = rs := nr rfl
@[simp] theorem lcE_ok (x : D) (xs : List D) : lcE (.ok x) (.ok xs) = .ok (x :: xs) := nr rfl
def lcB : R (List D) → R (List D)
  | .ok xs => .ok xs
  | _ => .bad
@[simp] theorem lcB_ok (xs : List D) : lcB (.ok xs) = .ok xs := nr rfl
def lc1 (own : List Nat) (r : R (List D)) (g : GM) (mt : BM) (me : EM) (ρ : Rho) : R (List D) := match r with
  | .ok ds => if ds.length ≤ 16777216 then lcB (lcL (wipeR ρ own) g mt me ds) else .bad
  | .exc e => .exc e
  | .bad => .bad
@[simp] theorem lcM_e (own : List Nat) (mi : LM) (g : GM) (mt : BM) (me : EM) (ρ : Rho) : lcM own mi g mt me ρ = lc1 own (mi ρ) g mt me ρ := by
  unfold lcM lc1
  cases mi ρ with
  | ok ds =>
    show (if ds.length ≤ 16777216 then _ else _) = _
    by_cases h : ds.length ≤ 16777216
    · rw [if_pos h]
      show _ = if ds.length ≤ 16777216 then lcB _ else R.bad
      rw [if_pos h]; cases lcL (wipeR ρ own) g mt me ds <;> rfl
    · rw [if_neg h]
      show _ = if ds.length ≤ 16777216 then lcB _ else R.bad
      rw [if_neg h]
  | _ => rfl
theorem lc1_ok (own : List Nat) (ds : List D) (g : GM) (mt : BM) (me : EM) (ρ : Rho) (h : ds.length ≤ 16777216) : lc1 own (.ok ds) g mt me ρ = lcB (lcL (wipeR ρ own) g mt me ds) := if_pos h
@[simp] theorem lc1_0 (own : List Nat) (g : GM) (mt : BM) (me : EM) (ρ : Rho) : lc1 own (.ok []) g mt me ρ = .ok [] := nr rfl
@[simp] theorem lc1_c (own : List Nat) (g : GM) (mt : BM) (me : EM) (ρ : Rho) (a : D) : lc1 own (.ok [a]) g mt me ρ = lcB (lcG (g a (wipeR ρ own)) mt me (.ok [])) := by
  rw [lc1_ok _ _ _ _ _ _ (by simp), lcL_cons]; rfl
@[simp] theorem lc1_2 (own : List Nat) (g : GM) (mt : BM) (me : EM) (ρ : Rho) (a b : D) : lc1 own (.ok [a, b]) g mt me ρ = lcB (lcG (g a (wipeR ρ own)) mt me (lcG (g b (wipeR ρ own)) mt me (.ok []))) := by
  rw [lc1_ok _ _ _ _ _ _ (by simp), lcL_cons, lcL_cons]; rfl
@[simp] theorem lc1_3 (own : List Nat) (g : GM) (mt : BM) (me : EM) (ρ : Rho) (a b c : D) : lc1 own (.ok [a, b, c]) g mt me ρ = lcB (lcG (g a (wipeR ρ own)) mt me (lcG (g b (wipeR ρ own)) mt me (lcG (g c (wipeR ρ own)) mt me (.ok [])))) := by
  rw [lc1_ok _ _ _ _ _ _ (by simp), lcL_cons, lcL_cons, lcL_cons]; rfl
@[simp] theorem lc1_4 (own : List Nat) (g : GM) (mt : BM) (me : EM) (ρ : Rho) (a b c d : D) : lc1 own (.ok [a, b, c, d]) g mt me ρ = lcB (lcG (g a (wipeR ρ own)) mt me (lcG (g b (wipeR ρ own)) mt me (lcG (g c (wipeR ρ own)) mt me (lcG (g d (wipeR ρ own)) mt me (.ok []))))) := by
  rw [lc1_ok _ _ _ _ _ _ (by simp), lcL_cons, lcL_cons, lcL_cons, lcL_cons]; rfl
/-- a comprehension without tests over any list -/
theorem lcL_map {ρ : Rho} {g : GM} {mt : BM} {me : EM} {f : D → D} : ∀ {ds : List D}, (∀ d ∈ ds, ∃ ρ1, g d ρ = some ρ1 ∧ mt ρ1 = .ok true ∧ me ρ1 = .ok (f d)) → lcL ρ g mt me ds = .ok (ds.map f)
  | [], _ => rfl
  | d :: ds, h => by
    obtain ⟨ρ1, h1, h2, h3⟩ := h d List.mem_cons_self
    rw [lcL_cons, h1, lcG_some, h2, lcT_t, h3, lcL_map fun d' hd => h d' (List.mem_cons_of_mem _ hd)]
    rfl
/-- with a test -/
theorem lcL_filter {ρ : Rho} {g : GM} {mt : BM} {me : EM} {f : D → D} {p : D → Bool} : ∀ {ds : List D}, (∀ d ∈ ds, ∃ ρ1, g d ρ = some ρ1 ∧ mt ρ1 = .ok (p d) ∧ (p d = true → me ρ1 = .ok (f d))) → lcL ρ g mt me ds = .ok ((ds.filter p).map f)
  | [], _ => rfl
  | d :: ds, h => by
    obtain ⟨ρ1, h1, h2, h3⟩ := h d List.mem_cons_self
    rw [lcL_cons, h1, lcG_some, h2, lcL_filter fun d' hd => h d' (List.mem_cons_of_mem _ hd)]
    cases hp : p d with
    | true => rw [lcT_t, h3 hp, List.filter_cons_of_pos hp]; rfl
    | false => rw [lcT_f, List.filter_cons_of_neg (by rw [hp]; decide)]
def runO : Out → R D
  | .nx _ => .ok .none
  | .ret d => .ok d
  | .exc e _ => .exc e
  | _ => .bad
theorem runD_e (n : Nat) (m : SM) (ds : List D) : runD n m ds = runO (m (rho0 n ds)) := by unfold runD runO; cases m (rho0 n ds) <;> rfl
@[simp] theorem runO_nx (ρ : Rho) : runO (.nx ρ) = .ok .none := nr rfl
@[simp] theorem runO_ret (d : D) : runO (.ret d) = .ok d := nr rfl
@[simp] theorem runO_exc (e : Ex) (ρ : Rho) : runO (.exc e ρ) = .exc e := nr rfl
end L2.VL

set_option Elab.async false
set_option linter.all false
set_option autoImplicit false
set_option maxRecDepth 100000
set_option maxHeartbeats 4000000
/-! VE2: values, reckoned; loops by invariants -/
namespace L2.VL
open PySem PySem.Spec PyProof.Rows
class Sm (n : outParam Nat) (i : Int) : Prop where
  le : i.natAbs < 2 ^ n
instance Sm.lit (n : Nat) : Sm (Nat.log2 n + 1) (no_index (OfNat.ofNat n : Int)) := ⟨by
  show n < _
  exact Nat.lt_log2_self⟩
instance Sm.neg {n : Nat} {i : Int} [h : Sm n i] : Sm n (-i) := ⟨by rw [Int.natAbs_neg]; exact h.le⟩
theorem two_mono {n m : Nat} (h : n ≤ m) : 2 ^ n ≤ 2 ^ m := Nat.pow_le_pow_right (by decide) h
instance Sm.add {n m : Nat} {i j : Int} [a : Sm n i] [b : Sm m j] : Sm (max n m + 1) (i + j) := ⟨by
  have h1 := a.le; have h2 := b.le
  have := two_mono (Nat.le_max_left n m)
  have := two_mono (Nat.le_max_right n m)
  rw [Nat.pow_succ]
  omega⟩
instance Sm.sub {n m : Nat} {i j : Int} [a : Sm n i] [b : Sm m j] : Sm (max n m + 1) (i - j) := ⟨by
  have h1 := a.le; have h2 := b.le
  have := two_mono (Nat.le_max_left n m)
  have := two_mono (Nat.le_max_right n m)
  rw [Nat.pow_succ]
  omega⟩
instance Sm.mul {n m : Nat} {i j : Int} [a : Sm n i] [b : Sm m j] : Sm (n + m) (i * j) := ⟨by
  rw [Int.natAbs_mul, Nat.pow_add]
  exact Nat.mul_lt_mul'' a.le b.le⟩
instance Sm.emod {n m : Nat} {i j : Int} [a : Sm n i] [b : Sm m j] : Sm (max n m) (i % j) := ⟨by
  have h1 := a.le; have h2 := b.le
  have := two_mono (Nat.le_max_left n m)
  have := two_mono (Nat.le_max_right n m)
  by_cases hj : j = 0
  · subst hj; rw [Int.emod_zero]; omega
  · have h3 := Int.emod_lt i hj
    have h4 := Int.emod_nonneg i hj
    omega⟩
instance Sm.ediv {n : Nat} {i j : Int} [a : Sm n i] : Sm n (i / j) := ⟨Nat.lt_of_le_of_lt (Int.natAbs_ediv_le_natAbs i j) a.le⟩
theorem Sm.log {n N : Nat} {i : Int} (h : Sm n i) (hn : n ≤ N) (hN : 0 < N) : i.natAbs.log2 < N := by
  by_cases h0 : i.natAbs = 0
  · rw [h0]; exact hN
  · exact (Nat.log2_lt h0).mpr (Nat.lt_of_lt_of_le h.le (two_mono hn))
theorem mulOk_sm {n m : Nat} (i j : Int) [a : Sm n i] [b : Sm m j] (h : n ≤ 1000000) (h2 : m ≤ 1000000) : mulOk i j = true := by
  unfold mulOk
  rw [decide_eq_true (a.log h (by decide)), decide_eq_true (b.log h2 (by decide))]
  simp
@[simp] theorem mulI_e {n m : Nat} (i j : Int) [a : Sm n i] [b : Sm m j] (h : n ≤ 1000000) (h2 : m ≤ 1000000) : mulI (.int i) (.int j) = some (.int (i * j)) := if_pos (mulOk_sm i j h h2)
theorem mulI_l (i j : Int) (h : i.natAbs < 2 ^ 60) : mulI (.int i) (.int j) = some (.int (i * j)) := if_pos (by
  have : i.natAbs.log2 < 60 := by
    by_cases h0 : i.natAbs = 0
    · rw [h0]; decide
    · exact (Nat.log2_lt h0).mpr h
  unfold mulOk
  rw [decide_eq_true this]; rfl)
theorem mulI_r (i j : Int) (h : j.natAbs < 2 ^ 60) : mulI (.int i) (.int j) = some (.int (i * j)) := if_pos (by
  have : j.natAbs.log2 < 60 := by
    by_cases h0 : j.natAbs = 0
    · rw [h0]; decide
    · exact (Nat.log2_lt h0).mpr h
  unfold mulOk
  rw [decide_eq_true this]; simp)
@[simp] theorem addI_e (i j : Int) : addI (.int i) (.int j) = some (.int (i + j)) := nr rfl
@[simp] theorem addD_e (i j : Int) : addD (.int i) (.int j) = some (.int (i + j)) := nr rfl
@[simp] theorem subD_e (i j : Int) : subD (.int i) (.int j) = some (.int (i - j)) := nr rfl
@[simp] theorem negD_e (i : Int) : negD (.int i) = some (.int (-i)) := nr rfl
theorem modD_e (i j : Int) (h : 0 < j) : modD (.int i) (.int j) = some (.int (i % j)) := if_pos h
theorem divOk_of (j : Int) (h : 0 < j) (h2 : j < 1267650600228229401496703205376) : divOk j = true := by
  have : j.natAbs.log2 < 9000 := by
    by_cases h0 : j.natAbs = 0
    · rw [h0]; decide
    · exact Nat.lt_of_lt_of_le ((Nat.log2_lt (k := 100) h0).mpr (by omega)) (by decide)
  unfold divOk
  rw [decide_eq_true h, decide_eq_true this]; rfl
theorem fdivD_e (i j : Int) (h : 0 < j) (h2 : j < 1267650600228229401496703205376) : fdivD (.int i) (.int j) = some (.int (i / j)) := if_pos (divOk_of j h h2)
@[simp] theorem ltD_e (i j : Int) : ltD (.int i) (.int j) = some (.bool (decide (i < j))) := nr rfl
@[simp] theorem leD_e (i j : Int) : leD (.int i) (.int j) = some (.bool (decide (i ≤ j))) := nr rfl
@[simp] theorem gtD_e (i j : Int) : gtD (.int i) (.int j) = some (.bool (decide (j < i))) := nr rfl
@[simp] theorem geD_e (i j : Int) : geD (.int i) (.int j) = some (.bool (decide (j ≤ i))) := nr rfl
@[simp] theorem intD_e (i : Int) : intD (.int i) = some (.int i) := nr rfl
@[simp] theorem intD_b (b : Bool) : intD (.bool b) = some (.int (if b then 1 else 0)) := nr rfl
@[simp] theorem absD_e (i : Int) : absD (.int i) = some (.int (if i < 0 then -i else i)) := nr rfl
@[simp] theorem lenD_l (ds : List D) : lenD (.list ds) = some (.int ds.length) := nr rfl
@[simp] theorem lenD_t (ds : List D) : lenD (.tuple ds) = some (.int ds.length) := nr rfl
@[simp] theorem tupD_l (ds : List D) : tupD (.list ds) = some (.tuple ds) := nr rfl
@[simp] theorem tupD_t (ds : List D) : tupD (.tuple ds) = some (.tuple ds) := nr rfl
@[simp] theorem lstD_l (ds : List D) : lstD (.list ds) = some ds := nr rfl
@[simp] theorem lstD_t (ds : List D) : lstD (.tuple ds) = some ds := nr rfl
@[simp] theorem max2D_e (i j : Int) : max2D (.int i) (.int j) = some (.int (if j > i then j else i)) := nr rfl
@[simp] theorem min2D_e (i j : Int) : min2D (.int i) (.int j) = some (.int (if j < i then j else i)) := nr rfl
@[simp] theorem isi1D_e (t : Tc) (d : D) : isi1D t d = some (.bool (isTy t d)) := nr rfl
@[simp] theorem isi2D_e (t u : Tc) (d : D) : isi2D t u d = some (.bool (isTy t d || isTy u d)) := nr rfl
/-! ### ints in lists -/
@[simp] theorem intsOf_nil : intsOf [] = some [] := nr rfl
@[simp] theorem intsOf_cons (i : Int) (ds : List D) : intsOf (.int i :: ds) = (intsOf ds).map (i :: ·) := nr rfl
@[simp] theorem sumD_e (ds : List D) : sumD (.list ds) = (intsOf ds).map fun ns => .int ns.sum := nr rfl
@[simp] theorem boolsOf_nil : boolsOf [] = some [] := nr rfl
@[simp] theorem boolsOf_cons (i : Bool) (ds : List D) : boolsOf (.bool i :: ds) = (boolsOf ds).map (i :: ·) := nr rfl
@[simp] theorem anyD_e (ds : List D) : anyD (.list ds) = (boolsOf ds).map fun ns => .bool (ns.any _root_.id) := nr rfl
@[simp] theorem allD_e (ds : List D) : allD (.list ds) = (boolsOf ds).map fun ns => .bool (ns.all _root_.id) := nr rfl
/-! ### places -/
@[simp] theorem ixD_l (ds : List D) (i : Int) : ixD (.list ds) (.int i) = L2.atI ds i := by
  show (L2.atI ds i).or (none.or none) = _
  cases L2.atI ds i <;> rfl
@[simp] theorem ixD_t (ds : List D) (i : Int) : ixD (.tuple ds) (.int i) = L2.atI ds i := by
  show (none : Option D).or ((L2.atI ds i).or none) = _
  cases L2.atI ds i <;> rfl
theorem atI_n {α : Type} (ds : List α) (i : Int) (h : 0 ≤ i) : L2.atI ds i = ds[i.toNat]? := by
  by_cases hl : i.toNat < ds.length
  · have := L2.atI_nat (xs := ds) (j := i.toNat) (List.getElem?_eq_getElem hl)
    rw [show ((i.toNat : Nat) : Int) = i by omega] at this
    rw [this, List.getElem?_eq_getElem hl]
  · rw [List.getElem?_eq_none (by omega)]
    unfold L2.atI
    have : ixN ds.length i = none := by
      unfold ixN
      rw [if_pos h, if_neg (by omega)]
    rw [this]; rfl
@[simp] theorem atI_0 {α : Type} (a : α) (ds : List α) : L2.atI (a :: ds) 0 = some a := by rw [atI_n _ _ (by decide)]; rfl
@[simp] theorem atI_1 {α : Type} (a b : α) (ds : List α) : L2.atI (a :: b :: ds) 1 = some b := by rw [atI_n _ _ (by decide)]; rfl
@[simp] theorem atI_2 {α : Type} (a b c : α) (ds : List α) : L2.atI (a :: b :: c :: ds) 2 = some c := by rw [atI_n _ _ (by decide)]; rfl
@[simp] theorem atI_3 {α : Type} (a b c d : α) (ds : List α) : L2.atI (a :: b :: c :: d :: ds) 3 = some d := by rw [atI_n _ _ (by decide)]; rfl
/-! ### equality -/
theorem eqD_e (a b : D) (h1 : flat64 a = true) (h2 : flat64 b = true) : eqD a b = some (.bool (PyData.eqv a b)) := if_pos ⟨h1, h2⟩
theorem neD_e (a b : D) (h1 : flat64 a = true) (h2 : flat64 b = true) : neD a b = some (.bool (!PyData.eqv a b)) := if_pos ⟨h1, h2⟩
@[simp] theorem eqD_i (i j : Int) : eqD (.int i) (.int j) = some (.bool (decide (i = j))) := by
  rw [eqD_e _ _ (by rfl) (by rfl)]
  show some (PyData.bool (i == j)) = _
  rw [Bool.beq_eq_decide_eq]
@[simp] theorem neD_i (i j : Int) : neD (.int i) (.int j) = some (.bool (decide (i ≠ j))) := by
  rw [neD_e _ _ (by rfl) (by rfl)]
  show some (PyData.bool (!(i == j))) = _
  rw [Bool.beq_eq_decide_eq, decide_not]
/-! ### loops -/
theorem forL_nil (g : GM) (b : SM) (ρ : Rho) : forL g b [] ρ = .nx ρ := rfl
def forO (o : Out) (g : GM) (b : SM) (ds : List D) : Out := match o with
  | .nx ρ => forL g b ds ρ
  | .ct ρ => forL g b ds ρ
  | .brk ρ => .nx ρ
  | o => o
@[simp] theorem forO_nx (ρ : Rho) (g : GM) (b : SM) (ds : List D) : forO (.nx ρ) g b ds = forL g b ds ρ := nr rfl
@[simp] theorem forO_ct (ρ : Rho) (g : GM) (b : SM) (ds : List D) : forO (.ct ρ) g b ds = forL g b ds ρ := nr rfl
@[simp] theorem forO_brk (ρ : Rho) (g : GM) (b : SM) (ds : List D) : forO (.brk ρ) g b ds = .nx ρ := nr rfl
@[simp] theorem forO_ret (d : D) (g : GM) (b : SM) (ds : List D) : forO (.ret d) g b ds = .ret d := nr rfl
@[simp] theorem forO_exc (e : Ex) (ρ : Rho) (g : GM) (b : SM) (ds : List D) : forO (.exc e ρ) g b ds = .exc e ρ := nr rfl
def forG (o : Option Rho) (g : GM) (b : SM) (ds : List D) : Out := match o with
  | some ρ => forO (b ρ) g b ds
  | none => .bad
@[simp] theorem forG_some (ρ : Rho) (g : GM) (b : SM) (ds : List D) : forG (some ρ) g b ds = forO (b ρ) g b ds := nr rfl
@[simp] theorem forL_n (g : GM) (b : SM) (ρ : Rho) : forL g b [] ρ = .nx ρ := nr rfl
theorem forL_cons (g : GM) (b : SM) (d : D) (ds : List D) (ρ : Rho) : forL g b (d :: ds) ρ = forG (g d ρ) g b ds := by
  rw [forL]
  cases g d ρ with
  | none => rfl
  | some ρ1 =>
    show _ = forO (b ρ1) g b ds
    dsimp only <;> (cases b ρ1 <;> rfl)
/-- a for loop that goes through, by an invariant -/
theorem forL_inv {g : GM} {b : SM} (P : Nat → Rho → Prop) : ∀ {ds : List D} {k : Nat} {ρ : Rho}, P k ρ → (∀ i d ρ, ds[i]? = some d → P (k + i) ρ → ∃ ρ1 ρ2, g d ρ = some ρ1 ∧ (b ρ1 = .nx ρ2 ∨ b ρ1 = .ct ρ2) ∧ P (k + i + 1) ρ2) → ∃ ρ', forL g b ds ρ = .nx ρ' ∧ P (k + ds.length) ρ'
  | [], k, ρ, h, _ => ⟨ρ, rfl, h⟩
  | d :: ds, k, ρ, h, hs => by
    obtain ⟨ρ1, ρ2, h1, h2, h3⟩ := hs 0 d ρ rfl h
    obtain ⟨ρ', h4, h5⟩ := forL_inv P (ds := ds) (k := k + 1) (ρ := ρ2) h3 fun i d ρ hd hp => by
      have := hs (i + 1) d ρ hd (by rw [show k + (i + 1) = k + 1 + i by omega]; exact hp)
      rw [show k + (i + 1) + 1 = k + 1 + i + 1 by omega] at this
      exact this
    refine ⟨ρ', ?_, by rw [List.length_cons, show k + (ds.length + 1) = k + 1 + ds.length by omega]; exact h5⟩
    show (match g d ρ with | some ρ1 => (match b ρ1 with | .nx ρ' => forL g b ds ρ' | .ct ρ' => forL g b ds ρ' | .brk ρ' => .nx ρ' | o => o) | none => .bad) = _
    rw [h1]
    rcases h2 with h2 | h2
    · dsimp only; rw [h2]; exact h4
    · dsimp only; rw [h2]; exact h4
/-- a while loop that ends by its test, by an invariant with a measure -/
theorem whileL_inv {c : BM} {b : SM} (P : Nat → Rho → Prop) (Q : Rho → Prop) (hs : ∀ n ρ, P n ρ → (c ρ = .ok false ∧ Q ρ) ∨ (c ρ = .ok true ∧ ∃ ρ' m, (b ρ = .nx ρ' ∨ b ρ = .ct ρ') ∧ m < n ∧ P m ρ')) : ∀ {fuel n : Nat} {ρ : Rho}, P n ρ → n < fuel → ∃ ρ', whileL c b fuel ρ = .nx ρ' ∧ Q ρ'
  | 0, n, ρ, _, h => absurd h (Nat.not_lt_zero _)
  | fuel + 1, n, ρ, h, hf => by
    show ∃ ρ', ((c ρ).out ρ fun t => if t = true then (match b ρ with | .nx ρ' => whileL c b fuel ρ' | .ct ρ' => whileL c b fuel ρ' | .brk ρ' => .nx ρ' | o => o) else .nx ρ) = .nx ρ' ∧ Q ρ'
    rcases hs n ρ h with ⟨h1, h2⟩ | ⟨h1, ρ', m, h2, h3, h4⟩
    · rw [h1]; exact ⟨ρ, rfl, h2⟩
    · obtain ⟨ρ2, h5, h6⟩ := whileL_inv P Q hs (fuel := fuel) h4 (by omega)
      refine ⟨ρ2, ?_, h6⟩
      rw [h1]
      unfold R.out
      dsimp only
      rw [if_pos rfl]
      rcases h2 with h2 | h2
      · rw [h2]; exact h5
      · rw [h2]; exact h5
def for1 (r : R (List D)) (g : GM) (b : SM) (ρ : Rho) : Out := match r with
  | .ok ds => forL g b ds ρ
  | .exc e => .exc e ρ
  | .bad => .bad
@[simp] theorem forM_e (mi : LM) (g : GM) (b : SM) (ρ : Rho) : forM mi g b ρ = for1 (mi ρ) g b ρ := by unfold forM R.out for1; cases mi ρ <;> rfl
theorem for1_ok (ds : List D) (g : GM) (b : SM) (ρ : Rho) : for1 (.ok ds) g b ρ = forL g b ds ρ := nr rfl
/-! ### the numbers of the list of a range -/
theorem rngL_len (lo : Int) (n : Nat) : (rngL lo n).length = n := by unfold rngL; simp
theorem rngL_get {lo : Int} {n i : Nat} {d : D} (h : (rngL lo n)[i]? = some d) : i < n ∧ d = .int (lo + i) := by
  have hl := (List.getElem?_eq_some_iff.mp h).1
  rw [rngL_len] at hl
  refine ⟨hl, ?_⟩
  unfold rngL at h
  rw [List.getElem?_map, List.getElem?_range hl] at h
  exact (Option.some.inj h).symm
theorem rngL_mem {lo : Int} {n : Nat} {d : D} (h : d ∈ rngL lo n) : ∃ i : Nat, i < n ∧ d = .int (lo + i) := by
  obtain ⟨i, hi⟩ := List.getElem?_of_mem h
  exact ⟨i, rngL_get hi⟩
/-! ### slices -/
def slice1 (a : R D) (l h : R (Option Int)) : R D := match a, l, h with
  | .ok d, .ok l, .ok h => R.ofO (slD d l h)
  | .exc e, _, _ => .exc e
  | .ok _, .exc e, _ => .exc e
  | .ok _, .ok _, .exc e => .exc e
  | _, _, _ => .bad
@[simp] theorem sliceM_e (m : EM) (lo hi : PM) (ρ : Rho) : sliceM m lo hi ρ = slice1 (m ρ) (lo ρ) (hi ρ) := by
  unfold sliceM slice1
  cases m ρ with
  | ok d =>
    cases lo ρ with
    | ok l => cases hi ρ <;> rfl
    | _ => rfl
  | _ => rfl
@[simp] theorem slice1_ok (d : D) (l h : Option Int) : slice1 (.ok d) (.ok l) (.ok h) = R.ofO (slD d l h) := nr rfl
@[simp] theorem noP_e (ρ : Rho) : noP ρ = .ok none := nr rfl
def some1 : R D → R (Option Int)
  | .ok (.int i) => .ok (some i)
  | .exc e => .exc e
  | _ => .bad
@[simp] theorem someP_e (m : EM) (ρ : Rho) : someP m ρ = some1 (m ρ) := by
  unfold someP
  cases m ρ with
  | ok d => cases d <;> rfl
  | _ => rfl
@[simp] theorem some1_ok (i : Int) : some1 (.ok (.int i)) = .ok (some i) := nr rfl
@[simp] theorem slD_l (ds : List D) (l h : Option Int) : slD (.list ds) l h = some (.list (cutG ds l h)) := nr rfl
@[simp] theorem slD_t (ds : List D) (l h : Option Int) : slD (.tuple ds) l h = some (.tuple (cutG ds l h)) := nr rfl
theorem cutG_to {α : Type} (xs : List α) (n : Int) (h : 0 ≤ n) : cutG xs none (some n) = xs.take n.toNat := by
  unfold cutG
  rw [show n = ((n.toNat : Nat) : Int) by omega, HT.sIx_none, HT.sIx_nat, List.drop_zero, Nat.sub_zero, Int.toNat_natCast]
  by_cases hl : n.toNat ≤ xs.length
  · rw [Nat.min_eq_left hl]
  · rw [Nat.min_eq_right (by omega), List.take_of_length_le (Nat.le_refl _), List.take_of_length_le (by omega)]
theorem powD_e (i j : Int) (h : powOk i j = true) : powD (.int i) (.int j) = some (.int (i ^ j.toNat)) := if_pos h
def slotAt : Nat → Rho → Option Sl
  | _, [] => none
  | 0, o :: _ => o
  | n + 1, _ :: ρ => slotAt n ρ
theorem slotAt_s : ∀ (i : Nat) (ρ : Rho), ρ[i]?.join = slotAt i ρ
  | 0, [] => rfl
  | _ + 1, [] => rfl
  | 0, o :: _ => by cases o <;> rfl
  | n + 1, _ :: ρ => slotAt_s n ρ
@[simp] theorem slotAt_0 (o : Option Sl) (ρ : Rho) : slotAt 0 (o :: ρ) = o := nr rfl
theorem slotAt_succ (n : Nat) (o : Option Sl) (ρ : Rho) : slotAt (n + 1) (o :: ρ) = slotAt n ρ := nr rfl
theorem olAt_succ (n : Nat) (o : Option Sl) (ρ : Rho) : olAt (n + 1) (o :: ρ) = olAt n ρ := nr rfl
theorem mVarO_succ (n : Nat) (o : Option Sl) (ρ : Rho) : mVarO (n + 1) (o :: ρ) = mVarO n ρ := nr rfl
@[simp] theorem mVarO_fz (d : D) (ρ : Rho) : mVarO 0 (some (.fz d) :: ρ) = .ok d := nr rfl
@[simp] theorem mVarO_ol (ds : List D) (ρ : Rho) : mVarO 0 (some (.ol ds) :: ρ) = .ok (.list ds) := nr rfl
def frzS (o : Option Sl) (i : Nat) (s : SM) (ρ : Rho) : Out := match o with
  | some (.ol ds) => s (ρ.set i (some (.fz (.list ds))))
  | _ => s ρ
@[simp] theorem frzM_e (i : Nat) (s : SM) (ρ : Rho) : frzM i s ρ = frzS (slotAt i ρ) i s ρ := by
  unfold frzM
  rw [← slotAt_s]
  cases h : ρ[i]? with
  | none => rfl
  | some o =>
    cases o with
    | none => rfl
    | some sl => cases sl <;> rfl
@[simp] theorem frzS_ol (ds : List D) (i : Nat) (s : SM) (ρ : Rho) : frzS (some (.ol ds)) i s ρ = s (ρ.set i (some (.fz (.list ds)))) := nr rfl
@[simp] theorem frzS_fz (d : D) (i : Nat) (s : SM) (ρ : Rho) : frzS (some (.fz d)) i s ρ = s ρ := nr rfl
@[simp] theorem frzS_no (i : Nat) (s : SM) (ρ : Rho) : frzS none i s ρ = s ρ := nr rfl
/-- all from 0 on below 1009 -/
def In9 (zs : List Int) : Prop := ∀ z ∈ zs, 0 ≤ z ∧ z < 1009
theorem In9.append {a b : List Int} (h : In9 a) (h2 : In9 b) : In9 (a ++ b) := fun z hz => by
  rcases List.mem_append.mp hz with q | q
  · exact h z q
  · exact h2 z q
theorem In9.one {z : Int} (h : 0 ≤ z) (h2 : z < 1009) : In9 [z] := fun y hy => by
  rw [List.mem_singleton.mp hy]; exact ⟨h, h2⟩
theorem In9.take {a : List Int} (h : In9 a) (n : Nat) : In9 (a.take n) := fun z hz => h z (List.mem_of_mem_take hz)
theorem map_snoc (zs : List Int) (z : Int) : zs.map PyData.int ++ [.int z] = (zs ++ [z]).map .int := by rw [List.map_append]; rfl
theorem map_get {zs : List Int} {i : Nat} {d : D} (h : (zs.map PyData.int)[i]? = some d) : ∃ z, zs[i]? = some z ∧ d = .int z := by
  rw [List.getElem?_map] at h
  cases q : zs[i]? with
  | none => rw [q] at h; cases h
  | some z => rw [q] at h; cases h; exact ⟨z, rfl, rfl⟩
theorem map_at (zs : List Int) (i : Int) : L2.atI (zs.map PyData.int) i = (L2.atI zs i).map .int := by
  unfold L2.atI
  rw [List.length_map]
  cases ixN zs.length i with
  | none => rfl
  | some j => show (zs.map PyData.int)[j]? = (zs[j]?).map .int; rw [List.getElem?_map]
/-! ### tables -/
@[simp] theorem eqD_t22 (a b c d a' b' c' d' : Int) : eqD (.tuple [.tuple [.int a, .int b], .tuple [.int c, .int d]]) (.tuple [.tuple [.int a', .int b'], .tuple [.int c', .int d']]) = some (.bool (decide (a = a' ∧ b = b' ∧ c = c' ∧ d = d'))) := by
  rw [eqD_e _ _ (by rfl) (by rfl)]
  show some (PyData.bool (((a == a') && ((b == b') && true)) && (((c == c') && ((d == d') && true)) && true))) = _
  simp only [Bool.beq_eq_decide_eq, Bool.and_true, Bool.decide_and, Bool.and_assoc]
@[simp] theorem neD_t22 (a b c d a' b' c' d' : Int) : neD (.tuple [.tuple [.int a, .int b], .tuple [.int c, .int d]]) (.tuple [.tuple [.int a', .int b'], .tuple [.int c', .int d']]) = some (.bool (!decide (a = a' ∧ b = b' ∧ c = c' ∧ d = d'))) := by
  rw [neD_e _ _ (by rfl) (by rfl)]
  show some (PyData.bool (!(((a == a') && ((b == b') && true)) && (((c == c') && ((d == d') && true)) && true)))) = _
  simp only [Bool.beq_eq_decide_eq, Bool.and_true, Bool.decide_and, Bool.and_assoc]
@[simp] theorem chainM_e (f g : D → D → Option D) (ma mb mc : EM) (ρ : Rho) : chainM f g ma mb mc ρ = chain1 f g (ma ρ) (mb ρ) mc ρ := by
  unfold chainM chain1
  cases ma ρ with
  | ok x => cases mb ρ <;> rfl
  | _ => rfl
def chain2 (o : Option D) (g : D → D → Option D) (y : D) (mc : EM) (ρ : Rho) : R D := match o with
  | some (.bool true) => un1 (g y) (mc ρ)
  | some (.bool false) => .ok (.bool false)
  | _ => .bad
@[simp] theorem chain1_ok (f g : D → D → Option D) (x y : D) (mc : EM) (ρ : Rho) : chain1 f g (.ok x) (.ok y) mc ρ = chain2 (f x y) g y mc ρ := by
  dsimp only [chain1]
  cases f x y with
  | none => rfl
  | some z =>
    cases z with
    | bool b => cases b with
      | true =>
        show (mc ρ).bind _ = un1 (g y) (mc ρ)
        cases mc ρ <;> rfl
      | false => rfl
    | _ => rfl
@[simp] theorem chain2_t (g : D → D → Option D) (y : D) (mc : EM) (ρ : Rho) : chain2 (some (.bool true)) g y mc ρ = un1 (g y) (mc ρ) := nr rfl
@[simp] theorem chain2_f (g : D → D → Option D) (y : D) (mc : EM) (ρ : Rho) : chain2 (some (.bool false)) g y mc ρ = .ok (.bool false) := nr rfl
/-! ### two clauses -/
def l2A (r : R (List D)) (rs : R (List D)) : R (List D) := match r, rs with
  | .ok ys, .ok xs => .ok (ys ++ xs)
  | .ok _, .exc e => .exc e
  | _, _ => .bad
@[simp] theorem l2A_ok (xs ys : List D) : l2A (.ok ys) (.ok xs) = .ok (ys ++ xs) := nr rfl
def l2I (r : R (List D)) (own1 : List Nat) (g1 : GM) (mt1 : BM) (me : EM) (ρ : Rho) (rs : R (List D)) : R (List D) := match r with
  | .ok ds1 => l2A (lcL (wipeR ρ own1) g1 mt1 me ds1) rs
  | _ => .bad
@[simp] theorem l2I_ok (ds1 : List D) (own1 : List Nat) (g1 : GM) (mt1 : BM) (me : EM) (ρ : Rho) (rs : R (List D)) : l2I (.ok ds1) own1 g1 mt1 me ρ rs = l2A (lcL (wipeR ρ own1) g1 mt1 me ds1) rs := nr rfl
def l2T (r : R Bool) (own1 : List Nat) (mi1 : LM) (g1 : GM) (mt1 : BM) (me : EM) (ρ : Rho) (rs : R (List D)) : R (List D) := match r with
  | .ok true => l2I (mi1 ρ) own1 g1 mt1 me ρ rs
  | .ok false => rs
  | _ => .bad
@[simp] theorem l2T_t (own1 : List Nat) (mi1 : LM) (g1 : GM) (mt1 : BM) (me : EM) (ρ : Rho) (rs : R (List D)) : l2T (.ok true) own1 mi1 g1 mt1 me ρ rs = l2I (mi1 ρ) own1 g1 mt1 me ρ rs := nr rfl
@[simp] theorem l2T_f (own1 : List Nat) (mi1 : LM) (g1 : GM) (mt1 : BM) (me : EM) (ρ : Rho) (rs : R (List D)) : l2T (.ok false) own1 mi1 g1 mt1 me ρ rs = rs := nr rfl
def l2G (o : Option Rho) (own1 : List Nat) (mt : BM) (mi1 : LM) (g1 : GM) (mt1 : BM) (me : EM) (rs : R (List D)) : R (List D) := match o with
  | some ρ => l2T (mt ρ) own1 mi1 g1 mt1 me ρ rs
  | none => .bad
@[simp] theorem l2G_s (ρ : Rho) (own1 : List Nat) (mt : BM) (mi1 : LM) (g1 : GM) (mt1 : BM) (me : EM) (rs : R (List D)) : l2G (some ρ) own1 mt mi1 g1 mt1 me rs = l2T (mt ρ) own1 mi1 g1 mt1 me ρ rs := nr rfl
theorem lc2L_cons (own1 : List Nat) (ρ : Rho) (g : GM) (mt : BM) (mi1 : LM) (g1 : GM) (mt1 : BM) (me : EM) (d : D) (ds : List D) : lc2L own1 ρ g mt mi1 g1 mt1 me (d :: ds) = l2G (g d ρ) own1 mt mi1 g1 mt1 me (lc2L own1 ρ g mt mi1 g1 mt1 me ds) := by
  rw [lc2L]
  cases g d ρ with
  | none => rfl
  | some ρ1 =>
    dsimp only
    show _ = l2T (mt ρ1) own1 mi1 g1 mt1 me ρ1 _
    cases mt ρ1 with
    | ok b =>
      cases b with
      | true =>
        dsimp only
        show _ = l2I (mi1 ρ1) own1 g1 mt1 me ρ1 _
        cases mi1 ρ1 with
        | ok ds1 =>
          dsimp only
          show _ = l2A (lcL (wipeR ρ1 own1) g1 mt1 me ds1) _
          cases lcL (wipeR ρ1 own1) g1 mt1 me ds1 with
          | ok ys => cases lc2L own1 ρ g mt mi1 g1 mt1 me ds <;> rfl
          | _ => cases lc2L own1 ρ g mt mi1 g1 mt1 me ds <;> rfl
        | _ => rfl
      | false => rfl
    | _ => rfl
@[simp] theorem lc2L_nil (own1 : List Nat) (ρ : Rho) (g : GM) (mt : BM) (mi1 : LM) (g1 : GM) (mt1 : BM) (me : EM) : lc2L own1 ρ g mt mi1 g1 mt1 me [] = .ok [] := nr rfl
def l2B : R (List D) → R (List D)
  | .ok xs => if xs.length ≤ 16777216 then .ok xs else .bad
  | _ => .bad
theorem l2B_ok (xs : List D) (h : xs.length ≤ 16777216) : l2B (.ok xs) = .ok xs := if_pos h
def lc21 (r : R (List D)) (own own1 : List Nat) (g : GM) (mt : BM) (mi1 : LM) (g1 : GM) (mt1 : BM) (me : EM) (ρ : Rho) : R (List D) := match r with
  | .ok ds => l2B (lc2L own1 (wipeR ρ own) g mt mi1 g1 mt1 me ds)
  | .exc e => .exc e
  | .bad => .bad
@[simp] theorem lc2M_e (own own1 : List Nat) (mi : LM) (g : GM) (mt : BM) (mi1 : LM) (g1 : GM) (mt1 : BM) (me : EM) (ρ : Rho) : lc2M own own1 mi g mt mi1 g1 mt1 me ρ = lc21 (mi ρ) own own1 g mt mi1 g1 mt1 me ρ := by
  unfold lc2M lc21
  cases mi ρ with
  | ok ds =>
    dsimp only [R.bind] <;> (cases lc2L own1 (wipeR ρ own) g mt mi1 g1 mt1 me ds <;> rfl)
  | _ => rfl
@[simp] theorem lc21_ok (ds : List D) (own own1 : List Nat) (g : GM) (mt : BM) (mi1 : LM) (g1 : GM) (mt1 : BM) (me : EM) (ρ : Rho) : lc21 (.ok ds) own own1 g mt mi1 g1 mt1 me ρ = l2B (lc2L own1 (wipeR ρ own) g mt mi1 g1 mt1 me ds) := nr rfl
/-! ### types -/
@[simp] theorem isTy_tt (ds : List D) : isTy .tTuple (.tuple ds) = true := nr rfl
@[simp] theorem isTy_tl (ds : List D) : isTy .tTuple (.list ds) = false := nr rfl
@[simp] theorem isTy_ti (i : Int) : isTy .tTuple (.int i) = false := nr rfl
@[simp] theorem isTy_lt (ds : List D) : isTy .tList (.tuple ds) = false := nr rfl
@[simp] theorem isTy_ll (ds : List D) : isTy .tList (.list ds) = true := nr rfl
@[simp] theorem isTy_li (i : Int) : isTy .tList (.int i) = false := nr rfl
@[simp] theorem isTy_ii (i : Int) : isTy .tInt (.int i) = true := nr rfl
@[simp] theorem isTy_il (ds : List D) : isTy .tInt (.list ds) = false := nr rfl
@[simp] theorem isTy_it (ds : List D) : isTy .tInt (.tuple ds) = false := nr rfl
@[simp] theorem app1_l0 (i : Nat) (x : D) (ρ : Rho) : app1 i (.ok []) (.ok x) ρ = .nx (ρ.set i (some (.ol [x]))) := nr rfl
@[simp] theorem app1_l1 (i : Nat) (a x : D) (ρ : Rho) : app1 i (.ok [a]) (.ok x) ρ = .nx (ρ.set i (some (.ol [a, x]))) := nr rfl
@[simp] theorem app1_l2 (i : Nat) (a b x : D) (ρ : Rho) : app1 i (.ok [a, b]) (.ok x) ρ = .nx (ρ.set i (some (.ol [a, b, x]))) := nr rfl
@[simp] theorem app1_l3 (i : Nat) (a b c x : D) (ρ : Rho) : app1 i (.ok [a, b, c]) (.ok x) ρ = .nx (ρ.set i (some (.ol [a, b, c, x]))) := nr rfl
/-! ### e in range -/
def inRg1 (a b c d : R D) : R D := match a, b, c, d with
  | .ok x, .ok i, .ok j, .ok k => R.ofO (inRgD x i j k)
  | .exc e, _, _, _ => .exc e
  | .ok _, .exc e, _, _ => .exc e
  | .ok _, .ok _, .exc e, _ => .exc e
  | .ok _, .ok _, .ok _, .exc e => .exc e
  | _, _, _, _ => .bad
@[simp] theorem inRgM_e (a b c d : EM) (ρ : Rho) : inRgM a b c d ρ = inRg1 (a ρ) (b ρ) (c ρ) (d ρ) := by
  unfold inRgM inRg1
  cases a ρ with
  | ok x => cases b ρ with
    | ok y => cases c ρ with
      | ok z => cases d ρ <;> rfl
      | _ => rfl
    | _ => rfl
  | _ => rfl
@[simp] theorem inRg1_ok (x i j k : Int) (h : 0 < k) (h2 : k < 1073741824) : inRg1 (.ok (.int x)) (.ok (.int i)) (.ok (.int j)) (.ok (.int k)) = .ok (.bool (decide (i ≤ x) && decide (x < j) && decide ((x - i) % k = 0))) := by
  show R.ofO (if 0 < k ∧ k < 1073741824 then _ else _) = _
  rw [if_pos ⟨h, h2⟩]; rfl
/-! ### dicts made anew -/
def dcP (k v : R D) (rest : List (D × D) → R (List (D × D))) (qs : List (D × D)) : R (List (D × D)) := match k, v with
  | .ok k, .ok v => if isKey k = true then rest (putD qs k v) else .bad
  | _, _ => .bad
@[simp] theorem dcP_ok (k v : D) (rest : List (D × D) → R (List (D × D))) (qs : List (D × D)) (h : isKey k = true) : dcP (.ok k) (.ok v) rest qs = rest (putD qs k v) := if_pos h
def dcT (r : R Bool) (mk mv : EM) (ρ : Rho) (rest : List (D × D) → R (List (D × D))) (qs : List (D × D)) : R (List (D × D)) := match r with
  | .ok true => dcP (mk ρ) (mv ρ) rest qs
  | .ok false => rest qs
  | _ => .bad
@[simp] theorem dcT_t (mk mv : EM) (ρ : Rho) (rest : List (D × D) → R (List (D × D))) (qs : List (D × D)) : dcT (.ok true) mk mv ρ rest qs = dcP (mk ρ) (mv ρ) rest qs := nr rfl
@[simp] theorem dcT_f (mk mv : EM) (ρ : Rho) (rest : List (D × D) → R (List (D × D))) (qs : List (D × D)) : dcT (.ok false) mk mv ρ rest qs = rest qs := nr rfl
def dcG (o : Option Rho) (mt : BM) (mk mv : EM) (rest : List (D × D) → R (List (D × D))) (qs : List (D × D)) : R (List (D × D)) := match o with
  | some ρ => dcT (mt ρ) mk mv ρ rest qs
  | none => .bad
@[simp] theorem dcG_s (ρ : Rho) (mt : BM) (mk mv : EM) (rest : List (D × D) → R (List (D × D))) (qs : List (D × D)) : dcG (some ρ) mt mk mv rest qs = dcT (mt ρ) mk mv ρ rest qs := nr rfl
@[simp] theorem dcL_nil (ρ : Rho) (g : GM) (mt : BM) (mk mv : EM) (qs : List (D × D)) : dcL ρ g mt mk mv [] qs = .ok qs := nr rfl
theorem dcL_cons (ρ : Rho) (g : GM) (mt : BM) (mk mv : EM) (d : D) (ds : List D) (qs : List (D × D)) : dcL ρ g mt mk mv (d :: ds) qs = dcG (g d ρ) mt mk mv (dcL ρ g mt mk mv ds) qs := by
  rw [dcL]
  cases g d ρ with
  | none => rfl
  | some ρ1 =>
    dsimp only
    show _ = dcT (mt ρ1) mk mv ρ1 _ qs
    cases mt ρ1 with
    | ok b =>
      cases b with
      | true =>
        dsimp only
        show _ = dcP (mk ρ1) (mv ρ1) _ qs
        cases mk ρ1 with
        | ok k => cases mv ρ1 <;> rfl
        | _ => rfl
      | false => rfl
    | _ => rfl
def dcB : R (List (D × D)) → R (List (D × D))
  | .ok xs => .ok xs
  | _ => .bad
@[simp] theorem dcB_ok (xs : List (D × D)) : dcB (.ok xs) = .ok xs := nr rfl
def dc1 (r : R (List D)) (own : List Nat) (g : GM) (mt : BM) (mk mv : EM) (ρ : Rho) : R (List (D × D)) := match r with
  | .ok ds => if ds.length ≤ 16777216 then dcB (dcL (wipeR ρ own) g mt mk mv ds []) else .bad
  | .exc e => .exc e
  | .bad => .bad
theorem dcM_e (own : List Nat) (mi : LM) (g : GM) (mt : BM) (mk mv : EM) (ρ : Rho) : dcM own mi g mt mk mv ρ = dc1 (mi ρ) own g mt mk mv ρ := by
  unfold dcM dc1
  cases mi ρ with
  | ok ds =>
    dsimp only [R.bind] <;> (cases dcL (wipeR ρ own) g mt mk mv ds [] <;> rfl)
  | _ => rfl
@[simp] theorem dc1_4 (a b c d : D) (own : List Nat) (g : GM) (mt : BM) (mk mv : EM) (ρ : Rho) : dc1 (.ok [a, b, c, d]) own g mt mk mv ρ = dcB (dcL (wipeR ρ own) g mt mk mv [a, b, c, d] []) := nr rfl
theorem dc1_ok (ds : List D) (own : List Nat) (g : GM) (mt : BM) (mk mv : EM) (ρ : Rho) (h : ds.length ≤ 16777216) : dc1 (.ok ds) own g mt mk mv ρ = dcB (dcL (wipeR ρ own) g mt mk mv ds []) := if_pos h
def toED1 : R (List (D × D)) → R D
  | .ok qs => .ok (.dict qs)
  | .exc e => .exc e
  | .bad => .bad
@[simp] theorem toED_e (mq : QM) (ρ : Rho) : toED mq ρ = toED1 (mq ρ) := by unfold toED toED1; cases mq ρ <;> rfl
@[simp] theorem toED1_ok (qs : List (D × D)) : toED1 (.ok qs) = .ok (.dict qs) := nr rfl
@[simp] theorem lenDk_1 (i : Int) (v : D) : lenDk (.dict [(.int i, v)]) = some (.int 1) := nr rfl
end L2.VL

set_option Elab.async false
set_option linter.all false
set_option autoImplicit false
set_option maxRecDepth 100000
set_option maxHeartbeats 4000000
namespace L2.VL.K79
open PySem PySem.Spec PyProof.Rows
def topS (i : Nat) : Stmt := PySem.Challenge.pw_turnprimes_k79_tables.main.body.getD i (.Pass ⟨0, 0, 0, 0⟩)
abbrev s__law_row : Stmt := topS 24
abbrev s__law_numbers : Stmt := topS 25
abbrev s__law_pick : Stmt := topS 26
abbrev s__law_odd : Stmt := topS 31
abbrev s__law_number : Stmt := topS 30
abbrev s__law_pairs : Stmt := topS 32
abbrev s__law_table : Stmt := topS 33
abbrev s_is_number : Stmt := topS 6
abbrev s_check_number : Stmt := topS 7
abbrev s_whole_primes : Stmt := topS 10
abbrev s_is_prime : Stmt := topS 11
abbrev s_check_prime : Stmt := topS 12
abbrev s_check_odd : Stmt := topS 15
abbrev s_roots_by_square : Stmt := topS 16
abbrev s_root_pair : Stmt := topS 17
abbrev s_table_of : Stmt := topS 18
abbrev s__law_times : Stmt := topS 34
abbrev s_is_pair : Stmt := topS 19
abbrev s_check_table : Stmt := topS 20
abbrev s_table_product : Stmt := topS 21
abbrev s__law_product : Stmt := topS 27
abbrev s_determinant : Stmt := topS 22
abbrev s__law_norm : Stmt := topS 29
abbrev s__law_conjugate : Stmt := topS 28
abbrev s_law : Stmt := topS 35
abbrev N__law_row : List Str := ["_law_cell", "_law_many", "_law_row_here", "_law_rest", "_law_mixed", "_law_k"]
theorem sc__law_row : FnScope N__law_row ["_law_cell", "_law_many"] (defScope s__law_row) := ⟨rfl, rfl, rfl, by decide +kernel, rfl, by decide +kernel, by decide +kernel⟩
abbrev N__law_numbers : List Str := ["_law_script", "_law_many", "_law_cells", "_law_each", "_law_numbers_here", "_law_cell", "_law_number_here"]
theorem sc__law_numbers : FnScope N__law_numbers ["_law_script", "_law_many"] (defScope s__law_numbers) := ⟨rfl, rfl, rfl, by decide +kernel, rfl, by decide +kernel, by decide +kernel⟩
abbrev N__law_pick : List Str := ["_law_numbers_here", "_law_at", "_law_most"]
theorem sc__law_pick : FnScope N__law_pick ["_law_numbers_here", "_law_at", "_law_most"] (defScope s__law_pick) := ⟨rfl, rfl, rfl, by decide +kernel, rfl, by decide +kernel, by decide +kernel⟩
abbrev N__law_odd : List Str := ["_law_numbers_here", "_law_at"]
theorem sc__law_odd : FnScope N__law_odd ["_law_numbers_here", "_law_at"] (defScope s__law_odd) := ⟨rfl, rfl, rfl, by decide +kernel, rfl, by decide +kernel, by decide +kernel⟩
abbrev N__law_number : List Str := ["_law_numbers_here", "_law_at", "_law_size", "_law_parts", "_law_k", "_law_part"]
theorem sc__law_number : FnScope N__law_number ["_law_numbers_here", "_law_at", "_law_size"] (defScope s__law_number) := ⟨rfl, rfl, rfl, by decide +kernel, rfl, by decide +kernel, by decide +kernel⟩
abbrev N__law_pairs : List Str := ["_law_prime", "_law_found", "_law_x", "_law_y"]
theorem sc__law_pairs : FnScope N__law_pairs ["_law_prime"] (defScope s__law_pairs) := ⟨rfl, rfl, rfl, by decide +kernel, rfl, by decide +kernel, by decide +kernel⟩
abbrev N__law_table : List Str := ["_law_number_here", "_law_prime", "_law_pair", "_law_a", "_law_b", "_law_c", "_law_d", "_law_x", "_law_y", "_law_half", "_law_first", "_law_second", "_law_part"]
theorem sc__law_table : FnScope N__law_table ["_law_number_here", "_law_prime", "_law_pair"] (defScope s__law_table) := ⟨rfl, rfl, rfl, by decide +kernel, rfl, by decide +kernel, by decide +kernel⟩
abbrev N_is_number : List Str := ["number", "part"]
theorem sc_is_number : FnScope N_is_number ["number"] (defScope s_is_number) := ⟨rfl, rfl, rfl, by decide +kernel, rfl, by decide +kernel, by decide +kernel⟩
abbrev N_check_number : List Str := ["number"]
theorem sc_check_number : FnScope N_check_number ["number"] (defScope s_check_number) := ⟨rfl, rfl, rfl, by decide +kernel, rfl, by decide +kernel, by decide +kernel⟩
abbrev N_whole_primes : List Str := ["value", "found", "prime", "power"]
theorem sc_whole_primes : FnScope N_whole_primes ["value"] (defScope s_whole_primes) := ⟨rfl, rfl, rfl, by decide +kernel, rfl, by decide +kernel, by decide +kernel⟩
abbrev N_is_prime : List Str := ["value"]
theorem sc_is_prime : FnScope N_is_prime ["value"] (defScope s_is_prime) := ⟨rfl, rfl, rfl, by decide +kernel, rfl, by decide +kernel, by decide +kernel⟩
abbrev N_check_prime : List Str := ["prime", "most"]
theorem sc_check_prime : FnScope N_check_prime ["prime", "most"] (defScope s_check_prime) := ⟨rfl, rfl, rfl, by decide +kernel, rfl, by decide +kernel, by decide +kernel⟩
abbrev N_check_odd : List Str := ["prime"]
theorem sc_check_odd : FnScope N_check_odd ["prime"] (defScope s_check_odd) := ⟨rfl, rfl, rfl, by decide +kernel, rfl, by decide +kernel, by decide +kernel⟩
abbrev N_roots_by_square : List Str := ["prime", "found", "root"]
theorem sc_roots_by_square : FnScope N_roots_by_square ["prime"] (defScope s_roots_by_square) := ⟨rfl, rfl, rfl, by decide +kernel, rfl, by decide +kernel, by decide +kernel⟩
abbrev N_root_pair : List Str := ["prime", "roots", "x"]
theorem sc_root_pair : FnScope N_root_pair ["prime"] (defScope s_root_pair) := ⟨rfl, rfl, rfl, by decide +kernel, rfl, by decide +kernel, by decide +kernel⟩
abbrev N_table_of : List Str := ["number", "prime", "x", "y", "half", "a", "b", "c", "d", "first", "part"]
theorem sc_table_of : FnScope N_table_of ["number", "prime"] (defScope s_table_of) := ⟨rfl, rfl, rfl, by decide +kernel, rfl, by decide +kernel, by decide +kernel⟩
abbrev N__law_times : List Str := ["_law_one", "_law_other", "_law_prime", "_law_rows", "_law_line", "_law_k"]
theorem sc__law_times : FnScope N__law_times ["_law_one", "_law_other", "_law_prime"] (defScope s__law_times) := ⟨rfl, rfl, rfl, by decide +kernel, rfl, by decide +kernel, by decide +kernel⟩
abbrev N_is_pair : List Str := ["value", "part"]
theorem sc_is_pair : FnScope N_is_pair ["value"] (defScope s_is_pair) := ⟨rfl, rfl, rfl, by decide +kernel, rfl, by decide +kernel, by decide +kernel⟩
abbrev N_check_table : List Str := ["table", "prime", "line", "part"]
theorem sc_check_table : FnScope N_check_table ["table", "prime"] (defScope s_check_table) := ⟨rfl, rfl, rfl, by decide +kernel, rfl, by decide +kernel, by decide +kernel⟩
abbrev N_table_product : List Str := ["one", "other", "prime", "columns", "line", "column", "a", "b"]
theorem sc_table_product : FnScope N_table_product ["one", "other", "prime"] (defScope s_table_product) := ⟨rfl, rfl, rfl, by decide +kernel, rfl, by decide +kernel, by decide +kernel⟩
abbrev N__law_product : List Str := ["_law_one", "_law_other", "_law_a", "_law_b", "_law_c", "_law_d", "_law_e", "_law_f", "_law_g", "_law_h", "_law_first", "_law_second", "_law_third", "_law_fourth"]
theorem sc__law_product : FnScope N__law_product ["_law_one", "_law_other"] (defScope s__law_product) := ⟨rfl, rfl, rfl, by decide +kernel, rfl, by decide +kernel, by decide +kernel⟩
abbrev N_determinant : List Str := ["table", "prime", "a", "b", "c", "d"]
theorem sc_determinant : FnScope N_determinant ["table", "prime"] (defScope s_determinant) := ⟨rfl, rfl, rfl, by decide +kernel, rfl, by decide +kernel, by decide +kernel⟩
abbrev N__law_norm : List Str := ["_law_number_here", "_law_part"]
theorem sc__law_norm : FnScope N__law_norm ["_law_number_here"] (defScope s__law_norm) := ⟨rfl, rfl, rfl, by decide +kernel, rfl, by decide +kernel, by decide +kernel⟩
abbrev N__law_conjugate : List Str := ["_law_number_here"]
theorem sc__law_conjugate : FnScope N__law_conjugate ["_law_number_here"] (defScope s__law_conjugate) := ⟨rfl, rfl, rfl, by decide +kernel, rfl, by decide +kernel, by decide +kernel⟩
abbrev N_law : List Str := ["_law_script", "_law_numbers_here", "_law_prime", "_law_size", "_law_one", "_law_other", "_law_pair", "_law_tables", "_law_due", "_law_a", "_law_b", "_law_c", "_law_d", "_law_part", "_law_number_here"]
theorem sc_law : FnScope N_law ["_law_script"] (defScope s_law) := ⟨rfl, rfl, rfl, by decide +kernel, rfl, by decide +kernel, by decide +kernel⟩
abbrev c_MOST_ODD : D := (.int 10000)
abbrev c_MOST_VALUE : D := (.int 1000000000000)
abbrev c_PARTS : D := (.int 4)
structure T (K : PySem.W.Frag) (mg : Str → Option Value) : Prop where
  d__law_row : ∃ f fd, Df K mg "_law_row" s__law_row ["_law_cell", "_law_many"] f fd
  d__law_numbers : ∃ f fd, Df K mg "_law_numbers" s__law_numbers ["_law_script", "_law_many"] f fd
  d__law_pick : ∃ f fd, Df K mg "_law_pick" s__law_pick ["_law_numbers_here", "_law_at", "_law_most"] f fd
  d__law_odd : ∃ f fd, Df K mg "_law_odd" s__law_odd ["_law_numbers_here", "_law_at"] f fd
  d__law_number : ∃ f fd, Df K mg "_law_number" s__law_number ["_law_numbers_here", "_law_at", "_law_size"] f fd
  d__law_pairs : ∃ f fd, Df K mg "_law_pairs" s__law_pairs ["_law_prime"] f fd
  d__law_table : ∃ f fd, Df K mg "_law_table" s__law_table ["_law_number_here", "_law_prime", "_law_pair"] f fd
  d_is_number : ∃ f fd, Df K mg "is_number" s_is_number ["number"] f fd
  d_check_number : ∃ f fd, Df K mg "check_number" s_check_number ["number"] f fd
  d_whole_primes : ∃ f fd, Df K mg "whole_primes" s_whole_primes ["value"] f fd
  d_is_prime : ∃ f fd, Df K mg "is_prime" s_is_prime ["value"] f fd
  d_check_prime : ∃ f fd, Df K mg "check_prime" s_check_prime ["prime", "most"] f fd
  d_check_odd : ∃ f fd, Df K mg "check_odd" s_check_odd ["prime"] f fd
  d_roots_by_square : ∃ f fd, Df K mg "roots_by_square" s_roots_by_square ["prime"] f fd
  d_root_pair : ∃ f fd, Df K mg "root_pair" s_root_pair ["prime"] f fd
  d_table_of : ∃ f fd, Df K mg "table_of" s_table_of ["number", "prime"] f fd
  d__law_times : ∃ f fd, Df K mg "_law_times" s__law_times ["_law_one", "_law_other", "_law_prime"] f fd
  d_is_pair : ∃ f fd, Df K mg "is_pair" s_is_pair ["value"] f fd
  d_check_table : ∃ f fd, Df K mg "check_table" s_check_table ["table", "prime"] f fd
  d_table_product : ∃ f fd, Df K mg "table_product" s_table_product ["one", "other", "prime"] f fd
  d__law_product : ∃ f fd, Df K mg "_law_product" s__law_product ["_law_one", "_law_other"] f fd
  d_determinant : ∃ f fd, Df K mg "determinant" s_determinant ["table", "prime"] f fd
  d__law_norm : ∃ f fd, Df K mg "_law_norm" s__law_norm ["_law_number_here"] f fd
  d__law_conjugate : ∃ f fd, Df K mg "_law_conjugate" s__law_conjugate ["_law_number_here"] f fd
  n_abs : mg "abs" = none
  n_all : mg "all" = none
  n_int : mg "int" = none
  n_isinstance : mg "isinstance" = none
  n_len : mg "len" = none
  n_list : mg "list" = none
  n_max : mg "max" = none
  n_range : mg "range" = none
  n_sum : mg "sum" = none
  n_tuple : mg "tuple" = none
  n_zip : mg "zip" = none
  c_MOST_ODD : ∃ u v, mg "MOST_ODD" = some u ∧ RelV v u ∧ ∀ F, Rp K F v c_MOST_ODD
  c_MOST_VALUE : ∃ u v, mg "MOST_VALUE" = some u ∧ RelV v u ∧ ∀ F, Rp K F v c_MOST_VALUE
  c_PARTS : ∃ u v, mg "PARTS" = some u ∧ RelV v u ∧ ∀ F, Rp K F v c_PARTS
  e_InvalidNumber : ∃ C, ExcF K mg "InvalidNumber" C
  e_InvalidQuestion : ∃ C, ExcF K mg "InvalidQuestion" C
section
variable {P : Program} {w : World} {K : PySem.W.Frag} {mg : Str → Option Value} {base : Heap}
def b__law_row : SM := (seqM (setLM 2 (lstM nilM)) (seqM (setM 3 (un absD (mVar 0))) (seqM (setM 4 (bin modD (un intD (bin addD (bin mulI (mVar 3) (mC (.int 48271))) (mC (.int 69621)))) (mC (.int 2147483647)))) (seqM (forM (rng1I (mVar 1)) (gN 5) (seqM (setM 4 (bin modD (un intD (bin addD (bin mulI (mVar 4) (mC (.int 16807))) (bin mulI (mC (.int 271)) (bin addD (mVar 5) (mC (.int 3)))))) (mC (.int 2147483629)))) (ifM (asB (bin geD (un absD (mVar 0)) (bin powD (mC (.int 10)) (mC (.int 18))))) (seqM (appM 2 (bin modD (un intD (mVar 3)) (mC (.int 1009)))) (setM 3 (bin fdivD (mVar 3) (mC (.int 1009))))) (appM 2 (bin modD (un intD (bin fdivD (mVar 4) (mC (.int 7)))) (mC (.int 1009))))))) (frzM 2 (retM (mVar 2)))))))
def m__law_row : List D → R D := runD 6 b__law_row
theorem ok__law_row (t : T K mg) : Ok P w K mg base "_law_row" ["_law_cell", "_law_many"] 1 m__law_row := by
  obtain ⟨f, fd, F, g, b⟩ := t.d__law_row
  refine ⟨f, fd, ?_, g, F.kp, b⟩
  show FnOk P w K mg base (L2.CX P w) 1 f fd ["_law_cell", "_law_many"] (spP K mg 2 (runD 6 b__law_row))
  refine def_ok F sc__law_row (fun cdv A outer s H E hr => ?_)
  have hu := hr.units
  have tk : Takes (cxOf (L2.CX P w) P w K mg base N__law_row "_law_row" (defScope s__law_row) f cdv A outer s H E) (fun cls d _ H => E cls d H) := takes_of rfl rfl rfl rfl
  unfold b__law_row
  exact (vss_cons (vs_setL (i := 2) sc__law_row.nd rfl (.inl rfl) (v_lst va_nil)) (vss_cons (vs_set (i := 3) sc__law_row.nd rfl (.inl rfl) (v_b1 c_abs s_abs (by rfl) t.n_abs bt_abs (pa1 (VE.toO (v_name 0 (pv 0)))))) (vss_cons (vs_set (i := 4) sc__law_row.nd rfl (.inl rfl) (v_mod (VE.toO (v_ty1 c_int s_int (by rfl) t.n_int bt_int (pa1 (VE.toO (v_add (VE.toO (v_mul (VE.toO (v_name 3 (pv 3))) (VE.toO v_int))) (VE.toO v_int)))))) (VE.toO v_int))) (vss_cons (vs_for (passes_of rfl) rfl (vi_range1 (by rfl) t.n_range (pa1 (VE.toO (v_name 1 (pv 1))))) (vg_name (i := 5) sc__law_row.nd rfl (.inl rfl)) (vss_cons (vs_set (i := 4) sc__law_row.nd rfl (.inl rfl) (v_mod (VE.toO (v_ty1 c_int s_int (by rfl) t.n_int bt_int (pa1 (VE.toO (v_add (VE.toO (v_mul (VE.toO (v_name 4 (pv 4))) (VE.toO v_int))) (VE.toO (v_mul (VE.toO v_int) (VE.toO (v_add (VE.toO (v_name 5 (pv 5))) (VE.toO v_int)))))))))) (VE.toO v_int))) (vss_one (vs_if (t_ge (VE.toO (v_b1 c_abs s_abs (by rfl) t.n_abs bt_abs (pa1 (VE.toO (v_name 0 (pv 0)))))) (VE.toO (v_pow (VE.toO v_int) (VE.toO v_int)))) (vss_cons (vs_append (pe_bm PySem.F.plainAttrs_list PySem.F.slot_list_append PySem.F.type_list_append mt_append (pv 2) (pa_cons (v_mod (VE.toO (v_ty1 c_int s_int (by rfl) t.n_int bt_int (pa1 (VE.toO (v_name 3 (pv 3)))))) (VE.toO v_int)) pa_nil))) (vss_one (vs_set (i := 3) sc__law_row.nd rfl (.inl rfl) (v_fdiv (VE.toO (v_name 3 (pv 3))) (VE.toO v_int))))) (vss_one (vs_append (pe_bm PySem.F.plainAttrs_list PySem.F.slot_list_append PySem.F.type_list_append mt_append (pv 2) (pa_cons (v_mod (VE.toO (v_ty1 c_int s_int (by rfl) t.n_int bt_int (pa1 (VE.toO (v_fdiv (VE.toO (v_name 4 (pv 4))) (VE.toO v_int)))))) (VE.toO v_int)) pa_nil)))))))) (vss_one (vs_frz 2 (vs_ret (v_name 2 (pv 2)))))))))
def b__law_numbers : SM := (seqM (setM 2 (sliceM (mVar 0) noP (someP (mC (.int 63))))) (seqM (setM 3 (bin addD (mC (.int 1)) (bin fdivD (mVar 1) (bin max2D (mC (.int 1)) (un lenD (mVar 2)))))) (seqM (setLM 4 (lstM nilM)) (seqM (forM (seqI (mVar 2)) (gN 5) (forM (seqI (callM 2 m__law_row (consM (mVar 5) (consM (mVar 3) nilM)))) (gN 6) (appM 4 (mVar 6)))) (seqM (fun ρ => whileL (asB (bin ltD (un lenD (mVarO 4)) (mVar 1))) (appM 4 (mC (.int 0))) ((fun _ => 2000) ρ) ρ) (retM (sliceM (mVarO 4) noP (someP (mVar 1)))))))))
def m__law_numbers : List D → R D := runD 7 b__law_numbers
theorem ok__law_numbers (t : T K mg) : Ok P w K mg base "_law_numbers" ["_law_script", "_law_many"] 2 m__law_numbers := by
  obtain ⟨f, fd, F, g, b⟩ := t.d__law_numbers
  obtain ⟨f__law_row, fd__law_row, G__law_row, g__law_row, k__law_row, b__law_row⟩ := ok__law_row (P := P) (w := w) (base := base) t
  refine ⟨f, fd, ?_, g, F.kp, b⟩
  show FnOk P w K mg base (L2.CX P w) 2 f fd ["_law_script", "_law_many"] (spP K mg 2 (runD 7 b__law_numbers))
  refine def_ok F sc__law_numbers (fun cdv A outer s H E hr => ?_)
  have hu := hr.units
  have tk : Takes (cxOf (L2.CX P w) P w K mg base N__law_numbers "_law_numbers" (defScope s__law_numbers) f cdv A outer s H E) (fun cls d _ H => E cls d H) := takes_of rfl rfl rfl rfl
  unfold b__law_numbers
  exact (vss_cons (vs_set (i := 2) sc__law_numbers.nd rfl (.inl rfl) (v_slice (VE.toO (v_name 0 (pv 0))) vp_none (vp_some (VE.toO v_int)))) (vss_cons (vs_set (i := 3) sc__law_numbers.nd rfl (.inl rfl) (v_add (VE.toO v_int) (VE.toO (v_fdiv (VE.toO (v_name 1 (pv 1))) (VE.toO (v_b2 (c_max2 rfl) s_max2 (by rfl) t.n_max bt_max (pa2 (VE.toO v_int) (VE.toO (v_b1 c_len s_len (by rfl) t.n_len bt_len (pa1 (VE.toO (v_name 2 (pv 2))))))))))))) (vss_cons (vs_setL (i := 4) sc__law_numbers.nd rfl (.inl rfl) (v_lst va_nil)) (vss_cons (vs_for (passes_of rfl) rfl (vi_seq (v_name 2 (pv 2))) (vg_name (i := 5) sc__law_numbers.nd rfl (.inl rfl)) (vss_one (vs_for (passes_of rfl) rfl (vi_seq (v_call G__law_row tk (hr.mono (by decide)) (by rfl) g__law_row k__law_row b__law_row (va_cons (v_name 5 (pv 5)) (va_cons (v_name 3 (pv 3)) va_nil)))) (vg_name (i := 6) sc__law_numbers.nd rfl (.inl rfl)) (vss_one (vs_append (pe_bm PySem.F.plainAttrs_list PySem.F.slot_list_append PySem.F.type_list_append mt_append (pv 4) (pa_cons (v_name 6 (pv 6)) pa_nil))))))) (vss_cons (vs_while (fun _ => 2000) (passes_of rfl) (t_lt (VE.toO (v_b1 c_len s_len (by rfl) t.n_len bt_len (pa1 (v_nameO 4 (pv 4))))) (VE.toO (v_name 1 (pv 1)))) (vss_one (vs_append (pe_bm PySem.F.plainAttrs_list PySem.F.slot_list_append PySem.F.type_list_append mt_append (pv 4) (pa_cons v_int pa_nil))))) (vss_one (vs_ret (v_slice (v_nameO 4 (pv 4)) vp_none (vp_some (VE.toO (v_name 1 (pv 1))))))))))))
def b__law_pick : SM := (retM (bin modD (un intD (bin ixD (mVar 0) (mVar 1))) (mVar 2)))
def m__law_pick : List D → R D := runD 3 b__law_pick
theorem ok__law_pick (t : T K mg) : Ok P w K mg base "_law_pick" ["_law_numbers_here", "_law_at", "_law_most"] 1 m__law_pick := by
  obtain ⟨f, fd, F, g, b⟩ := t.d__law_pick
  refine ⟨f, fd, ?_, g, F.kp, b⟩
  show FnOk P w K mg base (L2.CX P w) 1 f fd ["_law_numbers_here", "_law_at", "_law_most"] (spP K mg 3 (runD 3 b__law_pick))
  refine def_ok F sc__law_pick (fun cdv A outer s H E hr => ?_)
  have hu := hr.units
  have tk : Takes (cxOf (L2.CX P w) P w K mg base N__law_pick "_law_pick" (defScope s__law_pick) f cdv A outer s H E) (fun cls d _ H => E cls d H) := takes_of rfl rfl rfl rfl
  unfold b__law_pick
  exact (vss_one (vs_ret (v_mod (VE.toO (v_ty1 c_int s_int (by rfl) t.n_int bt_int (pa1 (VE.toO (v_ix (VE.toO (v_name 0 (pv 0))) (VE.toO (v_name 1 (pv 1)))))))) (VE.toO (v_name 2 (pv 2))))))
def b__law_odd : SM := (retM (bin ixD (toEM (lstM (consM (mC (.int 3)) (consM (mC (.int 5)) (consM (mC (.int 7)) (consM (mC (.int 11)) (consM (mC (.int 13)) (consM (mC (.int 17)) (consM (mC (.int 3)) (consM (mC (.int 5)) (consM (mC (.int 7)) (consM (mC (.int 19)) nilM)))))))))))) (callM 3 m__law_pick (consM (mVar 0) (consM (mVar 1) (consM (mC (.int 10)) nilM))))))
def m__law_odd : List D → R D := runD 2 b__law_odd
theorem ok__law_odd (t : T K mg) : Ok P w K mg base "_law_odd" ["_law_numbers_here", "_law_at"] 2 m__law_odd := by
  obtain ⟨f, fd, F, g, b⟩ := t.d__law_odd
  obtain ⟨f__law_pick, fd__law_pick, G__law_pick, g__law_pick, k__law_pick, b__law_pick⟩ := ok__law_pick (P := P) (w := w) (base := base) t
  refine ⟨f, fd, ?_, g, F.kp, b⟩
  show FnOk P w K mg base (L2.CX P w) 2 f fd ["_law_numbers_here", "_law_at"] (spP K mg 2 (runD 2 b__law_odd))
  refine def_ok F sc__law_odd (fun cdv A outer s H E hr => ?_)
  have hu := hr.units
  have tk : Takes (cxOf (L2.CX P w) P w K mg base N__law_odd "_law_odd" (defScope s__law_odd) f cdv A outer s H E) (fun cls d _ H => E cls d H) := takes_of rfl rfl rfl rfl
  unfold b__law_odd
  exact (vss_one (vs_ret (v_ix (VE.toO (VF.toE (v_lst (va_cons v_int (va_cons v_int (va_cons v_int (va_cons v_int (va_cons v_int (va_cons v_int (va_cons v_int (va_cons v_int (va_cons v_int (va_cons v_int va_nil))))))))))))) (VE.toO (v_call G__law_pick tk (hr.mono (by decide)) (by rfl) g__law_pick k__law_pick b__law_pick (va_cons (v_name 0 (pv 0)) (va_cons (v_name 1 (pv 1)) (va_cons v_int va_nil))))))))
def b__law_number : SM := (seqM (setM 3 (toEM (lcM [4] (rng1I (mC (.int 4))) (gN 4) yesM (bin subD (bin modD (un intD (bin ixD (mVar 0) (bin addD (bin addD (mVar 1) (mC (.int 1))) (mVar 4)))) (bin addD (bin mulI (mC (.int 2)) (mVar 2)) (mC (.int 1)))) (mVar 2))))) (seqM (ifM (asB (bin eqD (bin modD (un intD (bin ixD (mVar 0) (mVar 1))) (mC (.int 2))) (mC (.int 0)))) (retM (un tupD (toEM (lcM [5] (seqI (mVar 3)) (gN 5) yesM (bin mulI (mC (.int 2)) (mVar 5)))))) skipM) (retM (un tupD (toEM (lcM [5] (seqI (mVar 3)) (gN 5) yesM (bin addD (bin mulI (mC (.int 2)) (mVar 5)) (mC (.int 1)))))))))
def m__law_number : List D → R D := runD 6 b__law_number
theorem ok__law_number (t : T K mg) : Ok P w K mg base "_law_number" ["_law_numbers_here", "_law_at", "_law_size"] 1 m__law_number := by
  obtain ⟨f, fd, F, g, b⟩ := t.d__law_number
  refine ⟨f, fd, ?_, g, F.kp, b⟩
  show FnOk P w K mg base (L2.CX P w) 1 f fd ["_law_numbers_here", "_law_at", "_law_size"] (spP K mg 3 (runD 6 b__law_number))
  refine def_ok F sc__law_number (fun cdv A outer s H E hr => ?_)
  have hu := hr.units
  have tk : Takes (cxOf (L2.CX P w) P w K mg base N__law_number "_law_number" (defScope s__law_number) f cdv A outer s H E) (fun cls d _ H => E cls d H) := takes_of rfl rfl rfl rfl
  unfold b__law_number
  exact (vss_cons (vs_setLcE (i := 3) rfl sc__law_number.nd rfl rfl (sw_true rfl rfl rfl (by decide +kernel)) (own := [("_law_k", 4)]) (is := [4]) (vi_range1 (by rfl) t.n_range (pa1 (VE.toO v_int))) (blkOk_by (own := [("_law_k", 4)]) (N := N__law_number) (sc := defScope s__law_number) (by decide +kernel)) (by decide) (fun _ _ _ _ _ => (vgc_name (i := 4) sc__law_number.nd rfl (by first | exact .inl rfl | exact .inr rfl))) (fun _ _ _ _ _ => vts_nil) (fun _ _ _ _ _ => (v_sub (VE.toO (v_mod (VE.toO (v_ty1 c_int s_int (by rfl) t.n_int bt_int (pa1 (VE.toO (v_ix (VE.toO (v_name 0 (pv 0))) (VE.toO (v_add (VE.toO (v_add (VE.toO (v_name 1 (pv 1))) (VE.toO v_int))) (VE.toO (v_name 4 (pv 4)))))))))) (VE.toO (v_add (VE.toO (v_mul (VE.toO v_int) (VE.toO (v_name 2 (pv 2))))) (VE.toO v_int))))) (VE.toO (v_name 2 (pv 2)))))) (vss_cons (vs_if (t_eq hu (VE.toO (v_mod (VE.toO (v_ty1 c_int s_int (by rfl) t.n_int bt_int (pa1 (VE.toO (v_ix (VE.toO (v_name 0 (pv 0))) (VE.toO (v_name 1 (pv 1)))))))) (VE.toO v_int))) (VE.toO v_int)) (vss_one (vs_ret (v_ty1 c_tup s_tup (by rfl) t.n_tuple bt_tuple (pa1 (VE.toO (VF.toE (v_lc (own := [("_law_part", 5)]) (is := [5]) rfl sc__law_number.nd (vi_seq (v_name 3 (pv 3))) (blkOk_by (own := [("_law_part", 5)]) (N := N__law_number) (sc := defScope s__law_number) (by decide +kernel)) (by decide) (fun _ _ _ _ _ => (vgc_name (i := 5) sc__law_number.nd rfl (by first | exact .inl rfl | exact .inr rfl))) (fun _ _ _ _ _ => vts_nil) (fun _ _ _ _ _ => (v_mul (VE.toO v_int) (VE.toO (v_name 5 (pv 5)))))))))))) vss_nil) (vss_one (vs_ret (v_ty1 c_tup s_tup (by rfl) t.n_tuple bt_tuple (pa1 (VE.toO (VF.toE (v_lc (own := [("_law_part", 5)]) (is := [5]) rfl sc__law_number.nd (vi_seq (v_name 3 (pv 3))) (blkOk_by (own := [("_law_part", 5)]) (N := N__law_number) (sc := defScope s__law_number) (by decide +kernel)) (by decide) (fun _ _ _ _ _ => (vgc_name (i := 5) sc__law_number.nd rfl (by first | exact .inl rfl | exact .inr rfl))) (fun _ _ _ _ _ => vts_nil) (fun _ _ _ _ _ => (v_add (VE.toO (v_mul (VE.toO v_int) (VE.toO (v_name 5 (pv 5))))) (VE.toO v_int))))))))))))
def b__law_pairs : SM := (seqM (setM 1 (toEM (lstM nilM))) (seqM (forM (rng1I (mVar 0)) (gN 2) (setM 1 (bin addD (mVar 1) (toEM (lcM [3] (rng1I (mVar 0)) (gN 3) (asB (bin eqD (bin modD (un intD (bin addD (bin addD (bin mulI (mVar 2) (mVar 2)) (bin mulI (mVar 3) (mVar 3))) (mC (.int 1)))) (mVar 0)) (mC (.int 0)))) (tupM (consM (mVar 2) (consM (mVar 3) nilM)))))))) (retM (mVar 1))))
def m__law_pairs : List D → R D := runD 4 b__law_pairs
theorem ok__law_pairs (t : T K mg) : Ok P w K mg base "_law_pairs" ["_law_prime"] 1 m__law_pairs := by
  obtain ⟨f, fd, F, g, b⟩ := t.d__law_pairs
  refine ⟨f, fd, ?_, g, F.kp, b⟩
  show FnOk P w K mg base (L2.CX P w) 1 f fd ["_law_prime"] (spP K mg 1 (runD 4 b__law_pairs))
  refine def_ok F sc__law_pairs (fun cdv A outer s H E hr => ?_)
  have hu := hr.units
  have tk : Takes (cxOf (L2.CX P w) P w K mg base N__law_pairs "_law_pairs" (defScope s__law_pairs) f cdv A outer s H E) (fun cls d _ H => E cls d H) := takes_of rfl rfl rfl rfl
  unfold b__law_pairs
  exact (vss_cons (vs_set (i := 1) sc__law_pairs.nd rfl (.inl rfl) (VF.toE (v_lst va_nil))) (vss_cons (vs_for (passes_of rfl) rfl (vi_range1 (by rfl) t.n_range (pa1 (VE.toO (v_name 0 (pv 0))))) (vg_name (i := 2) sc__law_pairs.nd rfl (.inr rfl)) (vss_one (vs_set (i := 1) sc__law_pairs.nd rfl (.inl rfl) (v_add (VE.toO (v_name 1 (pv 1))) (VE.toO (VF.toE (v_lc (own := [("_law_y", 3)]) (is := [3]) rfl sc__law_pairs.nd (vi_range1 (by rfl) t.n_range (pa1 (VE.toO (v_name 0 (pv 0))))) (blkOk_by (own := [("_law_y", 3)]) (N := N__law_pairs) (sc := defScope s__law_pairs) (by decide +kernel)) (by decide) (fun _ _ _ _ _ => (vgc_name (i := 3) sc__law_pairs.nd rfl (by first | exact .inl rfl | exact .inr rfl))) (fun _ _ _ _ _ => (vts_one (t_eq hu (VE.toO (v_mod (VE.toO (v_ty1 c_int s_int (by rfl) t.n_int bt_int (pa1 (VE.toO (v_add (VE.toO (v_add (VE.toO (v_mul (VE.toO (v_name 2 (pv 2))) (VE.toO (v_name 2 (pv 2))))) (VE.toO (v_mul (VE.toO (v_name 3 (pv 3))) (VE.toO (v_name 3 (pv 3))))))) (VE.toO v_int)))))) (VE.toO (v_name 0 (pv 0))))) (VE.toO v_int)))) (fun _ _ _ _ _ => (v_tup (va_cons (v_name 2 (pv 2)) (va_cons (v_name 3 (pv 3)) va_nil))))))))))) (vss_one (vs_ret (v_name 1 (pv 1))))))
def b__law_table : SM := (seqM (asgM (gT 4 (gsC (gN 3) (gsC (gN 4) (gsC (gN 5) (gsC (gN 6) gsN))))) (mVar 0)) (seqM (asgM (gT 2 (gsC (gN 7) (gsC (gN 8) gsN))) (mVar 2)) (seqM (setM 9 (bin fdivD (bin addD (mVar 1) (mC (.int 1))) (mC (.int 2)))) (seqM (setM 10 (toEM (lstM (consM (bin addD (bin addD (mVar 3) (bin mulI (mVar 4) (mVar 7))) (bin mulI (mVar 6) (mVar 8))) (consM (bin subD (bin subD (bin mulI (mVar 4) (mVar 8)) (mVar 5)) (bin mulI (mVar 6) (mVar 7))) nilM))))) (seqM (setM 11 (toEM (lstM (consM (bin subD (bin addD (bin mulI (mVar 4) (mVar 8)) (mVar 5)) (bin mulI (mVar 6) (mVar 7))) (consM (bin subD (bin subD (mVar 3) (bin mulI (mVar 4) (mVar 7))) (bin mulI (mVar 6) (mVar 8))) nilM))))) (retM (tupM (consM (un tupD (toEM (lcM [12] (seqI (mVar 10)) (gN 12) yesM (bin modD (un intD (bin mulI (mVar 12) (mVar 9))) (mVar 1))))) (consM (un tupD (toEM (lcM [12] (seqI (mVar 11)) (gN 12) yesM (bin modD (un intD (bin mulI (mVar 12) (mVar 9))) (mVar 1))))) nilM)))))))))
def m__law_table : List D → R D := runD 13 b__law_table
theorem ok__law_table (t : T K mg) : Ok P w K mg base "_law_table" ["_law_number_here", "_law_prime", "_law_pair"] 1 m__law_table := by
  obtain ⟨f, fd, F, g, b⟩ := t.d__law_table
  refine ⟨f, fd, ?_, g, F.kp, b⟩
  show FnOk P w K mg base (L2.CX P w) 1 f fd ["_law_number_here", "_law_prime", "_law_pair"] (spP K mg 3 (runD 13 b__law_table))
  refine def_ok F sc__law_table (fun cdv A outer s H E hr => ?_)
  have hu := hr.units
  have tk : Takes (cxOf (L2.CX P w) P w K mg base N__law_table "_law_table" (defScope s__law_table) f cdv A outer s H E) (fun cls d _ H => E cls d H) := takes_of rfl rfl rfl rfl
  unfold b__law_table
  exact (vss_cons (vs_asg (vg_tup rfl (vgs_cons (vg_name (i := 3) sc__law_table.nd rfl (.inl rfl)) (vgs_cons (vg_name (i := 4) sc__law_table.nd rfl (.inl rfl)) (vgs_cons (vg_name (i := 5) sc__law_table.nd rfl (.inl rfl)) (vgs_cons (vg_name (i := 6) sc__law_table.nd rfl (.inl rfl)) vgs_nil))))) (v_name 0 (pv 0))) (vss_cons (vs_asg (vg_tup rfl (vgs_cons (vg_name (i := 7) sc__law_table.nd rfl (.inl rfl)) (vgs_cons (vg_name (i := 8) sc__law_table.nd rfl (.inl rfl)) vgs_nil))) (v_name 2 (pv 2))) (vss_cons (vs_set (i := 9) sc__law_table.nd rfl (.inr rfl) (v_fdiv (VE.toO (v_add (VE.toO (v_name 1 (pv 1))) (VE.toO v_int))) (VE.toO v_int))) (vss_cons (vs_set (i := 10) sc__law_table.nd rfl (.inl rfl) (VF.toE (v_lst (va_cons (v_add (VE.toO (v_add (VE.toO (v_name 3 (pv 3))) (VE.toO (v_mul (VE.toO (v_name 4 (pv 4))) (VE.toO (v_name 7 (pv 7))))))) (VE.toO (v_mul (VE.toO (v_name 6 (pv 6))) (VE.toO (v_name 8 (pv 8)))))) (va_cons (v_sub (VE.toO (v_sub (VE.toO (v_mul (VE.toO (v_name 4 (pv 4))) (VE.toO (v_name 8 (pv 8))))) (VE.toO (v_name 5 (pv 5))))) (VE.toO (v_mul (VE.toO (v_name 6 (pv 6))) (VE.toO (v_name 7 (pv 7)))))) va_nil))))) (vss_cons (vs_set (i := 11) sc__law_table.nd rfl (.inl rfl) (VF.toE (v_lst (va_cons (v_sub (VE.toO (v_add (VE.toO (v_mul (VE.toO (v_name 4 (pv 4))) (VE.toO (v_name 8 (pv 8))))) (VE.toO (v_name 5 (pv 5))))) (VE.toO (v_mul (VE.toO (v_name 6 (pv 6))) (VE.toO (v_name 7 (pv 7)))))) (va_cons (v_sub (VE.toO (v_sub (VE.toO (v_name 3 (pv 3))) (VE.toO (v_mul (VE.toO (v_name 4 (pv 4))) (VE.toO (v_name 7 (pv 7))))))) (VE.toO (v_mul (VE.toO (v_name 6 (pv 6))) (VE.toO (v_name 8 (pv 8)))))) va_nil))))) (vss_one (vs_ret (v_tup (va_cons (v_ty1 c_tup s_tup (by rfl) t.n_tuple bt_tuple (pa1 (VE.toO (VF.toE (v_lc (own := [("_law_part", 12)]) (is := [12]) rfl sc__law_table.nd (vi_seq (v_name 10 (pv 10))) (blkOk_by (own := [("_law_part", 12)]) (N := N__law_table) (sc := defScope s__law_table) (by decide +kernel)) (by decide) (fun _ _ _ _ _ => (vgc_name (i := 12) sc__law_table.nd rfl (by first | exact .inl rfl | exact .inr rfl))) (fun _ _ _ _ _ => vts_nil) (fun _ _ _ _ _ => (v_mod (VE.toO (v_ty1 c_int s_int (by rfl) t.n_int bt_int (pa1 (VE.toO (v_mul (VE.toO (v_name 12 (pv 12))) (VE.toO (v_name 9 (pv 9)))))))) (VE.toO (v_name 1 (pv 1)))))))))) (va_cons (v_ty1 c_tup s_tup (by rfl) t.n_tuple bt_tuple (pa1 (VE.toO (VF.toE (v_lc (own := [("_law_part", 12)]) (is := [12]) rfl sc__law_table.nd (vi_seq (v_name 11 (pv 11))) (blkOk_by (own := [("_law_part", 12)]) (N := N__law_table) (sc := defScope s__law_table) (by decide +kernel)) (by decide) (fun _ _ _ _ _ => (vgc_name (i := 12) sc__law_table.nd rfl (by first | exact .inl rfl | exact .inr rfl))) (fun _ _ _ _ _ => vts_nil) (fun _ _ _ _ _ => (v_mod (VE.toO (v_ty1 c_int s_int (by rfl) t.n_int bt_int (pa1 (VE.toO (v_mul (VE.toO (v_name 12 (pv 12))) (VE.toO (v_name 9 (pv 9)))))))) (VE.toO (v_name 1 (pv 1)))))))))) va_nil))))))))))
def b_is_number : SM := (retM (andV (bin eqD (un lenD (mVar 0)) (mC c_PARTS)) (bin eqD (un lenDk (toED (dcM [1] (seqI (mVar 0)) (gN 1) yesM (bin modD (mVar 1) (mC (.int 2))) (mC (.bool true))))) (mC (.int 1)))))
def m_is_number : List D → R D := runD 2 b_is_number
theorem ok_is_number (t : T K mg) : Ok P w K mg base "is_number" ["number"] 1 m_is_number := by
  obtain ⟨f, fd, F, g, b⟩ := t.d_is_number
  obtain ⟨u_PARTS, v_PARTS, g_PARTS, r_PARTS, rp_PARTS⟩ := t.c_PARTS
  refine ⟨f, fd, ?_, g, F.kp, b⟩
  show FnOk P w K mg base (L2.CX P w) 1 f fd ["number"] (spP K mg 1 (runD 2 b_is_number))
  refine def_ok F sc_is_number (fun cdv A outer s H E hr => ?_)
  have hu := hr.units
  have tk : Takes (cxOf (L2.CX P w) P w K mg base N_is_number "is_number" (defScope s_is_number) f cdv A outer s H E) (fun cls d _ H => E cls d H) := takes_of rfl rfl rfl rfl
  unfold b_is_number
  exact (vss_one (vs_ret (v_and (v_eq hu (VE.toO (v_b1 c_len s_len (by rfl) t.n_len bt_len (pa1 (VE.toO (v_name 0 (pv 0)))))) (VE.toO (v_glob (by rfl) g_PARTS r_PARTS rp_PARTS))) (v_one (v_eq hu (VE.toO (v_b1 c_lenD s_lenD (by rfl) t.n_len bt_len (pa1 (VE.toO (VDk.toE (vdk_comp (own := [("part", 1)]) (is := [1]) rfl sc_is_number.nd (vi_seq (v_name 0 (pv 0))) (blkOk_by (own := [("part", 1)]) (N := N_is_number) (sc := defScope s_is_number) (by decide +kernel)) (by decide) (fun _ _ _ _ _ => (vgc_name (i := 1) sc_is_number.nd rfl (by first | exact .inl rfl | exact .inr rfl))) (fun _ _ _ _ _ => vts_nil) (fun _ _ _ _ _ => (v_mod (VE.toO (v_name 1 (pv 1))) (VE.toO v_int))) (fun _ _ _ _ _ => v_bl))))))) (VE.toO v_int))))))
def b_check_number : SM := (ifM (notM (truM (callM 1 m_is_number (consM (mVar 0) nilM)))) (fun ρ => .exc ⟨"InvalidNumber", []⟩ ρ) skipM)
def m_check_number : List D → R D := runD 1 b_check_number
theorem ok_check_number (t : T K mg) : Ok P w K mg base "check_number" ["number"] 2 m_check_number := by
  obtain ⟨f, fd, F, g, b⟩ := t.d_check_number
  obtain ⟨f_is_number, fd_is_number, G_is_number, g_is_number, k_is_number, b_is_number⟩ := ok_is_number (P := P) (w := w) (base := base) t
  obtain ⟨C_InvalidNumber, x_InvalidNumber, g_InvalidNumber, k_InvalidNumber, b_InvalidNumber, t_InvalidNumber⟩ := t.e_InvalidNumber
  refine ⟨f, fd, ?_, g, F.kp, b⟩
  show FnOk P w K mg base (L2.CX P w) 2 f fd ["number"] (spP K mg 1 (runD 1 b_check_number))
  refine def_ok F sc_check_number (fun cdv A outer s H E hr => ?_)
  have hu := hr.units
  have tk : Takes (cxOf (L2.CX P w) P w K mg base N_check_number "check_number" (defScope s_check_number) f cdv A outer s H E) (fun cls d _ H => E cls d H) := takes_of rfl rfl rfl rfl
  unfold b_check_number
  exact (vss_one (vs_if (vt_not (vt_truth (VE.toO (v_call G_is_number tk (hr.mono (by decide)) (by rfl) g_is_number k_is_number b_is_number (va_cons (v_name 0 (pv 0)) va_nil))))) (vss_one (vs_raise rfl tk PySem.F.excBase_ValueError x_InvalidNumber g_InvalidNumber k_InvalidNumber (raises_own b_InvalidNumber t_InvalidNumber) (by rfl))) vss_nil))
def b_whole_primes : SM := (seqM (ifM (notM (asB (chainM leD leD (mC (.int 1)) (mVar 0) (mC c_MOST_VALUE)))) (fun ρ => .exc ⟨"InvalidQuestion", []⟩ ρ) skipM) (seqM (setLM 1 (lstM nilM)) (seqM (setM 2 (mC (.int 2))) (seqM (fun ρ => whileL (asB (bin leD (bin mulI (mVar 2) (mVar 2)) (mVar 0))) (seqM (setM 3 (mC (.int 0))) (seqM (fun ρ => whileL (asB (bin eqD (bin modD (mVar 0) (mVar 2)) (mC (.int 0)))) (seqM (augM 0 fdivD (mVar 2)) (augM 3 addI (mC (.int 1)))) ((fun _ => 2000) ρ) ρ) (seqM (ifM (asB (bin gtD (mVar 3) (mC (.int 0)))) (appM 1 (tupM (consM (mVar 2) (consM (mVar 3) nilM)))) skipM) (augM 2 addI (ifE (asB (bin eqD (mVar 2) (mC (.int 2)))) (mC (.int 1)) (mC (.int 2))))))) ((fun _ => 2000) ρ) ρ) (retM (bin addD (mVarO 1) (ifE (asB (bin gtD (mVar 0) (mC (.int 1)))) (toEM (lstM (consM (tupM (consM (mVar 0) (consM (mC (.int 1)) nilM))) nilM))) (toEM (lstM nilM)))))))))
def m_whole_primes : List D → R D := runD 4 b_whole_primes
theorem ok_whole_primes (t : T K mg) : Ok P w K mg base "whole_primes" ["value"] 1 m_whole_primes := by
  obtain ⟨f, fd, F, g, b⟩ := t.d_whole_primes
  obtain ⟨u_MOST_VALUE, v_MOST_VALUE, g_MOST_VALUE, r_MOST_VALUE, rp_MOST_VALUE⟩ := t.c_MOST_VALUE
  obtain ⟨C_InvalidQuestion, x_InvalidQuestion, g_InvalidQuestion, k_InvalidQuestion, b_InvalidQuestion, t_InvalidQuestion⟩ := t.e_InvalidQuestion
  refine ⟨f, fd, ?_, g, F.kp, b⟩
  show FnOk P w K mg base (L2.CX P w) 1 f fd ["value"] (spP K mg 1 (runD 4 b_whole_primes))
  refine def_ok F sc_whole_primes (fun cdv A outer s H E hr => ?_)
  have hu := hr.units
  have tk : Takes (cxOf (L2.CX P w) P w K mg base N_whole_primes "whole_primes" (defScope s_whole_primes) f cdv A outer s H E) (fun cls d _ H => E cls d H) := takes_of rfl rfl rfl rfl
  unfold b_whole_primes
  exact (vss_cons (vs_if (vt_not (t_chain op_le op_le s_le s_le (VE.toO v_int) (VE.toO (v_name 0 (pv 0))) (VE.toO (v_glob (by rfl) g_MOST_VALUE r_MOST_VALUE rp_MOST_VALUE)))) (vss_one (vs_raise rfl tk PySem.F.excBase_ValueError x_InvalidQuestion g_InvalidQuestion k_InvalidQuestion (raises_own b_InvalidQuestion t_InvalidQuestion) (by rfl))) vss_nil) (vss_cons (vs_setL (i := 1) sc_whole_primes.nd rfl (.inl rfl) (v_lst va_nil)) (vss_cons (vs_set (i := 2) sc_whole_primes.nd rfl (.inl rfl) v_int) (vss_cons (vs_while (fun _ => 2000) (passes_of rfl) (t_le (VE.toO (v_mul (VE.toO (v_name 2 (pv 2))) (VE.toO (v_name 2 (pv 2))))) (VE.toO (v_name 0 (pv 0)))) (vss_cons (vs_set (i := 3) sc_whole_primes.nd rfl (.inl rfl) v_int) (vss_cons (vs_while (fun _ => 2000) (passes_of rfl) (t_eq hu (VE.toO (v_mod (VE.toO (v_name 0 (pv 0))) (VE.toO (v_name 2 (pv 2))))) (VE.toO v_int)) (vss_cons (vs_aug (i := 0) sc_whole_primes.nd rfl (.inl rfl) (VE.toO (v_name 2 (pv 2))) ip_fdivV is_fdiv) (vss_one (vs_aug (i := 3) sc_whole_primes.nd rfl (.inl rfl) (VE.toO v_int) ip_add is_add)))) (vss_cons (vs_if (t_gt (VE.toO (v_name 3 (pv 3))) (VE.toO v_int)) (vss_one (vs_append (pe_bm PySem.F.plainAttrs_list PySem.F.slot_list_append PySem.F.type_list_append mt_append (pv 1) (pa_cons (v_tup (va_cons (v_name 2 (pv 2)) (va_cons (v_name 3 (pv 3)) va_nil))) pa_nil)))) vss_nil) (vss_one (vs_aug (i := 2) sc_whole_primes.nd rfl (.inl rfl) (VE.toO (v_ifExp (t_eq hu (VE.toO (v_name 2 (pv 2))) (VE.toO v_int)) v_int v_int)) ip_add is_add)))))) (vss_one (vs_ret (v_add (v_nameO 1 (pv 1)) (VE.toO (v_ifExp (t_gt (VE.toO (v_name 0 (pv 0))) (VE.toO v_int)) (VF.toE (v_lst (va_cons (v_tup (va_cons (v_name 0 (pv 0)) (va_cons v_int va_nil))) va_nil))) (VF.toE (v_lst va_nil)))))))))))
def b_is_prime : SM := (retM (andV (chainM leD leD (mC (.int 2)) (mVar 0) (mC c_MOST_VALUE)) (bin eqD (callM 1 m_whole_primes (consM (mVar 0) nilM)) (toEM (lstM (consM (tupM (consM (mVar 0) (consM (mC (.int 1)) nilM))) nilM))))))
def m_is_prime : List D → R D := runD 1 b_is_prime
theorem ok_is_prime (t : T K mg) : Ok P w K mg base "is_prime" ["value"] 2 m_is_prime := by
  obtain ⟨f, fd, F, g, b⟩ := t.d_is_prime
  obtain ⟨f_whole_primes, fd_whole_primes, G_whole_primes, g_whole_primes, k_whole_primes, b_whole_primes⟩ := ok_whole_primes (P := P) (w := w) (base := base) t
  obtain ⟨u_MOST_VALUE, v_MOST_VALUE, g_MOST_VALUE, r_MOST_VALUE, rp_MOST_VALUE⟩ := t.c_MOST_VALUE
  refine ⟨f, fd, ?_, g, F.kp, b⟩
  show FnOk P w K mg base (L2.CX P w) 2 f fd ["value"] (spP K mg 1 (runD 1 b_is_prime))
  refine def_ok F sc_is_prime (fun cdv A outer s H E hr => ?_)
  have hu := hr.units
  have tk : Takes (cxOf (L2.CX P w) P w K mg base N_is_prime "is_prime" (defScope s_is_prime) f cdv A outer s H E) (fun cls d _ H => E cls d H) := takes_of rfl rfl rfl rfl
  unfold b_is_prime
  exact (vss_one (vs_ret (v_and (v_chain op_le op_le s_le s_le (VE.toO v_int) (VE.toO (v_name 0 (pv 0))) (VE.toO (v_glob (by rfl) g_MOST_VALUE r_MOST_VALUE rp_MOST_VALUE))) (v_one (v_eq hu (VE.toO (v_call G_whole_primes tk (hr.mono (by decide)) (by rfl) g_whole_primes k_whole_primes b_whole_primes (va_cons (v_name 0 (pv 0)) va_nil))) (VE.toO (VF.toE (v_lst (va_cons (v_tup (va_cons (v_name 0 (pv 0)) (va_cons v_int va_nil))) va_nil)))))))))
def b_check_prime : SM := (ifM (orM (notM (asB (chainM leD leD (mC (.int 2)) (mVar 0) (mVar 1)))) (notM (truM (callM 1 m_is_prime (consM (mVar 0) nilM))))) (fun ρ => .exc ⟨"InvalidQuestion", []⟩ ρ) skipM)
def m_check_prime : List D → R D := runD 2 b_check_prime
theorem ok_check_prime (t : T K mg) : Ok P w K mg base "check_prime" ["prime", "most"] 3 m_check_prime := by
  obtain ⟨f, fd, F, g, b⟩ := t.d_check_prime
  obtain ⟨f_is_prime, fd_is_prime, G_is_prime, g_is_prime, k_is_prime, b_is_prime⟩ := ok_is_prime (P := P) (w := w) (base := base) t
  obtain ⟨C_InvalidQuestion, x_InvalidQuestion, g_InvalidQuestion, k_InvalidQuestion, b_InvalidQuestion, t_InvalidQuestion⟩ := t.e_InvalidQuestion
  refine ⟨f, fd, ?_, g, F.kp, b⟩
  show FnOk P w K mg base (L2.CX P w) 3 f fd ["prime", "most"] (spP K mg 2 (runD 2 b_check_prime))
  refine def_ok F sc_check_prime (fun cdv A outer s H E hr => ?_)
  have hu := hr.units
  have tk : Takes (cxOf (L2.CX P w) P w K mg base N_check_prime "check_prime" (defScope s_check_prime) f cdv A outer s H E) (fun cls d _ H => E cls d H) := takes_of rfl rfl rfl rfl
  unfold b_check_prime
  exact (vss_one (vs_if (PW.pt (vw_or (vt_not (t_chain op_le op_le s_le s_le (VE.toO v_int) (VE.toO (v_name 0 (pv 0))) (VE.toO (v_name 1 (pv 1))))) (vw_or1 (vt_not (vt_truth (VE.toO (v_call G_is_prime tk (hr.mono (by decide)) (by rfl) g_is_prime k_is_prime b_is_prime (va_cons (v_name 0 (pv 0)) va_nil)))))))) (vss_one (vs_raise rfl tk PySem.F.excBase_ValueError x_InvalidQuestion g_InvalidQuestion k_InvalidQuestion (raises_own b_InvalidQuestion t_InvalidQuestion) (by rfl))) vss_nil))
def b_check_odd : SM := (seqM (exprM (callM 2 m_check_prime (consM (mVar 0) (consM (mC c_MOST_ODD) nilM)))) (ifM (asB (bin eqD (mVar 0) (mC (.int 2)))) (fun ρ => .exc ⟨"InvalidQuestion", []⟩ ρ) skipM))
def m_check_odd : List D → R D := runD 1 b_check_odd
theorem ok_check_odd (t : T K mg) : Ok P w K mg base "check_odd" ["prime"] 4 m_check_odd := by
  obtain ⟨f, fd, F, g, b⟩ := t.d_check_odd
  obtain ⟨f_check_prime, fd_check_prime, G_check_prime, g_check_prime, k_check_prime, b_check_prime⟩ := ok_check_prime (P := P) (w := w) (base := base) t
  obtain ⟨u_MOST_ODD, v_MOST_ODD, g_MOST_ODD, r_MOST_ODD, rp_MOST_ODD⟩ := t.c_MOST_ODD
  obtain ⟨C_InvalidQuestion, x_InvalidQuestion, g_InvalidQuestion, k_InvalidQuestion, b_InvalidQuestion, t_InvalidQuestion⟩ := t.e_InvalidQuestion
  refine ⟨f, fd, ?_, g, F.kp, b⟩
  show FnOk P w K mg base (L2.CX P w) 4 f fd ["prime"] (spP K mg 1 (runD 1 b_check_odd))
  refine def_ok F sc_check_odd (fun cdv A outer s H E hr => ?_)
  have hu := hr.units
  have tk : Takes (cxOf (L2.CX P w) P w K mg base N_check_odd "check_odd" (defScope s_check_odd) f cdv A outer s H E) (fun cls d _ H => E cls d H) := takes_of rfl rfl rfl rfl
  unfold b_check_odd
  exact (vss_cons (vs_expr (v_call G_check_prime tk (hr.mono (by decide)) (by rfl) g_check_prime k_check_prime b_check_prime (va_cons (v_name 0 (pv 0)) (va_cons (v_glob (by rfl) g_MOST_ODD r_MOST_ODD rp_MOST_ODD) va_nil)))) (vss_one (vs_if (t_eq hu (VE.toO (v_name 0 (pv 0))) (VE.toO v_int)) (vss_one (vs_raise rfl tk PySem.F.excBase_ValueError x_InvalidQuestion g_InvalidQuestion k_InvalidQuestion (raises_own b_InvalidQuestion t_InvalidQuestion) (by rfl))) vss_nil)))
def b_roots_by_square : SM := (seqM (setKM 1 (fun _ => .ok [])) (seqM (groupM 1 (rng1I (mVar 0)) (gN 2) (bin modD (bin mulI (mVar 2) (mVar 2)) (mVar 0)) (mVar 2)) (frzKM 1 (retM (mVar 1)))))
def m_roots_by_square : List D → R D := runD 3 b_roots_by_square
theorem ok_roots_by_square (t : T K mg) : Ok P w K mg base "roots_by_square" ["prime"] 1 m_roots_by_square := by
  obtain ⟨f, fd, F, g, b⟩ := t.d_roots_by_square
  refine ⟨f, fd, ?_, g, F.kp, b⟩
  show FnOk P w K mg base (L2.CX P w) 1 f fd ["prime"] (spP K mg 1 (runD 3 b_roots_by_square))
  refine def_ok F sc_roots_by_square (fun cdv A outer s H E hr => ?_)
  have hu := hr.units
  have tk : Takes (cxOf (L2.CX P w) P w K mg base N_roots_by_square "roots_by_square" (defScope s_roots_by_square) f cdv A outer s H E) (fun cls d _ H => E cls d H) := takes_of rfl rfl rfl rfl
  unfold b_roots_by_square
  exact (vss_cons (vs_setK (i := 1) sc_roots_by_square.nd rfl (.inl rfl) vdk_nil) (vss_cons (vs_group (i := 1) (is := [2]) (passes_of rfl) rfl (vi_range1 (by rfl) t.n_range (pa1 (VE.toO (v_name 0 (pv 0))))) (vgc_name (i := 2) sc_roots_by_square.nd rfl (by first | exact .inl rfl | exact .inr rfl)) (by decide) (gN_keep (by decide)) (pe_bm PySem.F.plainAttrs_list PySem.F.slot_list_append PySem.F.type_list_append mt_append (pe_dsetd (pv 1) (v_mod (VE.toO (v_mul (VE.toO (v_name 2 (pv 2))) (VE.toO (v_name 2 (pv 2))))) (VE.toO (v_name 0 (pv 0)))) (pe_lst pa_nil) (by exact ⟨rfl, rfl, rfl, rfl⟩)) (pa_cons (v_name 2 (pv 2)) pa_nil))) (vss_one (vs_frzK 1 (vs_ret (v_name 1 (pv 1)))))))
def b_root_pair : SM := (seqM (exprM (callM 1 m_check_odd (consM (mVar 0) nilM))) (seqM (setM 1 (callM 1 m_roots_by_square (consM (mVar 0) nilM))) (seqM (setM 2 (mC (.int 0))) (seqM (fun ρ => whileL (asB (bin notInDct (bin modD (bin subD (un negD (mC (.int 1))) (bin mulI (mVar 2) (mVar 2))) (mVar 0)) (mVar 1))) (augM 2 addI (mC (.int 1))) ((fun _ => 2000) ρ) ρ) (retM (tupM (consM (mVar 2) (consM (bin ixD (bin dgetD (mVar 1) (bin modD (bin subD (un negD (mC (.int 1))) (bin mulI (mVar 2) (mVar 2))) (mVar 0))) (mC (.int 0))) nilM))))))))
def m_root_pair : List D → R D := runD 3 b_root_pair
theorem ok_root_pair (t : T K mg) : Ok P w K mg base "root_pair" ["prime"] 5 m_root_pair := by
  obtain ⟨f, fd, F, g, b⟩ := t.d_root_pair
  obtain ⟨f_check_odd, fd_check_odd, G_check_odd, g_check_odd, k_check_odd, b_check_odd⟩ := ok_check_odd (P := P) (w := w) (base := base) t
  obtain ⟨f_roots_by_square, fd_roots_by_square, G_roots_by_square, g_roots_by_square, k_roots_by_square, b_roots_by_square⟩ := ok_roots_by_square (P := P) (w := w) (base := base) t
  refine ⟨f, fd, ?_, g, F.kp, b⟩
  show FnOk P w K mg base (L2.CX P w) 5 f fd ["prime"] (spP K mg 1 (runD 3 b_root_pair))
  refine def_ok F sc_root_pair (fun cdv A outer s H E hr => ?_)
  have hu := hr.units
  have tk : Takes (cxOf (L2.CX P w) P w K mg base N_root_pair "root_pair" (defScope s_root_pair) f cdv A outer s H E) (fun cls d _ H => E cls d H) := takes_of rfl rfl rfl rfl
  unfold b_root_pair
  exact (vss_cons (vs_expr (v_call G_check_odd tk (hr.mono (by decide)) (by rfl) g_check_odd k_check_odd b_check_odd (va_cons (v_name 0 (pv 0)) va_nil))) (vss_cons (vs_set (i := 1) sc_root_pair.nd rfl (.inl rfl) (v_call G_roots_by_square tk (hr.mono (by decide)) (by rfl) g_roots_by_square k_roots_by_square b_roots_by_square (va_cons (v_name 0 (pv 0)) va_nil))) (vss_cons (vs_set (i := 2) sc_root_pair.nd rfl (.inl rfl) v_int) (vss_cons (vs_while (fun _ => 2000) (passes_of rfl) (t_notInD hu (VE.toO (v_mod (VE.toO (v_sub (VE.toO (v_neg (VE.toO v_int))) (VE.toO (v_mul (VE.toO (v_name 2 (pv 2))) (VE.toO (v_name 2 (pv 2))))))) (VE.toO (v_name 0 (pv 0))))) (VE.toO (v_name 1 (pv 1)))) (vss_one (vs_aug (i := 2) sc_root_pair.nd rfl (.inl rfl) (VE.toO v_int) ip_add is_add))) (vss_one (vs_ret (v_tup (va_cons (v_name 2 (pv 2)) (va_cons (v_ix (VE.toO (v_dget hu (VE.toO (v_name 1 (pv 1))) (VE.toO (v_mod (VE.toO (v_sub (VE.toO (v_neg (VE.toO v_int))) (VE.toO (v_mul (VE.toO (v_name 2 (pv 2))) (VE.toO (v_name 2 (pv 2))))))) (VE.toO (v_name 0 (pv 0))))))) (VE.toO v_int)) va_nil)))))))))
def b_table_of : SM := (seqM (exprM (callM 1 m_check_number (consM (mVar 0) nilM))) (seqM (asgM (gT 2 (gsC (gN 2) (gsC (gN 3) gsN))) (callM 1 m_root_pair (consM (mVar 1) nilM))) (seqM (setM 4 (bin fdivD (bin addD (mVar 1) (mC (.int 1))) (mC (.int 2)))) (seqM (asgM (gT 4 (gsC (gN 5) (gsC (gN 6) (gsC (gN 7) (gsC (gN 8) gsN))))) (toEM (lcM [10] (seqI (mVar 0)) (gN 10) yesM (bin mulI (mVar 10) (mVar 4))))) (seqM (setM 9 (tupM (consM (bin modD (bin addD (bin addD (mVar 5) (bin mulI (mVar 6) (mVar 2))) (bin mulI (mVar 8) (mVar 3))) (mVar 1)) (consM (bin modD (bin subD (bin subD (bin mulI (mVar 6) (mVar 3)) (mVar 7)) (bin mulI (mVar 8) (mVar 2))) (mVar 1)) nilM)))) (retM (tupM (consM (mVar 9) (consM (tupM (consM (bin modD (bin subD (bin addD (bin mulI (mVar 6) (mVar 3)) (mVar 7)) (bin mulI (mVar 8) (mVar 2))) (mVar 1)) (consM (bin modD (bin subD (bin subD (mVar 5) (bin mulI (mVar 6) (mVar 2))) (bin mulI (mVar 8) (mVar 3))) (mVar 1)) nilM))) nilM)))))))))
def m_table_of : List D → R D := runD 11 b_table_of
theorem ok_table_of (t : T K mg) : Ok P w K mg base "table_of" ["number", "prime"] 6 m_table_of := by
  obtain ⟨f, fd, F, g, b⟩ := t.d_table_of
  obtain ⟨f_check_number, fd_check_number, G_check_number, g_check_number, k_check_number, b_check_number⟩ := ok_check_number (P := P) (w := w) (base := base) t
  obtain ⟨f_root_pair, fd_root_pair, G_root_pair, g_root_pair, k_root_pair, b_root_pair⟩ := ok_root_pair (P := P) (w := w) (base := base) t
  refine ⟨f, fd, ?_, g, F.kp, b⟩
  show FnOk P w K mg base (L2.CX P w) 6 f fd ["number", "prime"] (spP K mg 2 (runD 11 b_table_of))
  refine def_ok F sc_table_of (fun cdv A outer s H E hr => ?_)
  have hu := hr.units
  have tk : Takes (cxOf (L2.CX P w) P w K mg base N_table_of "table_of" (defScope s_table_of) f cdv A outer s H E) (fun cls d _ H => E cls d H) := takes_of rfl rfl rfl rfl
  unfold b_table_of
  exact (vss_cons (vs_expr (v_call G_check_number tk (hr.mono (by decide)) (by rfl) g_check_number k_check_number b_check_number (va_cons (v_name 0 (pv 0)) va_nil))) (vss_cons (vs_asg (vg_tup rfl (vgs_cons (vg_name (i := 2) sc_table_of.nd rfl (.inl rfl)) (vgs_cons (vg_name (i := 3) sc_table_of.nd rfl (.inl rfl)) vgs_nil))) (v_call G_root_pair tk (hr.mono (by decide)) (by rfl) g_root_pair k_root_pair b_root_pair (va_cons (v_name 1 (pv 1)) va_nil))) (vss_cons (vs_set (i := 4) sc_table_of.nd rfl (.inr rfl) (v_fdiv (VE.toO (v_add (VE.toO (v_name 1 (pv 1))) (VE.toO v_int))) (VE.toO v_int))) (vss_cons (vs_asg (vg_tup rfl (vgs_cons (vg_name (i := 5) sc_table_of.nd rfl (.inl rfl)) (vgs_cons (vg_name (i := 6) sc_table_of.nd rfl (.inl rfl)) (vgs_cons (vg_name (i := 7) sc_table_of.nd rfl (.inl rfl)) (vgs_cons (vg_name (i := 8) sc_table_of.nd rfl (.inl rfl)) vgs_nil))))) (VF.toE (v_lc (own := [("part", 10)]) (is := [10]) rfl sc_table_of.nd (vi_seq (v_name 0 (pv 0))) (blkOk_by (own := [("part", 10)]) (N := N_table_of) (sc := defScope s_table_of) (by decide +kernel)) (by decide) (fun _ _ _ _ _ => (vgc_name (i := 10) sc_table_of.nd rfl (by first | exact .inl rfl | exact .inr rfl))) (fun _ _ _ _ _ => vts_nil) (fun _ _ _ _ _ => (v_mul (VE.toO (v_name 10 (pv 10))) (VE.toO (v_name 4 (pv 4)))))))) (vss_cons (vs_set (i := 9) sc_table_of.nd rfl (.inl rfl) (v_tup (va_cons (v_mod (VE.toO (v_add (VE.toO (v_add (VE.toO (v_name 5 (pv 5))) (VE.toO (v_mul (VE.toO (v_name 6 (pv 6))) (VE.toO (v_name 2 (pv 2))))))) (VE.toO (v_mul (VE.toO (v_name 8 (pv 8))) (VE.toO (v_name 3 (pv 3))))))) (VE.toO (v_name 1 (pv 1)))) (va_cons (v_mod (VE.toO (v_sub (VE.toO (v_sub (VE.toO (v_mul (VE.toO (v_name 6 (pv 6))) (VE.toO (v_name 3 (pv 3))))) (VE.toO (v_name 7 (pv 7))))) (VE.toO (v_mul (VE.toO (v_name 8 (pv 8))) (VE.toO (v_name 2 (pv 2))))))) (VE.toO (v_name 1 (pv 1)))) va_nil)))) (vss_one (vs_ret (v_tup (va_cons (v_name 9 (pv 9)) (va_cons (v_tup (va_cons (v_mod (VE.toO (v_sub (VE.toO (v_add (VE.toO (v_mul (VE.toO (v_name 6 (pv 6))) (VE.toO (v_name 3 (pv 3))))) (VE.toO (v_name 7 (pv 7))))) (VE.toO (v_mul (VE.toO (v_name 8 (pv 8))) (VE.toO (v_name 2 (pv 2))))))) (VE.toO (v_name 1 (pv 1)))) (va_cons (v_mod (VE.toO (v_sub (VE.toO (v_sub (VE.toO (v_name 5 (pv 5))) (VE.toO (v_mul (VE.toO (v_name 6 (pv 6))) (VE.toO (v_name 2 (pv 2))))))) (VE.toO (v_mul (VE.toO (v_name 8 (pv 8))) (VE.toO (v_name 3 (pv 3))))))) (VE.toO (v_name 1 (pv 1)))) va_nil))) va_nil))))))))))
def b__law_times : SM := (seqM (setLM 3 (lstM nilM)) (seqM (forM (seqI (mVar 0)) (gN 4) (appM 3 (un tupD (toEM (lcM [5] (rng1I (mC (.int 2))) (gN 5) yesM (bin modD (un intD (bin addD (bin mulI (bin ixD (mVar 4) (mC (.int 0))) (bin ixD (bin ixD (mVar 1) (mC (.int 0))) (mVar 5))) (bin mulI (bin ixD (mVar 4) (mC (.int 1))) (bin ixD (bin ixD (mVar 1) (mC (.int 1))) (mVar 5))))) (mVar 2))))))) (retM (un tupD (mVarO 3)))))
def m__law_times : List D → R D := runD 6 b__law_times
theorem ok__law_times (t : T K mg) : Ok P w K mg base "_law_times" ["_law_one", "_law_other", "_law_prime"] 1 m__law_times := by
  obtain ⟨f, fd, F, g, b⟩ := t.d__law_times
  refine ⟨f, fd, ?_, g, F.kp, b⟩
  show FnOk P w K mg base (L2.CX P w) 1 f fd ["_law_one", "_law_other", "_law_prime"] (spP K mg 3 (runD 6 b__law_times))
  refine def_ok F sc__law_times (fun cdv A outer s H E hr => ?_)
  have hu := hr.units
  have tk : Takes (cxOf (L2.CX P w) P w K mg base N__law_times "_law_times" (defScope s__law_times) f cdv A outer s H E) (fun cls d _ H => E cls d H) := takes_of rfl rfl rfl rfl
  unfold b__law_times
  exact (vss_cons (vs_setL (i := 3) sc__law_times.nd rfl (.inl rfl) (v_lst va_nil)) (vss_cons (vs_for (passes_of rfl) rfl (vi_seq (v_name 0 (pv 0))) (vg_name (i := 4) sc__law_times.nd rfl (.inr rfl)) (vss_one (vs_append (pe_bm PySem.F.plainAttrs_list PySem.F.slot_list_append PySem.F.type_list_append mt_append (pv 3) (pa_cons (v_ty1 c_tup s_tup (by rfl) t.n_tuple bt_tuple (pa1 (VE.toO (VF.toE (v_lc (own := [("_law_k", 5)]) (is := [5]) rfl sc__law_times.nd (vi_range1 (by rfl) t.n_range (pa1 (VE.toO v_int))) (blkOk_by (own := [("_law_k", 5)]) (N := N__law_times) (sc := defScope s__law_times) (by decide +kernel)) (by decide) (fun _ _ _ _ _ => (vgc_name (i := 5) sc__law_times.nd rfl (by first | exact .inl rfl | exact .inr rfl))) (fun _ _ _ _ _ => vts_nil) (fun _ _ _ _ _ => (v_mod (VE.toO (v_ty1 c_int s_int (by rfl) t.n_int bt_int (pa1 (VE.toO (v_add (VE.toO (v_mul (VE.toO (v_ix (VE.toO (v_name 4 (pv 4))) (VE.toO v_int))) (VE.toO (v_ix (VE.toO (v_ix (VE.toO (v_name 1 (pv 1))) (VE.toO v_int))) (VE.toO (v_name 5 (pv 5))))))) (VE.toO (v_mul (VE.toO (v_ix (VE.toO (v_name 4 (pv 4))) (VE.toO v_int))) (VE.toO (v_ix (VE.toO (v_ix (VE.toO (v_name 1 (pv 1))) (VE.toO v_int))) (VE.toO (v_name 5 (pv 5)))))))))))) (VE.toO (v_name 2 (pv 2)))))))))) pa_nil))))) (vss_one (vs_ret (v_ty1 c_tup s_tup (by rfl) t.n_tuple bt_tuple (pa1 (v_nameO 3 (pv 3))))))))
def b_is_pair : SM := (retM (andV (un (isi2D .tTuple .tList) (mVar 0)) (andV (bin eqD (un lenD (mVar 0)) (mC (.int 2))) (un allD (toEM (lcM [1] (seqI (mVar 0)) (gN 1) yesM (un (isi1D .tInt) (mVar 1))))))))
def m_is_pair : List D → R D := runD 2 b_is_pair
theorem ok_is_pair (t : T K mg) : Ok P w K mg base "is_pair" ["value"] 1 m_is_pair := by
  obtain ⟨f, fd, F, g, b⟩ := t.d_is_pair
  refine ⟨f, fd, ?_, g, F.kp, b⟩
  show FnOk P w K mg base (L2.CX P w) 1 f fd ["value"] (spP K mg 1 (runD 2 b_is_pair))
  refine def_ok F sc_is_pair (fun cdv A outer s H E hr => ?_)
  have hu := hr.units
  have tk : Takes (cxOf (L2.CX P w) P w K mg base N_is_pair "is_pair" (defScope s_is_pair) f cdv A outer s H E) (fun cls d _ H => E cls d H) := takes_of rfl rfl rfl rfl
  unfold b_is_pair
  exact (vss_one (vs_ret (v_and (v_isi2 .tTuple .tList (by rfl) t.n_isinstance (by rfl) t.n_tuple bt_tuple (by rfl) t.n_list bt_list (VE.toO (v_name 0 (pv 0)))) (v_and (v_eq hu (VE.toO (v_b1 c_len s_len (by rfl) t.n_len bt_len (pa1 (VE.toO (v_name 0 (pv 0)))))) (VE.toO v_int)) (v_one (v_b1 (cr_all rfl) s_all (by rfl) t.n_all bt_all (pa1 (VE.toO (VF.toE (v_lc (own := [("part", 1)]) (is := [1]) rfl sc_is_pair.nd (vi_seq (v_name 0 (pv 0))) (blkOk_by (own := [("part", 1)]) (N := N_is_pair) (sc := defScope s_is_pair) (by decide +kernel)) (by decide) (fun _ _ _ _ _ => (vgc_name (i := 1) sc_is_pair.nd rfl (by first | exact .inl rfl | exact .inr rfl))) (fun _ _ _ _ _ => vts_nil) (fun _ _ _ _ _ => (v_isi1 .tInt (by rfl) t.n_isinstance (by rfl) t.n_int bt_int (VE.toO (v_name 1 (pv 1)))))))))))))))
def b_check_table : SM := (seqM (ifM (orM (notM (truM (un (isi2D .tTuple .tList) (mVar 0)))) (orM (asB (bin neD (un lenD (mVar 0)) (mC (.int 2)))) (notM (truM (un allD (toEM (lcM [2] (seqI (mVar 0)) (gN 2) yesM (callM 1 m_is_pair (consM (mVar 2) nilM))))))))) (fun ρ => .exc ⟨"InvalidQuestion", []⟩ ρ) skipM) (ifM (notM (truM (un allD (toEM (lc2M [2, 3] [3] (seqI (mVar 0)) (gN 2) yesM (seqI (mVar 2)) (gN 3) yesM (chainM leD ltD (mC (.int 0)) (mVar 3) (mVar 1))))))) (fun ρ => .exc ⟨"InvalidQuestion", []⟩ ρ) skipM))
def m_check_table : List D → R D := runD 4 b_check_table
theorem ok_check_table (t : T K mg) : Ok P w K mg base "check_table" ["table", "prime"] 2 m_check_table := by
  obtain ⟨f, fd, F, g, b⟩ := t.d_check_table
  obtain ⟨f_is_pair, fd_is_pair, G_is_pair, g_is_pair, k_is_pair, b_is_pair⟩ := ok_is_pair (P := P) (w := w) (base := base) t
  obtain ⟨C_InvalidQuestion, x_InvalidQuestion, g_InvalidQuestion, k_InvalidQuestion, b_InvalidQuestion, t_InvalidQuestion⟩ := t.e_InvalidQuestion
  refine ⟨f, fd, ?_, g, F.kp, b⟩
  show FnOk P w K mg base (L2.CX P w) 2 f fd ["table", "prime"] (spP K mg 2 (runD 4 b_check_table))
  refine def_ok F sc_check_table (fun cdv A outer s H E hr => ?_)
  have hu := hr.units
  have tk : Takes (cxOf (L2.CX P w) P w K mg base N_check_table "check_table" (defScope s_check_table) f cdv A outer s H E) (fun cls d _ H => E cls d H) := takes_of rfl rfl rfl rfl
  unfold b_check_table
  exact (vss_cons (vs_if (PW.pt (vw_or (vt_not (vt_truth (VE.toO (v_isi2 .tTuple .tList (by rfl) t.n_isinstance (by rfl) t.n_tuple bt_tuple (by rfl) t.n_list bt_list (VE.toO (v_name 0 (pv 0))))))) (vw_or (t_ne hu (VE.toO (v_b1 c_len s_len (by rfl) t.n_len bt_len (pa1 (VE.toO (v_name 0 (pv 0)))))) (VE.toO v_int)) (vw_or1 (vt_not (vt_truth (VE.toO (v_b1 (cr_all rfl) s_all (by rfl) t.n_all bt_all (pa1 (VE.toO (VF.toE (v_lc (own := [("line", 2)]) (is := [2]) rfl sc_check_table.nd (vi_seq (v_name 0 (pv 0))) (blkOk_by (own := [("line", 2)]) (N := N_check_table) (sc := defScope s_check_table) (by decide +kernel)) (by decide) (fun _ _ _ _ _ => (vgc_name (i := 2) sc_check_table.nd rfl (by first | exact .inl rfl | exact .inr rfl))) (fun _ _ _ _ _ => vts_nil) (fun _ _ _ _ _ => (v_call G_is_pair takes0 (hr.mono (by decide)) (by rfl) g_is_pair k_is_pair b_is_pair (va_cons (v_name 2 (pv 2)) va_nil))))))))))))))) (vss_one (vs_raise rfl tk PySem.F.excBase_ValueError x_InvalidQuestion g_InvalidQuestion k_InvalidQuestion (raises_own b_InvalidQuestion t_InvalidQuestion) (by rfl))) vss_nil) (vss_one (vs_if (vt_not (vt_truth (VE.toO (v_b1 (cr_all rfl) s_all (by rfl) t.n_all bt_all (pa1 (VE.toO (VF.toE (v_lc2 (own := [("line", 2), ("part", 3)]) (is := [2]) (is1 := [3]) (vs1 := [3]) rfl sc_check_table.nd (vi_seq (v_name 0 (pv 0))) (blkOk_by (own := [("line", 2), ("part", 3)]) (N := N_check_table) (sc := defScope s_check_table) (by decide +kernel)) (by decide) (by decide) (by decide) (fun _ _ _ _ _ => (vgc_name (i := 2) sc_check_table.nd rfl (by first | exact .inl rfl | exact .inr rfl))) (fun _ _ _ _ _ => vts_nil) (fun _ _ _ _ _ => (vi_seq (v_name 2 (pv 2)))) (fun _ _ _ _ _ => (vgc_name (i := 3) sc_check_table.nd rfl (by first | exact .inl rfl | exact .inr rfl))) (fun _ _ _ _ _ => vts_nil) (fun _ _ _ _ _ => (v_chain op_le op_lt s_le s_lt (VE.toO v_int) (VE.toO (v_name 3 (pv 3))) (VE.toO (v_name 1 (pv 1))))))))))))) (vss_one (vs_raise rfl tk PySem.F.excBase_ValueError x_InvalidQuestion g_InvalidQuestion k_InvalidQuestion (raises_own b_InvalidQuestion t_InvalidQuestion) (by rfl))) vss_nil)))
def b_table_product : SM := (seqM (exprM (callM 1 m_check_odd (consM (mVar 2) nilM))) (seqM (exprM (callM 2 m_check_table (consM (mVar 0) (consM (mVar 2) nilM)))) (seqM (exprM (callM 2 m_check_table (consM (mVar 1) (consM (mVar 2) nilM)))) (seqM (setM 3 (toEM (unL zipStarL (mVar 1)))) (retM (un tupD (toEM (lcM [4] (seqI (mVar 0)) (gN 4) yesM (un tupD (toEM (lcM [5] (seqI (mVar 3)) (gN 5) yesM (bin modD (un sumD (toEM (lcM [6, 7] (zipI (mVar 4) (mVar 5)) (gT 2 (gsC (gN 6) (gsC (gN 7) gsN))) yesM (bin mulI (mVar 6) (mVar 7))))) (mVar 2)))))))))))))
def m_table_product : List D → R D := runD 8 b_table_product
theorem ok_table_product (t : T K mg) : Ok P w K mg base "table_product" ["one", "other", "prime"] 5 m_table_product := by
  obtain ⟨f, fd, F, g, b⟩ := t.d_table_product
  obtain ⟨f_check_odd, fd_check_odd, G_check_odd, g_check_odd, k_check_odd, b_check_odd⟩ := ok_check_odd (P := P) (w := w) (base := base) t
  obtain ⟨f_check_table, fd_check_table, G_check_table, g_check_table, k_check_table, b_check_table⟩ := ok_check_table (P := P) (w := w) (base := base) t
  refine ⟨f, fd, ?_, g, F.kp, b⟩
  show FnOk P w K mg base (L2.CX P w) 5 f fd ["one", "other", "prime"] (spP K mg 3 (runD 8 b_table_product))
  refine def_ok F sc_table_product (fun cdv A outer s H E hr => ?_)
  have hu := hr.units
  have tk : Takes (cxOf (L2.CX P w) P w K mg base N_table_product "table_product" (defScope s_table_product) f cdv A outer s H E) (fun cls d _ H => E cls d H) := takes_of rfl rfl rfl rfl
  unfold b_table_product
  exact (vss_cons (vs_expr (v_call G_check_odd tk (hr.mono (by decide)) (by rfl) g_check_odd k_check_odd b_check_odd (va_cons (v_name 2 (pv 2)) va_nil))) (vss_cons (vs_expr (v_call G_check_table tk (hr.mono (by decide)) (by rfl) g_check_table k_check_table b_check_table (va_cons (v_name 0 (pv 0)) (va_cons (v_name 2 (pv 2)) va_nil)))) (vss_cons (vs_expr (v_call G_check_table tk (hr.mono (by decide)) (by rfl) g_check_table k_check_table b_check_table (va_cons (v_name 1 (pv 1)) (va_cons (v_name 2 (pv 2)) va_nil)))) (vss_cons (vs_set (i := 3) sc_table_product.nd rfl (.inr rfl) (VF.toE (vf_listZipStar rfl (by rfl) t.n_list (by rfl) t.n_zip (v_name 1 (pv 1))))) (vss_one (vs_ret (v_ty1 c_tup s_tup (by rfl) t.n_tuple bt_tuple (pa1 (VE.toO (VF.toE (v_lc (own := [("line", 4)]) (is := [4]) rfl sc_table_product.nd (vi_seq (v_name 0 (pv 0))) (blkOk_by (own := [("line", 4)]) (N := N_table_product) (sc := defScope s_table_product) (by decide +kernel)) (by decide) (fun _ _ _ _ _ => (vgc_name (i := 4) sc_table_product.nd rfl (by first | exact .inl rfl | exact .inr rfl))) (fun _ _ _ _ _ => vts_nil) (fun _ _ _ _ _ => (v_ty1 c_tup s_tup (by rfl) t.n_tuple bt_tuple (pa1 (VE.toO (VF.toE (v_lc (own := [("column", 5)]) (is := [5]) rfl sc_table_product.nd (vi_seq (v_name 3 (pv 3))) (blkOk_by (own := [("column", 5)]) (N := N_table_product) (sc := relS _ (defScope s_table_product)) (by decide +kernel)) (by decide) (fun _ _ _ _ _ => (vgc_name (i := 5) sc_table_product.nd rfl (by first | exact .inl rfl | exact .inr rfl))) (fun _ _ _ _ _ => vts_nil) (fun _ _ _ _ _ => (v_mod (VE.toO (v_b1 (cr_sum rfl) s_sum (by rfl) t.n_sum bt_sum (pa1 (VE.toO (VF.toE (v_lc (own := [("a", 6), ("b", 7)]) (is := [6, 7]) rfl sc_table_product.nd (vi_zip (by rfl) t.n_zip (v_name 4 (pv 4)) (v_name 5 (pv 5))) (blkOk_by (own := [("a", 6), ("b", 7)]) (N := N_table_product) (sc := relS _ (relS _ (defScope s_table_product))) (by decide +kernel)) (by decide) (fun _ _ _ _ _ => (vgc_tup rfl (vgsc_cons (vgc_name (i := 6) sc_table_product.nd rfl (by first | exact .inl rfl | exact .inr rfl)) (vgsc_cons (vgc_name (i := 7) sc_table_product.nd rfl (by first | exact .inl rfl | exact .inr rfl)) vgsc_nil)))) (fun _ _ _ _ _ => vts_nil) (fun _ _ _ _ _ => (v_mul (VE.toO (v_name 6 (pv 6))) (VE.toO (v_name 7 (pv 7))))))))))) (VE.toO (v_name 2 (pv 2))))))))))))))))))))))
def b__law_product : SM := (seqM (asgM (gT 4 (gsC (gN 2) (gsC (gN 3) (gsC (gN 4) (gsC (gN 5) gsN))))) (mVar 0)) (seqM (asgM (gT 4 (gsC (gN 6) (gsC (gN 7) (gsC (gN 8) (gsC (gN 9) gsN))))) (mVar 1)) (seqM (setM 10 (bin subD (bin subD (bin subD (bin mulI (mVar 2) (mVar 6)) (bin mulI (mVar 3) (mVar 7))) (bin mulI (mVar 4) (mVar 8))) (bin mulI (mVar 5) (mVar 9)))) (seqM (setM 11 (bin subD (bin addD (bin addD (bin mulI (mVar 2) (mVar 7)) (bin mulI (mVar 3) (mVar 6))) (bin mulI (mVar 4) (mVar 9))) (bin mulI (mVar 5) (mVar 8)))) (seqM (setM 12 (bin addD (bin addD (bin subD (bin mulI (mVar 2) (mVar 8)) (bin mulI (mVar 3) (mVar 9))) (bin mulI (mVar 4) (mVar 6))) (bin mulI (mVar 5) (mVar 7)))) (seqM (setM 13 (bin addD (bin subD (bin addD (bin mulI (mVar 2) (mVar 9)) (bin mulI (mVar 3) (mVar 8))) (bin mulI (mVar 4) (mVar 7))) (bin mulI (mVar 5) (mVar 6)))) (retM (tupM (consM (bin fdivD (mVar 10) (mC (.int 2))) (consM (bin fdivD (mVar 11) (mC (.int 2))) (consM (bin fdivD (mVar 12) (mC (.int 2))) (consM (bin fdivD (mVar 13) (mC (.int 2))) nilM))))))))))))
def m__law_product : List D → R D := runD 14 b__law_product
theorem ok__law_product (t : T K mg) : Ok P w K mg base "_law_product" ["_law_one", "_law_other"] 1 m__law_product := by
  obtain ⟨f, fd, F, g, b⟩ := t.d__law_product
  refine ⟨f, fd, ?_, g, F.kp, b⟩
  show FnOk P w K mg base (L2.CX P w) 1 f fd ["_law_one", "_law_other"] (spP K mg 2 (runD 14 b__law_product))
  refine def_ok F sc__law_product (fun cdv A outer s H E hr => ?_)
  have hu := hr.units
  have tk : Takes (cxOf (L2.CX P w) P w K mg base N__law_product "_law_product" (defScope s__law_product) f cdv A outer s H E) (fun cls d _ H => E cls d H) := takes_of rfl rfl rfl rfl
  unfold b__law_product
  exact (vss_cons (vs_asg (vg_tup rfl (vgs_cons (vg_name (i := 2) sc__law_product.nd rfl (.inl rfl)) (vgs_cons (vg_name (i := 3) sc__law_product.nd rfl (.inl rfl)) (vgs_cons (vg_name (i := 4) sc__law_product.nd rfl (.inl rfl)) (vgs_cons (vg_name (i := 5) sc__law_product.nd rfl (.inl rfl)) vgs_nil))))) (v_name 0 (pv 0))) (vss_cons (vs_asg (vg_tup rfl (vgs_cons (vg_name (i := 6) sc__law_product.nd rfl (.inl rfl)) (vgs_cons (vg_name (i := 7) sc__law_product.nd rfl (.inl rfl)) (vgs_cons (vg_name (i := 8) sc__law_product.nd rfl (.inl rfl)) (vgs_cons (vg_name (i := 9) sc__law_product.nd rfl (.inl rfl)) vgs_nil))))) (v_name 1 (pv 1))) (vss_cons (vs_set (i := 10) sc__law_product.nd rfl (.inl rfl) (v_sub (VE.toO (v_sub (VE.toO (v_sub (VE.toO (v_mul (VE.toO (v_name 2 (pv 2))) (VE.toO (v_name 6 (pv 6))))) (VE.toO (v_mul (VE.toO (v_name 3 (pv 3))) (VE.toO (v_name 7 (pv 7))))))) (VE.toO (v_mul (VE.toO (v_name 4 (pv 4))) (VE.toO (v_name 8 (pv 8))))))) (VE.toO (v_mul (VE.toO (v_name 5 (pv 5))) (VE.toO (v_name 9 (pv 9))))))) (vss_cons (vs_set (i := 11) sc__law_product.nd rfl (.inl rfl) (v_sub (VE.toO (v_add (VE.toO (v_add (VE.toO (v_mul (VE.toO (v_name 2 (pv 2))) (VE.toO (v_name 7 (pv 7))))) (VE.toO (v_mul (VE.toO (v_name 3 (pv 3))) (VE.toO (v_name 6 (pv 6))))))) (VE.toO (v_mul (VE.toO (v_name 4 (pv 4))) (VE.toO (v_name 9 (pv 9))))))) (VE.toO (v_mul (VE.toO (v_name 5 (pv 5))) (VE.toO (v_name 8 (pv 8))))))) (vss_cons (vs_set (i := 12) sc__law_product.nd rfl (.inl rfl) (v_add (VE.toO (v_add (VE.toO (v_sub (VE.toO (v_mul (VE.toO (v_name 2 (pv 2))) (VE.toO (v_name 8 (pv 8))))) (VE.toO (v_mul (VE.toO (v_name 3 (pv 3))) (VE.toO (v_name 9 (pv 9))))))) (VE.toO (v_mul (VE.toO (v_name 4 (pv 4))) (VE.toO (v_name 6 (pv 6))))))) (VE.toO (v_mul (VE.toO (v_name 5 (pv 5))) (VE.toO (v_name 7 (pv 7))))))) (vss_cons (vs_set (i := 13) sc__law_product.nd rfl (.inl rfl) (v_add (VE.toO (v_sub (VE.toO (v_add (VE.toO (v_mul (VE.toO (v_name 2 (pv 2))) (VE.toO (v_name 9 (pv 9))))) (VE.toO (v_mul (VE.toO (v_name 3 (pv 3))) (VE.toO (v_name 8 (pv 8))))))) (VE.toO (v_mul (VE.toO (v_name 4 (pv 4))) (VE.toO (v_name 7 (pv 7))))))) (VE.toO (v_mul (VE.toO (v_name 5 (pv 5))) (VE.toO (v_name 6 (pv 6))))))) (vss_one (vs_ret (v_tup (va_cons (v_fdiv (VE.toO (v_name 10 (pv 10))) (VE.toO v_int)) (va_cons (v_fdiv (VE.toO (v_name 11 (pv 11))) (VE.toO v_int)) (va_cons (v_fdiv (VE.toO (v_name 12 (pv 12))) (VE.toO v_int)) (va_cons (v_fdiv (VE.toO (v_name 13 (pv 13))) (VE.toO v_int)) va_nil)))))))))))))
def b_determinant : SM := (seqM (exprM (callM 1 m_check_odd (consM (mVar 1) nilM))) (seqM (exprM (callM 2 m_check_table (consM (mVar 0) (consM (mVar 1) nilM)))) (seqM (asgM (gT 2 (gsC (gT 2 (gsC (gN 2) (gsC (gN 3) gsN))) (gsC (gT 2 (gsC (gN 4) (gsC (gN 5) gsN))) gsN))) (mVar 0)) (retM (bin modD (bin subD (bin mulI (mVar 2) (mVar 5)) (bin mulI (mVar 3) (mVar 4))) (mVar 1))))))
def m_determinant : List D → R D := runD 6 b_determinant
theorem ok_determinant (t : T K mg) : Ok P w K mg base "determinant" ["table", "prime"] 5 m_determinant := by
  obtain ⟨f, fd, F, g, b⟩ := t.d_determinant
  obtain ⟨f_check_odd, fd_check_odd, G_check_odd, g_check_odd, k_check_odd, b_check_odd⟩ := ok_check_odd (P := P) (w := w) (base := base) t
  obtain ⟨f_check_table, fd_check_table, G_check_table, g_check_table, k_check_table, b_check_table⟩ := ok_check_table (P := P) (w := w) (base := base) t
  refine ⟨f, fd, ?_, g, F.kp, b⟩
  show FnOk P w K mg base (L2.CX P w) 5 f fd ["table", "prime"] (spP K mg 2 (runD 6 b_determinant))
  refine def_ok F sc_determinant (fun cdv A outer s H E hr => ?_)
  have hu := hr.units
  have tk : Takes (cxOf (L2.CX P w) P w K mg base N_determinant "determinant" (defScope s_determinant) f cdv A outer s H E) (fun cls d _ H => E cls d H) := takes_of rfl rfl rfl rfl
  unfold b_determinant
  exact (vss_cons (vs_expr (v_call G_check_odd tk (hr.mono (by decide)) (by rfl) g_check_odd k_check_odd b_check_odd (va_cons (v_name 1 (pv 1)) va_nil))) (vss_cons (vs_expr (v_call G_check_table tk (hr.mono (by decide)) (by rfl) g_check_table k_check_table b_check_table (va_cons (v_name 0 (pv 0)) (va_cons (v_name 1 (pv 1)) va_nil)))) (vss_cons (vs_asg (vg_tup rfl (vgs_cons (vg_tup rfl (vgs_cons (vg_name (i := 2) sc_determinant.nd rfl (.inl rfl)) (vgs_cons (vg_name (i := 3) sc_determinant.nd rfl (.inl rfl)) vgs_nil))) (vgs_cons (vg_tup rfl (vgs_cons (vg_name (i := 4) sc_determinant.nd rfl (.inl rfl)) (vgs_cons (vg_name (i := 5) sc_determinant.nd rfl (.inl rfl)) vgs_nil))) vgs_nil))) (v_name 0 (pv 0))) (vss_one (vs_ret (v_mod (VE.toO (v_sub (VE.toO (v_mul (VE.toO (v_name 2 (pv 2))) (VE.toO (v_name 5 (pv 5))))) (VE.toO (v_mul (VE.toO (v_name 3 (pv 3))) (VE.toO (v_name 4 (pv 4))))))) (VE.toO (v_name 1 (pv 1)))))))))
def b__law_norm : SM := (retM (bin fdivD (un sumD (toEM (lcM [1] (seqI (mVar 0)) (gN 1) yesM (bin mulI (mVar 1) (mVar 1))))) (mC (.int 4))))
def m__law_norm : List D → R D := runD 2 b__law_norm
theorem ok__law_norm (t : T K mg) : Ok P w K mg base "_law_norm" ["_law_number_here"] 1 m__law_norm := by
  obtain ⟨f, fd, F, g, b⟩ := t.d__law_norm
  refine ⟨f, fd, ?_, g, F.kp, b⟩
  show FnOk P w K mg base (L2.CX P w) 1 f fd ["_law_number_here"] (spP K mg 1 (runD 2 b__law_norm))
  refine def_ok F sc__law_norm (fun cdv A outer s H E hr => ?_)
  have hu := hr.units
  have tk : Takes (cxOf (L2.CX P w) P w K mg base N__law_norm "_law_norm" (defScope s__law_norm) f cdv A outer s H E) (fun cls d _ H => E cls d H) := takes_of rfl rfl rfl rfl
  unfold b__law_norm
  exact (vss_one (vs_ret (v_fdiv (VE.toO (v_b1 (cr_sum rfl) s_sum (by rfl) t.n_sum bt_sum (pa1 (VE.toO (VF.toE (v_lc (own := [("_law_part", 1)]) (is := [1]) rfl sc__law_norm.nd (vi_seq (v_name 0 (pv 0))) (blkOk_by (own := [("_law_part", 1)]) (N := N__law_norm) (sc := defScope s__law_norm) (by decide +kernel)) (by decide) (fun _ _ _ _ _ => (vgc_name (i := 1) sc__law_norm.nd rfl (by first | exact .inl rfl | exact .inr rfl))) (fun _ _ _ _ _ => vts_nil) (fun _ _ _ _ _ => (v_mul (VE.toO (v_name 1 (pv 1))) (VE.toO (v_name 1 (pv 1))))))))))) (VE.toO v_int))))
def b__law_conjugate : SM := (retM (tupM (consM (bin ixD (mVar 0) (mC (.int 0))) (consM (un negD (bin ixD (mVar 0) (mC (.int 1)))) (consM (un negD (bin ixD (mVar 0) (mC (.int 2)))) (consM (un negD (bin ixD (mVar 0) (mC (.int 3)))) nilM))))))
def m__law_conjugate : List D → R D := runD 1 b__law_conjugate
theorem ok__law_conjugate (t : T K mg) : Ok P w K mg base "_law_conjugate" ["_law_number_here"] 1 m__law_conjugate := by
  obtain ⟨f, fd, F, g, b⟩ := t.d__law_conjugate
  refine ⟨f, fd, ?_, g, F.kp, b⟩
  show FnOk P w K mg base (L2.CX P w) 1 f fd ["_law_number_here"] (spP K mg 1 (runD 1 b__law_conjugate))
  refine def_ok F sc__law_conjugate (fun cdv A outer s H E hr => ?_)
  have hu := hr.units
  have tk : Takes (cxOf (L2.CX P w) P w K mg base N__law_conjugate "_law_conjugate" (defScope s__law_conjugate) f cdv A outer s H E) (fun cls d _ H => E cls d H) := takes_of rfl rfl rfl rfl
  unfold b__law_conjugate
  exact (vss_one (vs_ret (v_tup (va_cons (v_ix (VE.toO (v_name 0 (pv 0))) (VE.toO v_int)) (va_cons (v_neg (VE.toO (v_ix (VE.toO (v_name 0 (pv 0))) (VE.toO v_int)))) (va_cons (v_neg (VE.toO (v_ix (VE.toO (v_name 0 (pv 0))) (VE.toO v_int)))) (va_cons (v_neg (VE.toO (v_ix (VE.toO (v_name 0 (pv 0))) (VE.toO v_int)))) va_nil)))))))
def b_law : SM := (seqM (setM 1 (callM 2 m__law_numbers (consM (mVar 0) (consM (mC (.int 20)) nilM)))) (seqM (setM 2 (callM 2 m__law_odd (consM (mVar 1) (consM (mC (.int 0)) nilM)))) (seqM (setM 3 (bin ixD (toEM (lstM (consM (mC (.int 1000)) (consM (mC (.int 9)) (consM (bin powD (mC (.int 10)) (mC (.int 20))) nilM))))) (callM 3 m__law_pick (consM (mVar 1) (consM (mC (.int 1)) (consM (mC (.int 3)) nilM)))))) (seqM (setM 4 (callM 3 m__law_number (consM (mVar 1) (consM (mC (.int 2)) (consM (mVar 3) nilM))))) (seqM (setM 5 (callM 3 m__law_number (consM (mVar 1) (consM (mC (.int 8)) (consM (mVar 3) nilM))))) (seqM (ifM (asB (bin gtD (mVar 3) (mC (.int 1000)))) (setM 4 (un tupD (toEM (lcM [13] (seqI (mVar 4)) (gN 13) yesM (bin addD (bin mulI (bin mulI (mVar 13) (mC (.int 2))) (bin addD (bin powD (mC (.int 10)) (mC (.int 17))) (callM 3 m__law_pick (consM (mVar 1) (consM (mC (.int 14)) (consM (mC (.int 999)) nilM)))))) (bin mulI (mC (.int 2)) (callM 3 m__law_pick (consM (mVar 1) (consM (mC (.int 15)) (consM (mC (.int 99)) nilM)))))))))) skipM) (seqM (setM 6 (bin ixD (callM 1 m__law_pairs (consM (mVar 2) nilM)) (mC (.int 0)))) (seqM (setM 7 (toEM (lcM [14] (seqI (toEM (lstM (consM (mVar 4) (consM (mVar 5) nilM))))) (gN 14) yesM (callM 3 m__law_table (consM (mVar 14) (consM (mVar 2) (consM (mVar 6) nilM))))))) (seqM (ifM (asB (bin neD (toEM (lstM (consM (callM 2 m_table_of (consM (mVar 4) (consM (mVar 2) nilM))) (consM (callM 2 m_table_of (consM (toEM (unL lstD (mVar 5))) (consM (mVar 2) nilM))) nilM)))) (mVar 7))) (retM (mC (.bool false))) skipM) (seqM (setM 8 (callM 3 m__law_times (consM (bin ixD (mVar 7) (mC (.int 0))) (consM (bin ixD (mVar 7) (mC (.int 1))) (consM (mVar 2) nilM))))) (seqM (ifM (orM (asB (bin neD (callM 3 m_table_product (consM (bin ixD (mVar 7) (mC (.int 0))) (consM (bin ixD (mVar 7) (mC (.int 1))) (consM (mVar 2) nilM)))) (mVar 8))) (asB (bin neD (callM 2 m_table_of (consM (callM 2 m__law_product (consM (mVar 4) (consM (mVar 5) nilM))) (consM (mVar 2) nilM))) (mVar 8)))) (retM (mC (.bool false))) skipM) (seqM (ifM (asB (bin neD (callM 2 m_determinant (consM (bin ixD (mVar 7) (mC (.int 0))) (consM (mVar 2) nilM))) (bin modD (un intD (callM 1 m__law_norm (consM (mVar 4) nilM))) (mVar 2)))) (retM (mC (.bool false))) skipM) (seqM (asgM (gT 2 (gsC (gT 2 (gsC (gN 9) (gsC (gN 10) gsN))) (gsC (gT 2 (gsC (gN 11) (gsC (gN 12) gsN))) gsN))) (bin ixD (mVar 7) (mC (.int 0)))) (retM (bin eqD (callM 2 m_table_of (consM (callM 1 m__law_conjugate (consM (mVar 4) nilM)) (consM (mVar 2) nilM))) (tupM (consM (tupM (consM (mVar 12) (consM (bin modD (un intD (bin subD (mC (.int 0)) (mVar 10))) (mVar 2)) nilM))) (consM (tupM (consM (bin modD (un intD (bin subD (mC (.int 0)) (mVar 11))) (mVar 2)) (consM (mVar 9) nilM))) nilM))))))))))))))))))
def m_law : List D → R D := runD 15 b_law
theorem okf_law (t : T K mg) {f : Addr} {fd : FuncData} (F : Fun K "law" "law" s_law f fd) : FnOk P w K mg base (L2.CX P w) 7 f fd ["_law_script"] (spP K mg 1 m_law) := by
  obtain ⟨f__law_numbers, fd__law_numbers, G__law_numbers, g__law_numbers, k__law_numbers, b__law_numbers⟩ := ok__law_numbers (P := P) (w := w) (base := base) t
  obtain ⟨f__law_odd, fd__law_odd, G__law_odd, g__law_odd, k__law_odd, b__law_odd⟩ := ok__law_odd (P := P) (w := w) (base := base) t
  obtain ⟨f__law_pick, fd__law_pick, G__law_pick, g__law_pick, k__law_pick, b__law_pick⟩ := ok__law_pick (P := P) (w := w) (base := base) t
  obtain ⟨f__law_number, fd__law_number, G__law_number, g__law_number, k__law_number, b__law_number⟩ := ok__law_number (P := P) (w := w) (base := base) t
  obtain ⟨f__law_pairs, fd__law_pairs, G__law_pairs, g__law_pairs, k__law_pairs, b__law_pairs⟩ := ok__law_pairs (P := P) (w := w) (base := base) t
  obtain ⟨f__law_table, fd__law_table, G__law_table, g__law_table, k__law_table, b__law_table⟩ := ok__law_table (P := P) (w := w) (base := base) t
  obtain ⟨f_table_of, fd_table_of, G_table_of, g_table_of, k_table_of, b_table_of⟩ := ok_table_of (P := P) (w := w) (base := base) t
  obtain ⟨f__law_times, fd__law_times, G__law_times, g__law_times, k__law_times, b__law_times⟩ := ok__law_times (P := P) (w := w) (base := base) t
  obtain ⟨f_table_product, fd_table_product, G_table_product, g_table_product, k_table_product, b_table_product⟩ := ok_table_product (P := P) (w := w) (base := base) t
  obtain ⟨f__law_product, fd__law_product, G__law_product, g__law_product, k__law_product, b__law_product⟩ := ok__law_product (P := P) (w := w) (base := base) t
  obtain ⟨f_determinant, fd_determinant, G_determinant, g_determinant, k_determinant, b_determinant⟩ := ok_determinant (P := P) (w := w) (base := base) t
  obtain ⟨f__law_norm, fd__law_norm, G__law_norm, g__law_norm, k__law_norm, b__law_norm⟩ := ok__law_norm (P := P) (w := w) (base := base) t
  obtain ⟨f__law_conjugate, fd__law_conjugate, G__law_conjugate, g__law_conjugate, k__law_conjugate, b__law_conjugate⟩ := ok__law_conjugate (P := P) (w := w) (base := base) t
  show FnOk P w K mg base (L2.CX P w) 7 f fd ["_law_script"] (spP K mg 1 (runD 15 b_law))
  refine def_ok F sc_law (fun cdv A outer s H E hr => ?_)
  have hu := hr.units
  have tk : Takes (cxOf (L2.CX P w) P w K mg base N_law "law" (defScope s_law) f cdv A outer s H E) (fun cls d _ H => E cls d H) := takes_of rfl rfl rfl rfl
  unfold b_law
  exact (vss_cons (vs_set (i := 1) sc_law.nd rfl (.inr rfl) (v_call G__law_numbers tk (hr.mono (by decide)) (by rfl) g__law_numbers k__law_numbers b__law_numbers (va_cons (v_name 0 (pv 0)) (va_cons v_int va_nil)))) (vss_cons (vs_set (i := 2) sc_law.nd rfl (.inr rfl) (v_call G__law_odd tk (hr.mono (by decide)) (by rfl) g__law_odd k__law_odd b__law_odd (va_cons (v_name 1 (pv 1)) (va_cons v_int va_nil)))) (vss_cons (vs_set (i := 3) sc_law.nd rfl (.inl rfl) (v_ix (VE.toO (VF.toE (v_lst (va_cons v_int (va_cons v_int (va_cons (v_pow (VE.toO v_int) (VE.toO v_int)) va_nil)))))) (VE.toO (v_call G__law_pick tk (hr.mono (by decide)) (by rfl) g__law_pick k__law_pick b__law_pick (va_cons (v_name 1 (pv 1)) (va_cons v_int (va_cons v_int va_nil))))))) (vss_cons (vs_set (i := 4) sc_law.nd rfl (.inl rfl) (v_call G__law_number tk (hr.mono (by decide)) (by rfl) g__law_number k__law_number b__law_number (va_cons (v_name 1 (pv 1)) (va_cons v_int (va_cons (v_name 3 (pv 3)) va_nil))))) (vss_cons (vs_set (i := 5) sc_law.nd rfl (.inl rfl) (v_call G__law_number tk (hr.mono (by decide)) (by rfl) g__law_number k__law_number b__law_number (va_cons (v_name 1 (pv 1)) (va_cons v_int (va_cons (v_name 3 (pv 3)) va_nil))))) (vss_cons (vs_if (t_gt (VE.toO (v_name 3 (pv 3))) (VE.toO v_int)) (vss_one (vs_set (i := 4) sc_law.nd rfl (.inl rfl) (v_ty1 c_tup s_tup (by rfl) t.n_tuple bt_tuple (pa1 (VE.toO (VF.toE (v_lc (own := [("_law_part", 13)]) (is := [13]) rfl sc_law.nd (vi_seq (v_name 4 (pv 4))) (blkOk_by (own := [("_law_part", 13)]) (N := N_law) (sc := defScope s_law) (by decide +kernel)) (by decide) (fun _ _ _ _ _ => (vgc_name (i := 13) sc_law.nd rfl (by first | exact .inl rfl | exact .inr rfl))) (fun _ _ _ _ _ => vts_nil) (fun _ _ _ _ _ => (v_add (VE.toO (v_mul (VE.toO (v_mul (VE.toO (v_name 13 (pv 13))) (VE.toO v_int))) (VE.toO (v_add (VE.toO (v_pow (VE.toO v_int) (VE.toO v_int))) (VE.toO (v_call G__law_pick takes0 (hr.mono (by decide)) (by rfl) g__law_pick k__law_pick b__law_pick (va_cons (v_name 1 (pv 1)) (va_cons v_int (va_cons v_int va_nil))))))))) (VE.toO (v_mul (VE.toO v_int) (VE.toO (v_call G__law_pick takes0 (hr.mono (by decide)) (by rfl) g__law_pick k__law_pick b__law_pick (va_cons (v_name 1 (pv 1)) (va_cons v_int (va_cons v_int va_nil)))))))))))))))) vss_nil) (vss_cons (vs_set (i := 6) sc_law.nd rfl (.inr rfl) (v_ix (VE.toO (v_call G__law_pairs tk (hr.mono (by decide)) (by rfl) g__law_pairs k__law_pairs b__law_pairs (va_cons (v_name 2 (pv 2)) va_nil))) (VE.toO v_int))) (vss_cons (vs_setLcE (i := 7) rfl sc_law.nd rfl rfl (sw_true rfl rfl rfl (by decide +kernel)) (own := [("_law_number_here", 14)]) (is := [14]) (vi_seq (VF.toE (v_lst (va_cons (v_name 4 (pv 4)) (va_cons (v_name 5 (pv 5)) va_nil))))) (blkOk_by (own := [("_law_number_here", 14)]) (N := N_law) (sc := defScope s_law) (by decide +kernel)) (by decide) (fun _ _ _ _ _ => (vgc_name (i := 14) sc_law.nd rfl (by first | exact .inl rfl | exact .inr rfl))) (fun _ _ _ _ _ => vts_nil) (fun _ _ _ _ _ => (v_call G__law_table takes0 (hr.mono (by decide)) (by rfl) g__law_table k__law_table b__law_table (va_cons (v_name 14 (pv 14)) (va_cons (v_name 2 (pv 2)) (va_cons (v_name 6 (pv 6)) va_nil)))))) (vss_cons (vs_if (t_ne hu (VE.toO (VF.toE (v_lst (va_cons (v_call G_table_of tk (hr.mono (by decide)) (by rfl) g_table_of k_table_of b_table_of (va_cons (v_name 4 (pv 4)) (va_cons (v_name 2 (pv 2)) va_nil))) (va_cons (v_call G_table_of tk (hr.mono (by decide)) (by rfl) g_table_of k_table_of b_table_of (va_cons (VF.toE (vf_ty1 c_lst s_lst (by rfl) t.n_list bt_list (pa1 (VE.toO (v_name 5 (pv 5)))))) (va_cons (v_name 2 (pv 2)) va_nil))) va_nil))))) (VE.toO (v_name 7 (pv 7)))) (vss_one (vs_ret v_bl)) vss_nil) (vss_cons (vs_set (i := 8) sc_law.nd rfl (.inl rfl) (v_call G__law_times tk (hr.mono (by decide)) (by rfl) g__law_times k__law_times b__law_times (va_cons (v_ix (VE.toO (v_name 7 (pv 7))) (VE.toO v_int)) (va_cons (v_ix (VE.toO (v_name 7 (pv 7))) (VE.toO v_int)) (va_cons (v_name 2 (pv 2)) va_nil))))) (vss_cons (vs_if (PW.pt (vw_or (t_ne hu (VE.toO (v_call G_table_product tk (hr.mono (by decide)) (by rfl) g_table_product k_table_product b_table_product (va_cons (v_ix (VE.toO (v_name 7 (pv 7))) (VE.toO v_int)) (va_cons (v_ix (VE.toO (v_name 7 (pv 7))) (VE.toO v_int)) (va_cons (v_name 2 (pv 2)) va_nil))))) (VE.toO (v_name 8 (pv 8)))) (vw_or1 (t_ne hu (VE.toO (v_call G_table_of tk (hr.mono (by decide)) (by rfl) g_table_of k_table_of b_table_of (va_cons (v_call G__law_product tk (hr.mono (by decide)) (by rfl) g__law_product k__law_product b__law_product (va_cons (v_name 4 (pv 4)) (va_cons (v_name 5 (pv 5)) va_nil))) (va_cons (v_name 2 (pv 2)) va_nil)))) (VE.toO (v_name 8 (pv 8))))))) (vss_one (vs_ret v_bl)) vss_nil) (vss_cons (vs_if (t_ne hu (VE.toO (v_call G_determinant tk (hr.mono (by decide)) (by rfl) g_determinant k_determinant b_determinant (va_cons (v_ix (VE.toO (v_name 7 (pv 7))) (VE.toO v_int)) (va_cons (v_name 2 (pv 2)) va_nil)))) (VE.toO (v_mod (VE.toO (v_ty1 c_int s_int (by rfl) t.n_int bt_int (pa1 (VE.toO (v_call G__law_norm tk (hr.mono (by decide)) (by rfl) g__law_norm k__law_norm b__law_norm (va_cons (v_name 4 (pv 4)) va_nil)))))) (VE.toO (v_name 2 (pv 2)))))) (vss_one (vs_ret v_bl)) vss_nil) (vss_cons (vs_asg (vg_tup rfl (vgs_cons (vg_tup rfl (vgs_cons (vg_name (i := 9) sc_law.nd rfl (.inl rfl)) (vgs_cons (vg_name (i := 10) sc_law.nd rfl (.inl rfl)) vgs_nil))) (vgs_cons (vg_tup rfl (vgs_cons (vg_name (i := 11) sc_law.nd rfl (.inl rfl)) (vgs_cons (vg_name (i := 12) sc_law.nd rfl (.inl rfl)) vgs_nil))) vgs_nil))) (v_ix (VE.toO (v_name 7 (pv 7))) (VE.toO v_int))) (vss_one (vs_ret (v_eq hu (VE.toO (v_call G_table_of tk (hr.mono (by decide)) (by rfl) g_table_of k_table_of b_table_of (va_cons (v_call G__law_conjugate tk (hr.mono (by decide)) (by rfl) g__law_conjugate k__law_conjugate b__law_conjugate (va_cons (v_name 4 (pv 4)) va_nil)) (va_cons (v_name 2 (pv 2)) va_nil)))) (VE.toO (v_tup (va_cons (v_tup (va_cons (v_name 12 (pv 12)) (va_cons (v_mod (VE.toO (v_ty1 c_int s_int (by rfl) t.n_int bt_int (pa1 (VE.toO (v_sub (VE.toO v_int) (VE.toO (v_name 10 (pv 10)))))))) (VE.toO (v_name 2 (pv 2)))) va_nil))) (va_cons (v_tup (va_cons (v_mod (VE.toO (v_ty1 c_int s_int (by rfl) t.n_int bt_int (pa1 (VE.toO (v_sub (VE.toO v_int) (VE.toO (v_name 11 (pv 11)))))))) (VE.toO (v_name 2 (pv 2)))) (va_cons (v_name 9 (pv 9)) va_nil))) va_nil))))))))))))))))))))
end
theorem all_mk {l : PySem.W.OpenLaw} {w : World} {K : PySem.W.Frag} {h : Heap} {mg : Str → Option Value} {fa : Addr} (X : K.In h) (G : h.Ns mainGlobals mg) (hfa : mg "law" = some (.ref fa))
    {f__law_row : Addr} {oc__law_row kV__law_row dc__law_row pm__law_row cd__law_row ct__law_row : Value} {od__law_row an__law_row : Option Addr} {sl__law_row : Array (Option Value)}
    {f__law_numbers : Addr} {oc__law_numbers kV__law_numbers dc__law_numbers pm__law_numbers cd__law_numbers ct__law_numbers : Value} {od__law_numbers an__law_numbers : Option Addr} {sl__law_numbers : Array (Option Value)}
    {f__law_pick : Addr} {oc__law_pick kV__law_pick dc__law_pick pm__law_pick cd__law_pick ct__law_pick : Value} {od__law_pick an__law_pick : Option Addr} {sl__law_pick : Array (Option Value)}
    {f__law_odd : Addr} {oc__law_odd kV__law_odd dc__law_odd pm__law_odd cd__law_odd ct__law_odd : Value} {od__law_odd an__law_odd : Option Addr} {sl__law_odd : Array (Option Value)}
    {f__law_number : Addr} {oc__law_number kV__law_number dc__law_number pm__law_number cd__law_number ct__law_number : Value} {od__law_number an__law_number : Option Addr} {sl__law_number : Array (Option Value)}
    {f__law_pairs : Addr} {oc__law_pairs kV__law_pairs dc__law_pairs pm__law_pairs cd__law_pairs ct__law_pairs : Value} {od__law_pairs an__law_pairs : Option Addr} {sl__law_pairs : Array (Option Value)}
    {f__law_table : Addr} {oc__law_table kV__law_table dc__law_table pm__law_table cd__law_table ct__law_table : Value} {od__law_table an__law_table : Option Addr} {sl__law_table : Array (Option Value)}
    {f_is_number : Addr} {oc_is_number kV_is_number dc_is_number pm_is_number cd_is_number ct_is_number : Value} {od_is_number an_is_number : Option Addr} {sl_is_number : Array (Option Value)}
    {f_check_number : Addr} {oc_check_number kV_check_number dc_check_number pm_check_number cd_check_number ct_check_number : Value} {od_check_number an_check_number : Option Addr} {sl_check_number : Array (Option Value)}
    {f_whole_primes : Addr} {oc_whole_primes kV_whole_primes dc_whole_primes pm_whole_primes cd_whole_primes ct_whole_primes : Value} {od_whole_primes an_whole_primes : Option Addr} {sl_whole_primes : Array (Option Value)}
    {f_is_prime : Addr} {oc_is_prime kV_is_prime dc_is_prime pm_is_prime cd_is_prime ct_is_prime : Value} {od_is_prime an_is_prime : Option Addr} {sl_is_prime : Array (Option Value)}
    {f_check_prime : Addr} {oc_check_prime kV_check_prime dc_check_prime pm_check_prime cd_check_prime ct_check_prime : Value} {od_check_prime an_check_prime : Option Addr} {sl_check_prime : Array (Option Value)}
    {f_check_odd : Addr} {oc_check_odd kV_check_odd dc_check_odd pm_check_odd cd_check_odd ct_check_odd : Value} {od_check_odd an_check_odd : Option Addr} {sl_check_odd : Array (Option Value)}
    {f_roots_by_square : Addr} {oc_roots_by_square kV_roots_by_square dc_roots_by_square pm_roots_by_square cd_roots_by_square ct_roots_by_square : Value} {od_roots_by_square an_roots_by_square : Option Addr} {sl_roots_by_square : Array (Option Value)}
    {f_root_pair : Addr} {oc_root_pair kV_root_pair dc_root_pair pm_root_pair cd_root_pair ct_root_pair : Value} {od_root_pair an_root_pair : Option Addr} {sl_root_pair : Array (Option Value)}
    {f_table_of : Addr} {oc_table_of kV_table_of dc_table_of pm_table_of cd_table_of ct_table_of : Value} {od_table_of an_table_of : Option Addr} {sl_table_of : Array (Option Value)}
    {f__law_times : Addr} {oc__law_times kV__law_times dc__law_times pm__law_times cd__law_times ct__law_times : Value} {od__law_times an__law_times : Option Addr} {sl__law_times : Array (Option Value)}
    {f_is_pair : Addr} {oc_is_pair kV_is_pair dc_is_pair pm_is_pair cd_is_pair ct_is_pair : Value} {od_is_pair an_is_pair : Option Addr} {sl_is_pair : Array (Option Value)}
    {f_check_table : Addr} {oc_check_table kV_check_table dc_check_table pm_check_table cd_check_table ct_check_table : Value} {od_check_table an_check_table : Option Addr} {sl_check_table : Array (Option Value)}
    {f_table_product : Addr} {oc_table_product kV_table_product dc_table_product pm_table_product cd_table_product ct_table_product : Value} {od_table_product an_table_product : Option Addr} {sl_table_product : Array (Option Value)}
    {f__law_product : Addr} {oc__law_product kV__law_product dc__law_product pm__law_product cd__law_product ct__law_product : Value} {od__law_product an__law_product : Option Addr} {sl__law_product : Array (Option Value)}
    {f_determinant : Addr} {oc_determinant kV_determinant dc_determinant pm_determinant cd_determinant ct_determinant : Value} {od_determinant an_determinant : Option Addr} {sl_determinant : Array (Option Value)}
    {f__law_norm : Addr} {oc__law_norm kV__law_norm dc__law_norm pm__law_norm cd__law_norm ct__law_norm : Value} {od__law_norm an__law_norm : Option Addr} {sl__law_norm : Array (Option Value)}
    {f__law_conjugate : Addr} {oc__law_conjugate kV__law_conjugate dc__law_conjugate pm__law_conjugate cd__law_conjugate ct__law_conjugate : Value} {od__law_conjugate an__law_conjugate : Option Addr} {sl__law_conjugate : Array (Option Value)}
    {f_law : Addr} {oc_law kV_law dc_law pm_law cd_law ct_law : Value} {od_law an_law : Option Addr} {sl_law : Array (Option Value)}
    {t_PARTS : Tok}
    {C_InvalidNumber : Addr}
    {C_InvalidQuestion : Addr}
    (a__law_row : PySem.W.nsIn K mainGlobals "_law_row" = some (some (.ref f__law_row))) (l__law_row : K.lookup f__law_row = some ⟨oc__law_row, od__law_row, .func (PySem.W.fnOf "_law_row" "_law_row" (defArgs s__law_row) (defBody s__law_row) (defScope s__law_row) .none kV__law_row dc__law_row pm__law_row an__law_row cd__law_row ct__law_row), sl__law_row⟩) (c__law_row : PySem.W.codeIn K cd__law_row "_law_row" = true) (k__law_row : PySem.W.keepIn K (.ref f__law_row) = true)
    (a__law_numbers : PySem.W.nsIn K mainGlobals "_law_numbers" = some (some (.ref f__law_numbers))) (l__law_numbers : K.lookup f__law_numbers = some ⟨oc__law_numbers, od__law_numbers, .func (PySem.W.fnOf "_law_numbers" "_law_numbers" (defArgs s__law_numbers) (defBody s__law_numbers) (defScope s__law_numbers) .none kV__law_numbers dc__law_numbers pm__law_numbers an__law_numbers cd__law_numbers ct__law_numbers), sl__law_numbers⟩) (c__law_numbers : PySem.W.codeIn K cd__law_numbers "_law_numbers" = true) (k__law_numbers : PySem.W.keepIn K (.ref f__law_numbers) = true)
    (a__law_pick : PySem.W.nsIn K mainGlobals "_law_pick" = some (some (.ref f__law_pick))) (l__law_pick : K.lookup f__law_pick = some ⟨oc__law_pick, od__law_pick, .func (PySem.W.fnOf "_law_pick" "_law_pick" (defArgs s__law_pick) (defBody s__law_pick) (defScope s__law_pick) .none kV__law_pick dc__law_pick pm__law_pick an__law_pick cd__law_pick ct__law_pick), sl__law_pick⟩) (c__law_pick : PySem.W.codeIn K cd__law_pick "_law_pick" = true) (k__law_pick : PySem.W.keepIn K (.ref f__law_pick) = true)
    (a__law_odd : PySem.W.nsIn K mainGlobals "_law_odd" = some (some (.ref f__law_odd))) (l__law_odd : K.lookup f__law_odd = some ⟨oc__law_odd, od__law_odd, .func (PySem.W.fnOf "_law_odd" "_law_odd" (defArgs s__law_odd) (defBody s__law_odd) (defScope s__law_odd) .none kV__law_odd dc__law_odd pm__law_odd an__law_odd cd__law_odd ct__law_odd), sl__law_odd⟩) (c__law_odd : PySem.W.codeIn K cd__law_odd "_law_odd" = true) (k__law_odd : PySem.W.keepIn K (.ref f__law_odd) = true)
    (a__law_number : PySem.W.nsIn K mainGlobals "_law_number" = some (some (.ref f__law_number))) (l__law_number : K.lookup f__law_number = some ⟨oc__law_number, od__law_number, .func (PySem.W.fnOf "_law_number" "_law_number" (defArgs s__law_number) (defBody s__law_number) (defScope s__law_number) .none kV__law_number dc__law_number pm__law_number an__law_number cd__law_number ct__law_number), sl__law_number⟩) (c__law_number : PySem.W.codeIn K cd__law_number "_law_number" = true) (k__law_number : PySem.W.keepIn K (.ref f__law_number) = true)
    (a__law_pairs : PySem.W.nsIn K mainGlobals "_law_pairs" = some (some (.ref f__law_pairs))) (l__law_pairs : K.lookup f__law_pairs = some ⟨oc__law_pairs, od__law_pairs, .func (PySem.W.fnOf "_law_pairs" "_law_pairs" (defArgs s__law_pairs) (defBody s__law_pairs) (defScope s__law_pairs) .none kV__law_pairs dc__law_pairs pm__law_pairs an__law_pairs cd__law_pairs ct__law_pairs), sl__law_pairs⟩) (c__law_pairs : PySem.W.codeIn K cd__law_pairs "_law_pairs" = true) (k__law_pairs : PySem.W.keepIn K (.ref f__law_pairs) = true)
    (a__law_table : PySem.W.nsIn K mainGlobals "_law_table" = some (some (.ref f__law_table))) (l__law_table : K.lookup f__law_table = some ⟨oc__law_table, od__law_table, .func (PySem.W.fnOf "_law_table" "_law_table" (defArgs s__law_table) (defBody s__law_table) (defScope s__law_table) .none kV__law_table dc__law_table pm__law_table an__law_table cd__law_table ct__law_table), sl__law_table⟩) (c__law_table : PySem.W.codeIn K cd__law_table "_law_table" = true) (k__law_table : PySem.W.keepIn K (.ref f__law_table) = true)
    (a_is_number : PySem.W.nsIn K mainGlobals "is_number" = some (some (.ref f_is_number))) (l_is_number : K.lookup f_is_number = some ⟨oc_is_number, od_is_number, .func (PySem.W.fnOf "is_number" "is_number" (defArgs s_is_number) (defBody s_is_number) (defScope s_is_number) .none kV_is_number dc_is_number pm_is_number an_is_number cd_is_number ct_is_number), sl_is_number⟩) (c_is_number : PySem.W.codeIn K cd_is_number "is_number" = true) (k_is_number : PySem.W.keepIn K (.ref f_is_number) = true)
    (a_check_number : PySem.W.nsIn K mainGlobals "check_number" = some (some (.ref f_check_number))) (l_check_number : K.lookup f_check_number = some ⟨oc_check_number, od_check_number, .func (PySem.W.fnOf "check_number" "check_number" (defArgs s_check_number) (defBody s_check_number) (defScope s_check_number) .none kV_check_number dc_check_number pm_check_number an_check_number cd_check_number ct_check_number), sl_check_number⟩) (c_check_number : PySem.W.codeIn K cd_check_number "check_number" = true) (k_check_number : PySem.W.keepIn K (.ref f_check_number) = true)
    (a_whole_primes : PySem.W.nsIn K mainGlobals "whole_primes" = some (some (.ref f_whole_primes))) (l_whole_primes : K.lookup f_whole_primes = some ⟨oc_whole_primes, od_whole_primes, .func (PySem.W.fnOf "whole_primes" "whole_primes" (defArgs s_whole_primes) (defBody s_whole_primes) (defScope s_whole_primes) .none kV_whole_primes dc_whole_primes pm_whole_primes an_whole_primes cd_whole_primes ct_whole_primes), sl_whole_primes⟩) (c_whole_primes : PySem.W.codeIn K cd_whole_primes "whole_primes" = true) (k_whole_primes : PySem.W.keepIn K (.ref f_whole_primes) = true)
    (a_is_prime : PySem.W.nsIn K mainGlobals "is_prime" = some (some (.ref f_is_prime))) (l_is_prime : K.lookup f_is_prime = some ⟨oc_is_prime, od_is_prime, .func (PySem.W.fnOf "is_prime" "is_prime" (defArgs s_is_prime) (defBody s_is_prime) (defScope s_is_prime) .none kV_is_prime dc_is_prime pm_is_prime an_is_prime cd_is_prime ct_is_prime), sl_is_prime⟩) (c_is_prime : PySem.W.codeIn K cd_is_prime "is_prime" = true) (k_is_prime : PySem.W.keepIn K (.ref f_is_prime) = true)
    (a_check_prime : PySem.W.nsIn K mainGlobals "check_prime" = some (some (.ref f_check_prime))) (l_check_prime : K.lookup f_check_prime = some ⟨oc_check_prime, od_check_prime, .func (PySem.W.fnOf "check_prime" "check_prime" (defArgs s_check_prime) (defBody s_check_prime) (defScope s_check_prime) .none kV_check_prime dc_check_prime pm_check_prime an_check_prime cd_check_prime ct_check_prime), sl_check_prime⟩) (c_check_prime : PySem.W.codeIn K cd_check_prime "check_prime" = true) (k_check_prime : PySem.W.keepIn K (.ref f_check_prime) = true)
    (a_check_odd : PySem.W.nsIn K mainGlobals "check_odd" = some (some (.ref f_check_odd))) (l_check_odd : K.lookup f_check_odd = some ⟨oc_check_odd, od_check_odd, .func (PySem.W.fnOf "check_odd" "check_odd" (defArgs s_check_odd) (defBody s_check_odd) (defScope s_check_odd) .none kV_check_odd dc_check_odd pm_check_odd an_check_odd cd_check_odd ct_check_odd), sl_check_odd⟩) (c_check_odd : PySem.W.codeIn K cd_check_odd "check_odd" = true) (k_check_odd : PySem.W.keepIn K (.ref f_check_odd) = true)
    (a_roots_by_square : PySem.W.nsIn K mainGlobals "roots_by_square" = some (some (.ref f_roots_by_square))) (l_roots_by_square : K.lookup f_roots_by_square = some ⟨oc_roots_by_square, od_roots_by_square, .func (PySem.W.fnOf "roots_by_square" "roots_by_square" (defArgs s_roots_by_square) (defBody s_roots_by_square) (defScope s_roots_by_square) .none kV_roots_by_square dc_roots_by_square pm_roots_by_square an_roots_by_square cd_roots_by_square ct_roots_by_square), sl_roots_by_square⟩) (c_roots_by_square : PySem.W.codeIn K cd_roots_by_square "roots_by_square" = true) (k_roots_by_square : PySem.W.keepIn K (.ref f_roots_by_square) = true)
    (a_root_pair : PySem.W.nsIn K mainGlobals "root_pair" = some (some (.ref f_root_pair))) (l_root_pair : K.lookup f_root_pair = some ⟨oc_root_pair, od_root_pair, .func (PySem.W.fnOf "root_pair" "root_pair" (defArgs s_root_pair) (defBody s_root_pair) (defScope s_root_pair) .none kV_root_pair dc_root_pair pm_root_pair an_root_pair cd_root_pair ct_root_pair), sl_root_pair⟩) (c_root_pair : PySem.W.codeIn K cd_root_pair "root_pair" = true) (k_root_pair : PySem.W.keepIn K (.ref f_root_pair) = true)
    (a_table_of : PySem.W.nsIn K mainGlobals "table_of" = some (some (.ref f_table_of))) (l_table_of : K.lookup f_table_of = some ⟨oc_table_of, od_table_of, .func (PySem.W.fnOf "table_of" "table_of" (defArgs s_table_of) (defBody s_table_of) (defScope s_table_of) .none kV_table_of dc_table_of pm_table_of an_table_of cd_table_of ct_table_of), sl_table_of⟩) (c_table_of : PySem.W.codeIn K cd_table_of "table_of" = true) (k_table_of : PySem.W.keepIn K (.ref f_table_of) = true)
    (a__law_times : PySem.W.nsIn K mainGlobals "_law_times" = some (some (.ref f__law_times))) (l__law_times : K.lookup f__law_times = some ⟨oc__law_times, od__law_times, .func (PySem.W.fnOf "_law_times" "_law_times" (defArgs s__law_times) (defBody s__law_times) (defScope s__law_times) .none kV__law_times dc__law_times pm__law_times an__law_times cd__law_times ct__law_times), sl__law_times⟩) (c__law_times : PySem.W.codeIn K cd__law_times "_law_times" = true) (k__law_times : PySem.W.keepIn K (.ref f__law_times) = true)
    (a_is_pair : PySem.W.nsIn K mainGlobals "is_pair" = some (some (.ref f_is_pair))) (l_is_pair : K.lookup f_is_pair = some ⟨oc_is_pair, od_is_pair, .func (PySem.W.fnOf "is_pair" "is_pair" (defArgs s_is_pair) (defBody s_is_pair) (defScope s_is_pair) .none kV_is_pair dc_is_pair pm_is_pair an_is_pair cd_is_pair ct_is_pair), sl_is_pair⟩) (c_is_pair : PySem.W.codeIn K cd_is_pair "is_pair" = true) (k_is_pair : PySem.W.keepIn K (.ref f_is_pair) = true)
    (a_check_table : PySem.W.nsIn K mainGlobals "check_table" = some (some (.ref f_check_table))) (l_check_table : K.lookup f_check_table = some ⟨oc_check_table, od_check_table, .func (PySem.W.fnOf "check_table" "check_table" (defArgs s_check_table) (defBody s_check_table) (defScope s_check_table) .none kV_check_table dc_check_table pm_check_table an_check_table cd_check_table ct_check_table), sl_check_table⟩) (c_check_table : PySem.W.codeIn K cd_check_table "check_table" = true) (k_check_table : PySem.W.keepIn K (.ref f_check_table) = true)
    (a_table_product : PySem.W.nsIn K mainGlobals "table_product" = some (some (.ref f_table_product))) (l_table_product : K.lookup f_table_product = some ⟨oc_table_product, od_table_product, .func (PySem.W.fnOf "table_product" "table_product" (defArgs s_table_product) (defBody s_table_product) (defScope s_table_product) .none kV_table_product dc_table_product pm_table_product an_table_product cd_table_product ct_table_product), sl_table_product⟩) (c_table_product : PySem.W.codeIn K cd_table_product "table_product" = true) (k_table_product : PySem.W.keepIn K (.ref f_table_product) = true)
    (a__law_product : PySem.W.nsIn K mainGlobals "_law_product" = some (some (.ref f__law_product))) (l__law_product : K.lookup f__law_product = some ⟨oc__law_product, od__law_product, .func (PySem.W.fnOf "_law_product" "_law_product" (defArgs s__law_product) (defBody s__law_product) (defScope s__law_product) .none kV__law_product dc__law_product pm__law_product an__law_product cd__law_product ct__law_product), sl__law_product⟩) (c__law_product : PySem.W.codeIn K cd__law_product "_law_product" = true) (k__law_product : PySem.W.keepIn K (.ref f__law_product) = true)
    (a_determinant : PySem.W.nsIn K mainGlobals "determinant" = some (some (.ref f_determinant))) (l_determinant : K.lookup f_determinant = some ⟨oc_determinant, od_determinant, .func (PySem.W.fnOf "determinant" "determinant" (defArgs s_determinant) (defBody s_determinant) (defScope s_determinant) .none kV_determinant dc_determinant pm_determinant an_determinant cd_determinant ct_determinant), sl_determinant⟩) (c_determinant : PySem.W.codeIn K cd_determinant "determinant" = true) (k_determinant : PySem.W.keepIn K (.ref f_determinant) = true)
    (a__law_norm : PySem.W.nsIn K mainGlobals "_law_norm" = some (some (.ref f__law_norm))) (l__law_norm : K.lookup f__law_norm = some ⟨oc__law_norm, od__law_norm, .func (PySem.W.fnOf "_law_norm" "_law_norm" (defArgs s__law_norm) (defBody s__law_norm) (defScope s__law_norm) .none kV__law_norm dc__law_norm pm__law_norm an__law_norm cd__law_norm ct__law_norm), sl__law_norm⟩) (c__law_norm : PySem.W.codeIn K cd__law_norm "_law_norm" = true) (k__law_norm : PySem.W.keepIn K (.ref f__law_norm) = true)
    (a__law_conjugate : PySem.W.nsIn K mainGlobals "_law_conjugate" = some (some (.ref f__law_conjugate))) (l__law_conjugate : K.lookup f__law_conjugate = some ⟨oc__law_conjugate, od__law_conjugate, .func (PySem.W.fnOf "_law_conjugate" "_law_conjugate" (defArgs s__law_conjugate) (defBody s__law_conjugate) (defScope s__law_conjugate) .none kV__law_conjugate dc__law_conjugate pm__law_conjugate an__law_conjugate cd__law_conjugate ct__law_conjugate), sl__law_conjugate⟩) (c__law_conjugate : PySem.W.codeIn K cd__law_conjugate "_law_conjugate" = true) (k__law_conjugate : PySem.W.keepIn K (.ref f__law_conjugate) = true)
    (a_law : PySem.W.nsIn K mainGlobals "law" = some (some (.ref f_law))) (l_law : K.lookup f_law = some ⟨oc_law, od_law, .func (PySem.W.fnOf "law" "law" (defArgs s_law) (defBody s_law) (defScope s_law) .none kV_law dc_law pm_law an_law cd_law ct_law), sl_law⟩) (c_law : PySem.W.codeIn K cd_law "law" = true) (k_law : PySem.W.keepIn K (.ref f_law) = true)
    (z_abs : PySem.W.nsIn K mainGlobals "abs" = some none)
    (z_all : PySem.W.nsIn K mainGlobals "all" = some none)
    (z_int : PySem.W.nsIn K mainGlobals "int" = some none)
    (z_isinstance : PySem.W.nsIn K mainGlobals "isinstance" = some none)
    (z_len : PySem.W.nsIn K mainGlobals "len" = some none)
    (z_list : PySem.W.nsIn K mainGlobals "list" = some none)
    (z_max : PySem.W.nsIn K mainGlobals "max" = some none)
    (z_range : PySem.W.nsIn K mainGlobals "range" = some none)
    (z_sum : PySem.W.nsIn K mainGlobals "sum" = some none)
    (z_tuple : PySem.W.nsIn K mainGlobals "tuple" = some none)
    (z_zip : PySem.W.nsIn K mainGlobals "zip" = some none)
    (q_MOST_ODD : ∃ u v, mg "MOST_ODD" = some u ∧ RelV v u ∧ ∀ F, Rp K F v c_MOST_ODD)
    (q_MOST_VALUE : ∃ u v, mg "MOST_VALUE" = some u ∧ RelV v u ∧ ∀ F, Rp K F v c_MOST_VALUE)
    (q_PARTS : PySem.W.nsIn K mainGlobals "PARTS" = some (some (.int (4) t_PARTS)))
    (xa_InvalidNumber : PySem.W.nsIn K mainGlobals "InvalidNumber" = some (some (.ref C_InvalidNumber))) (xe_InvalidNumber : PySem.W.excIn K C_InvalidNumber [.type "ValueError", .type "Exception", .type "BaseException", .type "object"] "ValueError.__new__" = true) (xk_InvalidNumber : PySem.W.keepIn K (.ref C_InvalidNumber) = true) (xs_InvalidNumber : PySem.W.subIn K (.ref C_InvalidNumber) (.type "BaseException") = some true) (xt_InvalidNumber : PySem.W.typeIn K (.ref C_InvalidNumber) = some (.type "type"))
    (xa_InvalidQuestion : PySem.W.nsIn K mainGlobals "InvalidQuestion" = some (some (.ref C_InvalidQuestion))) (xe_InvalidQuestion : PySem.W.excIn K C_InvalidQuestion [.type "ValueError", .type "Exception", .type "BaseException", .type "object"] "ValueError.__new__" = true) (xk_InvalidQuestion : PySem.W.keepIn K (.ref C_InvalidQuestion) = true) (xs_InvalidQuestion : PySem.W.subIn K (.ref C_InvalidQuestion) (.type "BaseException") = some true) (xt_InvalidQuestion : PySem.W.typeIn K (.ref C_InvalidQuestion) = some (.type "type"))
    : ∃ fd : FuncData, (∀ (s : Shared) (v : Value), BindsTo s fd ⟨[v], []⟩ [("_law_script", v)]) ∧ ∀ base : Heap, K.In base → base.Ns mainGlobals mg → FnOk l.prog w K mg base (L2.CX l.prog w) 7 fa fd ["_law_script"] (spP K mg 1 m_law) := by
  cases hfa.symm.trans (PySem.W.mg_of X G a_law)
  have t : T K mg := {
    d__law_row := df_mk X G a__law_row l__law_row c__law_row k__law_row (fun _ _ _ _ _ _ us hl => match us, hl with | [_, _], _ => rfl)
    d__law_numbers := df_mk X G a__law_numbers l__law_numbers c__law_numbers k__law_numbers (fun _ _ _ _ _ _ us hl => match us, hl with | [_, _], _ => rfl)
    d__law_pick := df_mk X G a__law_pick l__law_pick c__law_pick k__law_pick (fun _ _ _ _ _ _ us hl => match us, hl with | [_, _, _], _ => rfl)
    d__law_odd := df_mk X G a__law_odd l__law_odd c__law_odd k__law_odd (fun _ _ _ _ _ _ us hl => match us, hl with | [_, _], _ => rfl)
    d__law_number := df_mk X G a__law_number l__law_number c__law_number k__law_number (fun _ _ _ _ _ _ us hl => match us, hl with | [_, _, _], _ => rfl)
    d__law_pairs := df_mk X G a__law_pairs l__law_pairs c__law_pairs k__law_pairs (fun _ _ _ _ _ _ us hl => match us, hl with | [_], _ => rfl)
    d__law_table := df_mk X G a__law_table l__law_table c__law_table k__law_table (fun _ _ _ _ _ _ us hl => match us, hl with | [_, _, _], _ => rfl)
    d_is_number := df_mk X G a_is_number l_is_number c_is_number k_is_number (fun _ _ _ _ _ _ us hl => match us, hl with | [_], _ => rfl)
    d_check_number := df_mk X G a_check_number l_check_number c_check_number k_check_number (fun _ _ _ _ _ _ us hl => match us, hl with | [_], _ => rfl)
    d_whole_primes := df_mk X G a_whole_primes l_whole_primes c_whole_primes k_whole_primes (fun _ _ _ _ _ _ us hl => match us, hl with | [_], _ => rfl)
    d_is_prime := df_mk X G a_is_prime l_is_prime c_is_prime k_is_prime (fun _ _ _ _ _ _ us hl => match us, hl with | [_], _ => rfl)
    d_check_prime := df_mk X G a_check_prime l_check_prime c_check_prime k_check_prime (fun _ _ _ _ _ _ us hl => match us, hl with | [_, _], _ => rfl)
    d_check_odd := df_mk X G a_check_odd l_check_odd c_check_odd k_check_odd (fun _ _ _ _ _ _ us hl => match us, hl with | [_], _ => rfl)
    d_roots_by_square := df_mk X G a_roots_by_square l_roots_by_square c_roots_by_square k_roots_by_square (fun _ _ _ _ _ _ us hl => match us, hl with | [_], _ => rfl)
    d_root_pair := df_mk X G a_root_pair l_root_pair c_root_pair k_root_pair (fun _ _ _ _ _ _ us hl => match us, hl with | [_], _ => rfl)
    d_table_of := df_mk X G a_table_of l_table_of c_table_of k_table_of (fun _ _ _ _ _ _ us hl => match us, hl with | [_, _], _ => rfl)
    d__law_times := df_mk X G a__law_times l__law_times c__law_times k__law_times (fun _ _ _ _ _ _ us hl => match us, hl with | [_, _, _], _ => rfl)
    d_is_pair := df_mk X G a_is_pair l_is_pair c_is_pair k_is_pair (fun _ _ _ _ _ _ us hl => match us, hl with | [_], _ => rfl)
    d_check_table := df_mk X G a_check_table l_check_table c_check_table k_check_table (fun _ _ _ _ _ _ us hl => match us, hl with | [_, _], _ => rfl)
    d_table_product := df_mk X G a_table_product l_table_product c_table_product k_table_product (fun _ _ _ _ _ _ us hl => match us, hl with | [_, _, _], _ => rfl)
    d__law_product := df_mk X G a__law_product l__law_product c__law_product k__law_product (fun _ _ _ _ _ _ us hl => match us, hl with | [_, _], _ => rfl)
    d_determinant := df_mk X G a_determinant l_determinant c_determinant k_determinant (fun _ _ _ _ _ _ us hl => match us, hl with | [_, _], _ => rfl)
    d__law_norm := df_mk X G a__law_norm l__law_norm c__law_norm k__law_norm (fun _ _ _ _ _ _ us hl => match us, hl with | [_], _ => rfl)
    d__law_conjugate := df_mk X G a__law_conjugate l__law_conjugate c__law_conjugate k__law_conjugate (fun _ _ _ _ _ _ us hl => match us, hl with | [_], _ => rfl)
    n_abs := PySem.W.mg_none_of X G z_abs
    n_all := PySem.W.mg_none_of X G z_all
    n_int := PySem.W.mg_none_of X G z_int
    n_isinstance := PySem.W.mg_none_of X G z_isinstance
    n_len := PySem.W.mg_none_of X G z_len
    n_list := PySem.W.mg_none_of X G z_list
    n_max := PySem.W.mg_none_of X G z_max
    n_range := PySem.W.mg_none_of X G z_range
    n_sum := PySem.W.mg_none_of X G z_sum
    n_tuple := PySem.W.mg_none_of X G z_tuple
    n_zip := PySem.W.mg_none_of X G z_zip
    c_MOST_ODD := q_MOST_ODD
    c_MOST_VALUE := q_MOST_VALUE
    c_PARTS := gc_int X G q_PARTS
    e_InvalidNumber := ex_mk X G xa_InvalidNumber xe_InvalidNumber xk_InvalidNumber xs_InvalidNumber xt_InvalidNumber
    e_InvalidQuestion := ex_mk X G xa_InvalidQuestion xe_InvalidQuestion xk_InvalidQuestion xs_InvalidQuestion xt_InvalidQuestion
  }
  exact ⟨PySem.W.fnOf "law" "law" (defArgs s_law) (defBody s_law) (defScope s_law) .none kV_law dc_law pm_law an_law cd_law ct_law, fun s v => .of_eq rfl, fun base _ _ => okf_law t (fun_mk (st := s_law) l_law c_law k_law)⟩
end L2.VL.K79

namespace L2.VL.K79
open PySem PySem.Spec PyProof.Rows
theorem e_row (c : Int) (n : Nat) (hn : n ≤ 100000) : ∃ row : List Int, m__law_row [.int c, .int n] = .ok (.list (row.map .int)) ∧ row.length = n ∧ In9 row := by
  have inv : ∃ ρ', forL (gN 5) (seqM (setM 4 (bin modD (un intD (bin addD (bin mulI (mVar 4) (mC (.int 16807))) (bin mulI (mC (.int 271)) (bin addD (mVar 5) (mC (.int 3)))))) (mC (.int 2147483629)))) (ifM (asB (bin geD (un absD (mVar 0)) (bin powD (mC (.int 10)) (mC (.int 18))))) (seqM (appM 2 (bin modD (un intD (mVar 3)) (mC (.int 1009)))) (setM 3 (bin fdivD (mVar 3) (mC (.int 1009))))) (appM 2 (bin modD (un intD (bin fdivD (mVar 4) (mC (.int 7)))) (mC (.int 1009)))))) (rngL 0 n)
      [some (.fz (.int c)), some (.fz (.int n)), some (.ol []), some (.fz (.int (if c < 0 then -c else c))), some (.fz (.int (((if c < 0 then -c else c) * 48271 + 69621) % 2147483647))), none] = .nx ρ' ∧
      ∃ (row : List Int) (rest mixed : Int) (o : Option Sl), ρ' = [some (.fz (.int c)), some (.fz (.int n)), some (.ol (row.map .int)), some (.fz (.int rest)), some (.fz (.int mixed)), o] ∧ row.length = 0 + (rngL 0 n).length ∧ In9 row ∧ 0 ≤ rest ∧ 0 ≤ mixed ∧ mixed < 2147483648 := by
    refine forL_inv (fun i ρ' => ∃ (row : List Int) (rest mixed : Int) (o : Option Sl), ρ' = [some (.fz (.int c)), some (.fz (.int n)), some (.ol (row.map .int)), some (.fz (.int rest)), some (.fz (.int mixed)), o] ∧ row.length = i ∧ In9 row ∧ 0 ≤ rest ∧ 0 ≤ mixed ∧ mixed < 2147483648) (k := 0)
      ⟨[], _, _, none, rfl, rfl, (fun z hz => by cases hz), (by split <;> omega), (by omega), (by omega)⟩ ?_
    rintro i d ρ hd ⟨row, rest, mixed, o, rfl, hl, h9, h0, h1, h2⟩
    obtain ⟨hi, rfl⟩ := rngL_get hd
    haveI : Sm 31 mixed := ⟨by omega⟩
    haveI : Sm 31 (i : Int) := ⟨by omega⟩
    have hlen : (row.map PyData.int).length < 16777216 := by rw [List.length_map]; omega
    by_cases hc : (1000000000000000000 : Int) ≤ (if c < 0 then -c else c)
    · refine ⟨_, [some (.fz (.int c)), some (.fz (.int n)), some (.ol ((row ++ [rest % 1009]).map .int)), some (.fz (.int (rest / 1009))), some (.fz (.int ((mixed * 16807 + 271 * (i + 3)) % 2147483629))), some (.fz (.int i))], rfl, .inl ?_, row ++ [rest % 1009], _, _, _, rfl, by rw [List.length_append, hl]; simp, h9.append (.one (by omega) (by omega)), by omega, by omega, by omega⟩
      simp (disch := first | assumption | decide) [mVar_succ, olAt_succ, modD_e, fdivD_e, powD_e, hc, app1_ok]
    · refine ⟨_, [some (.fz (.int c)), some (.fz (.int n)), some (.ol ((row ++ [((mixed * 16807 + 271 * (i + 3)) % 2147483629 / 7) % 1009]).map .int)), some (.fz (.int rest)), some (.fz (.int ((mixed * 16807 + 271 * (i + 3)) % 2147483629))), some (.fz (.int i))], rfl, .inl ?_, _, _, _, _, rfl, by rw [List.length_append, hl]; simp, h9.append (.one (by omega) (by omega)), by omega, by omega, by omega⟩
      simp (disch := first | assumption | decide) [mVar_succ, olAt_succ, modD_e, fdivD_e, powD_e, hc, app1_ok]
  obtain ⟨ρ', h1, row, rest, mixed, o, rfl, hl, h9, _⟩ := inv
  refine ⟨row, ?_, by rw [hl, rngL_len]; omega, h9⟩
  unfold m__law_row b__law_row
  have hr : rng1 (.ok (.int n)) = .ok (rngL 0 n) := rng1_ok _ (by omega) (by omega)
  simp (disch := first | assumption | decide) [runD_e, rho0, mVar_succ, modD_e, mulI_r, hr, for1_ok]
  rw [h1]
  simp [slotAt_succ, mVar_succ]
theorem e_numbers (ns : List Int) (hns : ns.length ≤ 63) (k : Nat) (hk : k ≤ 1900) : ∃ zs : List Int, m__law_numbers [.list (ns.map .int), .int k] = .ok (.list (zs.map .int)) ∧ zs.length = k ∧ In9 zs := by
  obtain ⟨each, he, heach⟩ : ∃ each : Nat, (each : Int) = 1 + (k : Int) / (if 1 < (ns.length : Int) then (ns.length : Int) else 1) ∧ each ≤ 1901 := by
    refine ⟨(1 + (k : Int) / (if 1 < (ns.length : Int) then (ns.length : Int) else 1)).toNat, ?_, ?_⟩
    · have : 0 ≤ (k : Int) / (if 1 < (ns.length : Int) then (ns.length : Int) else 1) := Int.ediv_nonneg (by omega) (by split <;> omega)
      omega
    · have : (k : Int) / (if 1 < (ns.length : Int) then (ns.length : Int) else 1) ≤ k := Int.ediv_le_self _ (by omega)
      omega
  have inv : ∃ ρ', forL (gN 5) (forM (seqI (callM 2 m__law_row (consM (mVar 5) (consM (mVar 3) nilM)))) (gN 6) (appM 4 (mVar 6))) (ns.map .int)
      [some (.fz (.list (ns.map .int))), some (.fz (.int k)), some (.fz (.list (ns.map .int))), some (.fz (.int each)), some (.ol []), none, none] = .nx ρ' ∧
      ∃ (zs : List Int) (o o' : Option Sl), ρ' = [some (.fz (.list (ns.map .int))), some (.fz (.int k)), some (.fz (.list (ns.map .int))), some (.fz (.int each)), some (.ol (zs.map .int)), o, o'] ∧ zs.length ≤ (0 + (ns.map PyData.int).length) * 1901 ∧ In9 zs := by
    refine forL_inv (fun i ρ' => ∃ (zs : List Int) (o o' : Option Sl), ρ' = [some (.fz (.list (ns.map .int))), some (.fz (.int k)), some (.fz (.list (ns.map .int))), some (.fz (.int each)), some (.ol (zs.map .int)), o, o'] ∧ zs.length ≤ i * 1901 ∧ In9 zs) (k := 0)
      ⟨[], none, none, rfl, by simp, fun z hz => by cases hz⟩ ?_
    rintro i d ρ hd ⟨zs, o, o', rfl, hl, h9⟩
    obtain ⟨c, hc, rfl⟩ := map_get hd
    have hi : i < ns.length := (List.getElem?_eq_some_iff.mp hc).1
    obtain ⟨row, hr, hrl, hr9⟩ := e_row c each (by omega)
    obtain ⟨ρ2, h1, zs2, o2, rfl, h3, h4⟩ : ∃ ρ', forL (gN 6) (appM 4 (mVar 6)) (row.map .int) [some (.fz (.list (ns.map .int))), some (.fz (.int k)), some (.fz (.list (ns.map .int))), some (.fz (.int each)), some (.ol (zs.map .int)), some (.fz (.int c)), o'] = .nx ρ' ∧
        ∃ (zs2 : List Int) (o2 : Option Sl), ρ' = [some (.fz (.list (ns.map .int))), some (.fz (.int k)), some (.fz (.list (ns.map .int))), some (.fz (.int each)), some (.ol (zs2.map .int)), some (.fz (.int c)), o2] ∧ zs2.length = zs.length + (0 + (row.map PyData.int).length) ∧ In9 zs2 := by
      refine forL_inv (fun j ρ' => ∃ (zs2 : List Int) (o2 : Option Sl), ρ' = [some (.fz (.list (ns.map .int))), some (.fz (.int k)), some (.fz (.list (ns.map .int))), some (.fz (.int each)), some (.ol (zs2.map .int)), some (.fz (.int c)), o2] ∧ zs2.length = zs.length + j ∧ In9 zs2) (k := 0)
        ⟨zs, o', rfl, rfl, h9⟩ ?_
      rintro j d ρ hd ⟨zs2, o2, rfl, hl2, h92⟩
      obtain ⟨z, hz, rfl⟩ := map_get hd
      have hj : j < row.length := (List.getElem?_eq_some_iff.mp hz).1
      have hlen : (zs2.map PyData.int).length < 16777216 := by rw [List.length_map]; omega
      refine ⟨_, [some (.fz (.list (ns.map .int))), some (.fz (.int k)), some (.fz (.list (ns.map .int))), some (.fz (.int each)), some (.ol ((zs2 ++ [z]).map .int)), some (.fz (.int c)), some (.fz (.int z))], rfl, .inl ?_, _, _, rfl, by rw [List.length_append, hl2]; rfl, h92.append (In9.one (hr9 z (List.mem_of_getElem? hz)).1 (hr9 z (List.mem_of_getElem? hz)).2)⟩
      simp (disch := first | assumption | decide) [mVar_succ, olAt_succ, app1_ok]
    refine ⟨_, [some (.fz (.list (ns.map .int))), some (.fz (.int k)), some (.fz (.list (ns.map .int))), some (.fz (.int each)), some (.ol (zs2.map .int)), some (.fz (.int c)), o2], rfl, .inl ?_, zs2, some (.fz (.int c)), o2, rfl, ?_, h4⟩
    · simp (disch := first | assumption | decide) [mVar_succ, hr, for1_ok]
      exact h1
    · rw [h3, List.length_map]; omega
  obtain ⟨ρ', h1, zs, o, o', rfl, hl, h9⟩ := inv
  obtain ⟨ρ2, h2, zs2, rfl, h3, h4⟩ : ∃ ρ2, whileL (asB (bin ltD (un lenD (mVarO 4)) (mVar 1))) (appM 4 (mC (.int 0))) 2000 [some (.fz (.list (ns.map .int))), some (.fz (.int k)), some (.fz (.list (ns.map .int))), some (.fz (.int each)), some (.ol (zs.map .int)), o, o'] = .nx ρ2 ∧
      ∃ zs2 : List Int, ρ2 = [some (.fz (.list (ns.map .int))), some (.fz (.int k)), some (.fz (.list (ns.map .int))), some (.fz (.int each)), some (.ol (zs2.map .int)), o, o'] ∧ k ≤ zs2.length ∧ In9 zs2 := by
    refine whileL_inv (fun n ρ2 => ∃ zs2 : List Int, ρ2 = [some (.fz (.list (ns.map .int))), some (.fz (.int k)), some (.fz (.list (ns.map .int))), some (.fz (.int each)), some (.ol (zs2.map .int)), o, o'] ∧ k - zs2.length = n ∧ zs2.length ≤ 1000000 ∧ In9 zs2) _ ?_ (n := k - zs.length) ⟨zs, rfl, rfl, by rw [List.length_map] at hl; omega, h9⟩ (by omega)
    rintro n ρ ⟨zs2, rfl, hn, hb, h92⟩
    have hlen : (zs2.map PyData.int).length < 16777216 := by rw [List.length_map]; omega
    by_cases hlt : zs2.length < k
    · have hlt' : ((zs2.length : Nat) : Int) < (k : Int) := by omega
      refine .inr ⟨by simp [mVar_succ, mVarO_succ]; exact hlt, [some (.fz (.list (ns.map .int))), some (.fz (.int k)), some (.fz (.list (ns.map .int))), some (.fz (.int each)), some (.ol ((zs2 ++ [0]).map .int)), o, o'], n - 1, .inl ?_, by omega, _, rfl, by rw [List.length_append]; simp; omega, by rw [List.length_append]; simp; omega, h92.append (.one (by decide) (by decide))⟩
      simp (disch := first | assumption | decide) [mVar_succ, olAt_succ, app1_ok]
    · refine .inl ⟨by simp [mVar_succ, mVarO_succ]; omega, zs2, rfl, by omega, h92⟩
  refine ⟨zs2.take k, ?_, by rw [List.length_take]; omega, h4.take k⟩
  unfold m__law_numbers b__law_numbers
  have hcut : cutG (ns.map PyData.int) none (some 63) = ns.map .int := by
    rw [cutG_to _ _ (by decide)]
    exact List.take_of_length_le (by rw [List.length_map]; exact hns)
  have hcut2 : cutG (zs2.map PyData.int) none (some (k : Int)) = (zs2.take k).map .int := by
    rw [cutG_to _ _ (by omega), Int.toNat_natCast, List.map_take]
  have hd : fdivD (.int k) (.int (if 1 < (ns.length : Int) then (ns.length : Int) else 1)) = some (.int ((k : Int) / (if 1 < (ns.length : Int) then (ns.length : Int) else 1))) := by
    refine fdivD_e _ _ (by split <;> omega) (by split <;> omega)
  simp (disch := first | assumption | decide) [runD_e, rho0, mVar_succ, hcut, for1_ok, hd]
  rw [← he, h1]
  simp (disch := first | assumption | decide) [mVar_succ, mVarO_succ, h2]
  rw [cutG_to _ _ (by omega), Int.toNat_natCast]
def P7 (p : Int) : Prop := p = 3 ∨ p = 5 ∨ p = 7 ∨ p = 11 ∨ p = 13 ∨ p = 17 ∨ p = 19
theorem e_check_odd (p : Int) (h : P7 p) : m_check_odd [.int p] = .ok .none := by
  rcases h with rfl | rfl | rfl | rfl | rfl | rfl | rfl <;> kernel_rfl
theorem e_pick (zs : List D) (i m z : Int) (h0 : 0 < m) (hz : L2.atI zs i = some (.int z)) : m__law_pick [.list zs, .int i, .int m] = .ok (.int (z % m)) := by
  unfold m__law_pick b__law_pick
  simp [runD_e, rho0, mVar_s, hz, modD_e, h0]
theorem e_table (p x y a b c d : Int) (h0 : 0 < p) [Sm 5 p] [Sm 5 x] [Sm 5 y] [Sm 1000 a] [Sm 1000 b] [Sm 1000 c] [Sm 1000 d] : 
    m__law_table [.tuple [.int a, .int b, .int c, .int d], .int p, .tuple [.int x, .int y]] = .ok (.tuple [.tuple [.int ((a+b*x+d*y)*((p+1)/2) % p), .int ((b * y - c - d * x)*((p+1)/2) % p)], .tuple [.int ((b * y + c - d * x)*((p+1)/2) % p), .int ((a-b*x-d*y)*((p+1)/2) % p)]]) := by
  unfold m__law_table b__law_table
  simp (disch := first | assumption | decide) [runD_e, rho0, mVar_succ, modD_e, fdivD_e, wipeR]
theorem e_is_pair (a b : Int) : m_is_pair [.tuple [.int a, .int b]] = .ok (.bool true) := by
  unfold m_is_pair b_is_pair
  simp (disch := first | assumption | decide) [runD_e, rho0, mVar_succ, wipeR]
theorem e_check_table (p a b c d : Int) (ha : 0 ≤ a ∧ a < p) (hb : 0 ≤ b ∧ b < p) (hc : 0 ≤ c ∧ c < p) (hd : 0 ≤ d ∧ d < p) : m_check_table [.tuple [.tuple [.int a, .int b], .tuple [.int c, .int d]], .int p] = .ok .none := by
  unfold m_check_table b_check_table
  simp (disch := first | assumption | decide) [runD_e, rho0, mVar_succ, wipeR, e_is_pair, lc2L_cons, lcL_cons, l2B_ok, ha, hb, hc, hd]
theorem e_is_number (a b c d r : Int) (ha : a % 2 = r) (hb : b % 2 = r) (hc : c % 2 = r) (hd : d % 2 = r) (X : D) (hX : X = .tuple [.int a, .int b, .int c, .int d] ∨ X = .list [.int a, .int b, .int c, .int d]) : m_is_number [X] = .ok (.bool true) := by
  have hput : putD [(.int r, .bool true)] (.int r) (.bool true) = [(.int r, .bool true)] := by
    unfold putD
    have : PyData.eqv (.int r) (.int r) = true := by show (r == r) = true; simp
    simp [this]
  have hput0 : putD [] (.int r) (.bool true) = [(.int r, .bool true)] := rfl
  have hk : isKey (.int r) = true := rfl
  have hm : ∀ z : Int, z % 2 = r → modD (.int z) (.int 2) = some (.int r) := fun z hz => by rw [modD_e _ _ (by decide), hz]
  unfold m_is_number b_is_number
  rcases hX with rfl | rfl
  · simp (disch := first | assumption | decide) [runD_e, rho0, mVar_succ, wipeR, dcM_e, dcL_cons, hm a ha, hm b hb, hm c hc, hm d hd, hput0, hput, hk, c_PARTS]
  · simp (disch := first | assumption | decide) [runD_e, rho0, mVar_succ, wipeR, dcM_e, dcL_cons, hm a ha, hm b hb, hm c hc, hm d hd, hput0, hput, hk, c_PARTS]
theorem e_check_number (a b c d r : Int) (ha : a % 2 = r) (hb : b % 2 = r) (hc : c % 2 = r) (hd : d % 2 = r) (X : D) (hX : X = .tuple [.int a, .int b, .int c, .int d] ∨ X = .list [.int a, .int b, .int c, .int d]) : m_check_number [X] = .ok .none := by
  unfold m_check_number b_check_number
  simp (disch := first | assumption | decide) [runD_e, rho0, mVar_succ, e_is_number a b c d r ha hb hc hd X hX]
theorem e_table_of (p x y a b c d r : Int) (h0 : 0 < p) [Sm 5 p] [Sm 5 x] [Sm 5 y] [Sm 1000 a] [Sm 1000 b] [Sm 1000 c] [Sm 1000 d] (hr : m_root_pair [.int p] = .ok (.tuple [.int x, .int y]))
    (ha : a % 2 = r) (hb : b % 2 = r) (hc : c % 2 = r) (hd : d % 2 = r) (X : D) (hX : X = .tuple [.int a, .int b, .int c, .int d] ∨ X = .list [.int a, .int b, .int c, .int d]) : m_table_of [X, .int p] =
    .ok (.tuple [.tuple [.int ((a * ((p + 1) / 2) + b * ((p + 1) / 2) * x + d * ((p + 1) / 2) * y) % p), .int ((b * ((p + 1) / 2) * y - c * ((p + 1) / 2) - d * ((p + 1) / 2) * x) % p)], .tuple [.int ((b * ((p + 1) / 2) * y + c * ((p + 1) / 2) - d * ((p + 1) / 2) * x) % p), .int ((a * ((p + 1) / 2) - b * ((p + 1) / 2) * x - d * ((p + 1) / 2) * y) % p)]]) := by
  have hk := e_check_number a b c d r ha hb hc hd X hX
  unfold m_table_of b_table_of
  rcases hX with rfl | rfl
  · simp (disch := first | assumption | decide) [runD_e, rho0, mVar_succ, wipeR, hr, hk, fdivD_e, modD_e]
  · simp (disch := first | assumption | decide) [runD_e, rho0, mVar_succ, wipeR, hr, hk, fdivD_e, modD_e]
/-- the pair of the prime, told twice -/
theorem e_pair (p : Int) (h : P7 p) : ∃ x y : Int, m_root_pair [.int p] = .ok (.tuple [.int x, .int y]) ∧ bin2 ixD (m__law_pairs [.int p]) (.ok (.int 0)) = .ok (.tuple [.int x, .int y]) ∧ 0 ≤ x ∧ x < 32 ∧ 0 ≤ y ∧ y < 32 ∧
    ((p = 3 ∧ x = 1 ∧ y = 1) ∨ (p = 5 ∧ x = 0 ∧ y = 2) ∨ (p = 7 ∧ x = 2 ∧ y = 3) ∨ (p = 11 ∧ x = 1 ∧ y = 3) ∨ (p = 13 ∧ x = 0 ∧ y = 5) ∨ (p = 17 ∧ x = 0 ∧ y = 4) ∨ (p = 19 ∧ x = 1 ∧ y = 6)) := by
  rcases h with rfl | rfl | rfl | rfl | rfl | rfl | rfl
  · exact ⟨1, 1, by kernel_rfl, by kernel_rfl, by decide, by decide, by decide, by decide, by decide⟩
  · exact ⟨0, 2, by kernel_rfl, by kernel_rfl, by decide, by decide, by decide, by decide, by decide⟩
  · exact ⟨2, 3, by kernel_rfl, by kernel_rfl, by decide, by decide, by decide, by decide, by decide⟩
  · exact ⟨1, 3, by kernel_rfl, by kernel_rfl, by decide, by decide, by decide, by decide, by decide⟩
  · exact ⟨0, 5, by kernel_rfl, by kernel_rfl, by decide, by decide, by decide, by decide, by decide⟩
  · exact ⟨0, 4, by kernel_rfl, by kernel_rfl, by decide, by decide, by decide, by decide, by decide⟩
  · exact ⟨1, 6, by kernel_rfl, by kernel_rfl, by decide, by decide, by decide, by decide, by decide⟩
theorem at_ex {zs : List Int} (h9 : In9 zs) (i : Int) (h0 : 0 ≤ i) (h : i < zs.length) : ∃ z, L2.atI (zs.map PyData.int) i = some (.int z) ∧ 0 ≤ z ∧ z < 1009 := by
  have hl : i.toNat < zs.length := by omega
  refine ⟨zs[i.toNat], ?_, h9 _ (List.getElem_mem _)⟩
  rw [map_at, atI_n _ _ h0, List.getElem?_eq_getElem hl]; rfl
theorem e_odd (zs : List Int) (h9 : In9 zs) (h : 20 ≤ zs.length) : ∃ p, P7 p ∧ m__law_odd [.list (zs.map .int), .int 0] = .ok (.int p) := by
  obtain ⟨z, hz, h0, _⟩ := at_ex h9 0 (by decide) (by omega)
  have hp := e_pick (zs.map .int) 0 10 z (by decide) hz
  have e : m__law_odd [.list (zs.map .int), .int 0] = R.ofO (L2.atI [PyData.int 3, .int 5, .int 7, .int 11, .int 13, .int 17, .int 3, .int 5, .int 7, .int 19] (z % 10)) := by
    unfold m__law_odd b__law_odd
    simp (disch := first | assumption | decide) [runD_e, rho0, mVar_succ, hp, lst1_ok]
    cases L2.atI [PyData.int 3, .int 5, .int 7, .int 11, .int 13, .int 17, .int 3, .int 5, .int 7, .int 19] (z % 10) <;> rfl
  rw [e]
  have : z % 10 = 0 ∨ z % 10 = 1 ∨ z % 10 = 2 ∨ z % 10 = 3 ∨ z % 10 = 4 ∨ z % 10 = 5 ∨ z % 10 = 6 ∨ z % 10 = 7 ∨ z % 10 = 8 ∨ z % 10 = 9 := by omega
  unfold P7
  rcases this with h | h | h | h | h | h | h | h | h | h <;> rw [h]
  · exact ⟨3, by decide, rfl⟩
  · exact ⟨5, by decide, rfl⟩
  · exact ⟨7, by decide, rfl⟩
  · exact ⟨11, by decide, rfl⟩
  · exact ⟨13, by decide, rfl⟩
  · exact ⟨17, by decide, rfl⟩
  · exact ⟨3, by decide, rfl⟩
  · exact ⟨5, by decide, rfl⟩
  · exact ⟨7, by decide, rfl⟩
  · exact ⟨19, by decide, rfl⟩
def Bd (z : Int) : Prop := -300000000000000000000 ≤ z ∧ z ≤ 300000000000000000000
theorem e_number2 (zs : List Int) (h9 : In9 zs) (h : 20 ≤ zs.length) (s : Int) (hs : 0 < s) (hs2 : s ≤ 100000000000000000000) : ∃ a b c d r : Int, m__law_number [.list (zs.map .int), .int 2, .int s] = .ok (.tuple [.int a, .int b, .int c, .int d]) ∧ a % 2 = r ∧ b % 2 = r ∧ c % 2 = r ∧ d % 2 = r ∧ Bd a ∧ Bd b ∧ Bd c ∧ Bd d := by
  obtain ⟨z6, hz6, h60, _⟩ := at_ex h9 2 (by decide) (by omega)
  obtain ⟨z7, hz7, h70, _⟩ := at_ex h9 3 (by decide) (by omega)
  obtain ⟨z8, hz8, h80, _⟩ := at_ex h9 4 (by decide) (by omega)
  obtain ⟨z9, hz9, h90, _⟩ := at_ex h9 5 (by decide) (by omega)
  obtain ⟨z10, hz10, h100, _⟩ := at_ex h9 6 (by decide) (by omega)
  haveI : Sm 80 s := ⟨by omega⟩
  have hp1 : 0 < 2 * s + 1 := by omega
  have bd : ∀ z : Int, 0 ≤ z % (2 * s + 1) ∧ z % (2 * s + 1) < 2 * s + 1 := fun z => ⟨Int.emod_nonneg _ (by omega), Int.emod_lt_of_pos _ hp1⟩
  have b7 := bd z7; have b8 := bd z8; have b9 := bd z9; have b10 := bd z10
  haveI : Sm 80 (z7 % (2 * s + 1)) := ⟨by omega⟩
  haveI : Sm 80 (z8 % (2 * s + 1)) := ⟨by omega⟩
  haveI : Sm 80 (z9 % (2 * s + 1)) := ⟨by omega⟩
  haveI : Sm 80 (z10 % (2 * s + 1)) := ⟨by omega⟩
  have m7 := modD_e z7 (2 * s + 1) hp1
  have m8 := modD_e z8 (2 * s + 1) hp1
  have m9 := modD_e z9 (2 * s + 1) hp1
  have m10 := modD_e z10 (2 * s + 1) hp1
  generalize z7 % (2 * s + 1) = w7 at b7 m7 this
  generalize z8 % (2 * s + 1) = w8 at b8 m8 this
  generalize z9 % (2 * s + 1) = w9 at b9 m9 this
  generalize z10 % (2 * s + 1) = w10 at b10 m10 this
  haveI : Sm 80 w7 := ⟨by omega⟩
  haveI : Sm 80 w8 := ⟨by omega⟩
  haveI : Sm 80 w9 := ⟨by omega⟩
  haveI : Sm 80 w10 := ⟨by omega⟩
  unfold Bd
  unfold m__law_number b__law_number
  by_cases hp : z6 % 2 = 0
  · refine ⟨2 * (w7 - s), 2 * (w8 - s), 2 * (w9 - s), 2 * (w10 - s), 0, ?_, by omega, by omega, by omega, by omega, by omega, by omega, by omega, by omega⟩
    simp (disch := first | assumption | decide) [runD_e, rho0, mVar_succ, wipeR, hz6, hz7, hz8, hz9, hz10, modD_e, hp, m7, m8, m9, m10]
  · refine ⟨2 * (w7 - s) + 1, 2 * (w8 - s) + 1, 2 * (w9 - s) + 1, 2 * (w10 - s) + 1, 1, ?_, by omega, by omega, by omega, by omega, by omega, by omega, by omega, by omega⟩
    simp (disch := first | assumption | decide) [runD_e, rho0, mVar_succ, wipeR, hz6, hz7, hz8, hz9, hz10, modD_e, hp, m7, m8, m9, m10]
theorem e_number8 (zs : List Int) (h9 : In9 zs) (h : 20 ≤ zs.length) (s : Int) (hs : 0 < s) (hs2 : s ≤ 100000000000000000000) : ∃ a b c d r : Int, m__law_number [.list (zs.map .int), .int 8, .int s] = .ok (.tuple [.int a, .int b, .int c, .int d]) ∧ a % 2 = r ∧ b % 2 = r ∧ c % 2 = r ∧ d % 2 = r ∧ Bd a ∧ Bd b ∧ Bd c ∧ Bd d := by
  obtain ⟨z6, hz6, h60, _⟩ := at_ex h9 8 (by decide) (by omega)
  obtain ⟨z7, hz7, h70, _⟩ := at_ex h9 9 (by decide) (by omega)
  obtain ⟨z8, hz8, h80, _⟩ := at_ex h9 10 (by decide) (by omega)
  obtain ⟨z9, hz9, h90, _⟩ := at_ex h9 11 (by decide) (by omega)
  obtain ⟨z10, hz10, h100, _⟩ := at_ex h9 12 (by decide) (by omega)
  haveI : Sm 80 s := ⟨by omega⟩
  have hp1 : 0 < 2 * s + 1 := by omega
  have bd : ∀ z : Int, 0 ≤ z % (2 * s + 1) ∧ z % (2 * s + 1) < 2 * s + 1 := fun z => ⟨Int.emod_nonneg _ (by omega), Int.emod_lt_of_pos _ hp1⟩
  have b7 := bd z7; have b8 := bd z8; have b9 := bd z9; have b10 := bd z10
  haveI : Sm 80 (z7 % (2 * s + 1)) := ⟨by omega⟩
  haveI : Sm 80 (z8 % (2 * s + 1)) := ⟨by omega⟩
  haveI : Sm 80 (z9 % (2 * s + 1)) := ⟨by omega⟩
  haveI : Sm 80 (z10 % (2 * s + 1)) := ⟨by omega⟩
  have m7 := modD_e z7 (2 * s + 1) hp1
  have m8 := modD_e z8 (2 * s + 1) hp1
  have m9 := modD_e z9 (2 * s + 1) hp1
  have m10 := modD_e z10 (2 * s + 1) hp1
  generalize z7 % (2 * s + 1) = w7 at b7 m7 this
  generalize z8 % (2 * s + 1) = w8 at b8 m8 this
  generalize z9 % (2 * s + 1) = w9 at b9 m9 this
  generalize z10 % (2 * s + 1) = w10 at b10 m10 this
  haveI : Sm 80 w7 := ⟨by omega⟩
  haveI : Sm 80 w8 := ⟨by omega⟩
  haveI : Sm 80 w9 := ⟨by omega⟩
  haveI : Sm 80 w10 := ⟨by omega⟩
  unfold Bd
  unfold m__law_number b__law_number
  by_cases hp : z6 % 2 = 0
  · refine ⟨2 * (w7 - s), 2 * (w8 - s), 2 * (w9 - s), 2 * (w10 - s), 0, ?_, by omega, by omega, by omega, by omega, by omega, by omega, by omega, by omega⟩
    simp (disch := first | assumption | decide) [runD_e, rho0, mVar_succ, wipeR, hz6, hz7, hz8, hz9, hz10, modD_e, hp, m7, m8, m9, m10]
  · refine ⟨2 * (w7 - s) + 1, 2 * (w8 - s) + 1, 2 * (w9 - s) + 1, 2 * (w10 - s) + 1, 1, ?_, by omega, by omega, by omega, by omega, by omega, by omega, by omega, by omega⟩
    simp (disch := first | assumption | decide) [runD_e, rho0, mVar_succ, wipeR, hz6, hz7, hz8, hz9, hz10, modD_e, hp, m7, m8, m9, m10]
theorem e_product {n1 n2 n3 n4 k1 k2 k3 k4 : Nat} (a b c d e f g w : Int) [Sm n1 a] [Sm n2 b] [Sm n3 c] [Sm n4 d] [Sm k1 e] [Sm k2 f] [Sm k3 g] [Sm k4 w] (h1 : n1 ≤ 1000000) (h2 : n2 ≤ 1000000) (h3 : n3 ≤ 1000000) (h4 : n4 ≤ 1000000) (g1 : k1 ≤ 1000000) (g2 : k2 ≤ 1000000) (g3 : k3 ≤ 1000000) (g4 : k4 ≤ 1000000) :
    m__law_product [.tuple [.int a, .int b, .int c, .int d], .tuple [.int e, .int f, .int g, .int w]] = .ok (.tuple [.int ((a * e - b * f - c * g - d * w) / 2), .int ((a * f + b * e + c * w - d * g) / 2), .int ((a * g - b * w + c * e + d * f) / 2), .int ((a * w + b * g - c * f + d * e) / 2)]) := by
  unfold m__law_product b__law_product
  simp (disch := first | assumption | decide) [runD_e, rho0, mVar_succ, wipeR, modD_e, fdivD_e]
theorem e_conj (a b c d : Int) : m__law_conjugate [.tuple [.int a, .int b, .int c, .int d]] = .ok (.tuple [.int a, .int (-b), .int (-c), .int (-d)]) := by
  unfold m__law_conjugate b__law_conjugate
  simp (disch := first | assumption | decide) [runD_e, rho0, mVar_succ, wipeR]
theorem e_norm {n1 n2 n3 n4 : Nat} (a b c d : Int) [Sm n1 a] [Sm n2 b] [Sm n3 c] [Sm n4 d] (h1 : n1 ≤ 1000000) (h2 : n2 ≤ 1000000) (h3 : n3 ≤ 1000000) (h4 : n4 ≤ 1000000) : m__law_norm [.tuple [.int a, .int b, .int c, .int d]] = .ok (.int ((a * a + (b * b + (c * c + d * d))) / 4)) := by
  unfold m__law_norm b__law_norm
  simp (disch := first | assumption | decide) [runD_e, rho0, mVar_succ, wipeR, fdivD_e]
theorem e_times (p t1 t2 t3 t4 u1 u2 u3 u4 : Int) (h0 : 0 < p) [Sm 5 t1] [Sm 5 t2] [Sm 5 t3] [Sm 5 t4] [Sm 5 u1] [Sm 5 u2] [Sm 5 u3] [Sm 5 u4] : m__law_times [.tuple [.tuple [.int t1, .int t2], .tuple [.int t3, .int t4]], .tuple [.tuple [.int u1, .int u2], .tuple [.int u3, .int u4]], .int p] =
    .ok (.tuple [.tuple [.int ((t1 * u1 + t2 * u3) % p), .int ((t1 * u2 + t2 * u4) % p)], .tuple [.int ((t3 * u1 + t4 * u3) % p), .int ((t3 * u2 + t4 * u4) % p)]]) := by
  unfold m__law_times b__law_times
  simp (disch := first | assumption | decide) [runD_e, rho0, mVar_succ, olAt_succ, mVarO_succ, wipeR, modD_e, for1_ok, forL_cons, app1_ok]
theorem e_table_product (p t1 t2 t3 t4 u1 u2 u3 u4 : Int) (h0 : 0 < p) [Sm 5 t1] [Sm 5 t2] [Sm 5 t3] [Sm 5 t4] [Sm 5 u1] [Sm 5 u2] [Sm 5 u3] [Sm 5 u4] (ho : m_check_odd [.int p] = .ok .none)
    (b1 : 0 ≤ t1 ∧ t1 < p) (b2 : 0 ≤ t2 ∧ t2 < p) (b3 : 0 ≤ t3 ∧ t3 < p) (b4 : 0 ≤ t4 ∧ t4 < p) (c1 : 0 ≤ u1 ∧ u1 < p) (c2 : 0 ≤ u2 ∧ u2 < p) (c3 : 0 ≤ u3 ∧ u3 < p) (c4 : 0 ≤ u4 ∧ u4 < p) :
    m_table_product [.tuple [.tuple [.int t1, .int t2], .tuple [.int t3, .int t4]], .tuple [.tuple [.int u1, .int u2], .tuple [.int u3, .int u4]], .int p] =
    .ok (.tuple [.tuple [.int ((t1 * u1 + t2 * u3) % p), .int ((t1 * u2 + t2 * u4) % p)], .tuple [.int ((t3 * u1 + t4 * u3) % p), .int ((t3 * u2 + t4 * u4) % p)]]) := by
  have k1 := e_check_table p t1 t2 t3 t4 b1 b2 b3 b4
  have k2 := e_check_table p u1 u2 u3 u4 c1 c2 c3 c4
  unfold m_table_product b_table_product
  simp (disch := first | assumption | decide) [runD_e, rho0, mVar_succ, wipeR, modD_e, ho, k1, k2, zipStarL]
theorem e_determinant (p t1 t2 t3 t4 : Int) (h0 : 0 < p) [Sm 5 t1] [Sm 5 t2] [Sm 5 t3] [Sm 5 t4] (ho : m_check_odd [.int p] = .ok .none) (b1 : 0 ≤ t1 ∧ t1 < p) (b2 : 0 ≤ t2 ∧ t2 < p) (b3 : 0 ≤ t3 ∧ t3 < p) (b4 : 0 ≤ t4 ∧ t4 < p) :
    m_determinant [.tuple [.tuple [.int t1, .int t2], .tuple [.int t3, .int t4]], .int p] = .ok (.int ((t1 * t4 - t2 * t3) % p)) := by
  have k1 := e_check_table p t1 t2 t3 t4 b1 b2 b3 b4
  unfold m_determinant b_determinant
  simp (disch := first | assumption | decide) [runD_e, rho0, mVar_succ, wipeR, modD_e, ho, k1]
theorem cong {u v p : Int} (K : Int) (h : u - v = p * K) : u % p = v % p := by
  have : u = v + p * K := by omega
  rw [this, Int.add_mul_emod_self_left]
theorem ddef (u p : Int) : ∃ k, u % p = u - p * k := ⟨u / p, by have := Int.emod_add_mul_ediv u p; omega⟩
theorem id1 (x y a b c d e f g w : Int) : (a+b*x+d*y) * (e+f*x+w*y) + (b*y-c-d*x) * (f*y+g-w*x) = (a * e - b * f - c * g - d * w) + (a * f + b * e + c * w - d * g) * x + (a * w + b * g - c * f + d * e) * y + (b * f + d * w) * (x * x + y * y + 1) := by grind
theorem id2 (x y a b c d e f g w : Int) : (a+b*x+d*y) * (f*y-g-w*x) + (b*y-c-d*x) * (e-f*x-w*y) = (a * f + b * e + c * w - d * g) * y - (a * g - b * w + c * e + d * f) - (a * w + b * g - c * f + d * e) * x + (d * f - b * w) * (x * x + y * y + 1) := by grind
theorem id3 (x y a b c d e f g w : Int) : (b*y+c-d*x) * (e+f*x+w*y) + (a-b*x-d*y) * (f*y+g-w*x) = (a * f + b * e + c * w - d * g) * y + (a * g - b * w + c * e + d * f) - (a * w + b * g - c * f + d * e) * x + (b * w - d * f) * (x * x + y * y + 1) := by grind
theorem id4 (x y a b c d e f g w : Int) : (b*y+c-d*x) * (f*y-g-w*x) + (a-b*x-d*y) * (e-f*x-w*y) = (a * e - b * f - c * g - d * w) - (a * f + b * e + c * w - d * g) * x - (a * w + b * g - c * f + d * e) * y + (b * f + d * w) * (x * x + y * y + 1) := by grind
theorem hom_key {p h m : Int} (hh : 2 * h = p + 1) (A B C D k l k' l' Q r : Int) (hq : A * B + C * D = 2 * Q + r * (p * m)) : ((A * h - p * k) * (B * h - p * l) + (C * h - p * k') * (D * h - p * l')) % p = Q * h % p := by
  refine cong (h * Q + h * h * r * m - (A * h * l + k * B * h - p * k * l + C * h * l' + k' * D * h - p * k' * l')) ?_
  have h1 : (A * h - p * k) * (B * h - p * l) + (C * h - p * k') * (D * h - p * l') = h * h * (A * B + C * D) - p * (A * h * l + k * B * h - p * k * l + C * h * l' + k' * D * h - p * k' * l') := by clear hq hh; grind
  have h2 : h * h * (2 * Q + r * (p * m)) = h * (2 * h) * Q + p * (h * h * r * m) := by clear h1 hq hh; grind
  rw [h1, hq, h2, hh]
  clear h1 h2 hq hh
  grind
/-- the table of the product is the product of the tables: the four places; w for the other's last part, q the product's parts -/
theorem hom_alg {p x y h m a b c d e f g w q1 q2 q3 q4 : Int} (hh : 2 * h = p + 1) (hx : x * x + y * y + 1 = p * m)
    (e1 : 2 * q1 = a * e - b * f - c * g - d * w) (e2 : 2 * q2 = a * f + b * e + c * w - d * g) (e3 : 2 * q3 = a * g - b * w + c * e + d * f) (e4 : 2 * q4 = a * w + b * g - c * f + d * e) :
    (((a+b*x+d*y)*h % p) * ((e+f*x+w*y)*h % p) + ((b*y-c-d*x)*h % p) * ((f*y+g-w*x)*h % p)) % p = (q1+q2*x+q4*y)*h % p ∧
    (((a+b*x+d*y)*h % p) * ((f*y-g-w*x)*h % p) + ((b*y-c-d*x)*h % p) * ((e-f*x-w*y)*h % p)) % p = (q2*y-q3-q4*x)*h % p ∧
    (((b*y+c-d*x)*h % p) * ((e+f*x+w*y)*h % p) + ((a-b*x-d*y)*h % p) * ((f*y+g-w*x)*h % p)) % p = (q2*y+q3-q4*x)*h % p ∧
    (((b*y+c-d*x)*h % p) * ((f*y-g-w*x)*h % p) + ((a-b*x-d*y)*h % p) * ((e-f*x-w*y)*h % p)) % p = (q1-q2*x-q4*y)*h % p := by
  have i1 := id1 x y a b c d e f g w
  have i2 := id2 x y a b c d e f g w
  have i3 := id3 x y a b c d e f g w
  have i4 := id4 x y a b c d e f g w
  rw [← e1, ← e2, ← e4, hx] at i1 i4
  rw [← e2, ← e3, ← e4, hx] at i2 i3
  have s1 : 2 * q1 + 2 * q2 * x + 2 * q4 * y = 2 * (q1+q2*x+q4*y) := by clear i1 i2 i3 i4 e1 e2 e3 e4 hx hh; grind
  have s2 : 2 * q2 * y - 2 * q3 - 2 * q4 * x = 2 * (q2*y-q3-q4*x) := by clear i1 i2 i3 i4 e1 e2 e3 e4 hx hh s1; grind
  have s3 : 2 * q2 * y + 2 * q3 - 2 * q4 * x = 2 * (q2*y+q3-q4*x) := by clear i1 i2 i3 i4 e1 e2 e3 e4 hx hh s1 s2; grind
  have s4 : 2 * q1 - 2 * q2 * x - 2 * q4 * y = 2 * (q1-q2*x-q4*y) := by clear i1 i2 i3 i4 e1 e2 e3 e4 hx hh s1 s2 s3; grind
  rw [s1] at i1; rw [s2] at i2; rw [s3] at i3; rw [s4] at i4
  obtain ⟨k1, g1⟩ := ddef ((a+b*x+d*y)*h) p
  obtain ⟨k2, g2⟩ := ddef ((b*y-c-d*x)*h) p
  obtain ⟨k3, g3⟩ := ddef ((b*y+c-d*x)*h) p
  obtain ⟨k4, g4⟩ := ddef ((a-b*x-d*y)*h) p
  obtain ⟨l1, f1⟩ := ddef ((e+f*x+w*y)*h) p
  obtain ⟨l2, f2⟩ := ddef ((f*y-g-w*x)*h) p
  obtain ⟨l3, f3⟩ := ddef ((f*y+g-w*x)*h) p
  obtain ⟨l4, f4⟩ := ddef ((e-f*x-w*y)*h) p
  rw [g1, g2, g3, g4, f1, f2, f3, f4]
  exact ⟨hom_key hh _ _ _ _ _ _ _ _ _ _ i1, hom_key hh _ _ _ _ _ _ _ _ _ _ i2, hom_key hh _ _ _ _ _ _ _ _ _ _ i3, hom_key hh _ _ _ _ _ _ _ _ _ _ i4⟩
theorem id5 (x y a b c d : Int) : (a+b*x+d*y) * (a-b*x-d*y) - (b*y-c-d*x) * (b*y+c-d*x) = (a * a + b * b + c * c + d * d) - (b * b + d * d) * (x * x + y * y + 1) := by grind
theorem det_key {p h m : Int} (hh : 2 * h = p + 1) (A B C D k l k' l' n r : Int) (hq : A * B - C * D = 4 * n - r * (p * m)) : ((A * h - p * k) * (B * h - p * l) - (C * h - p * k') * (D * h - p * l')) % p = n % p := by
  refine cong (p * n + 2 * n - h * h * r * m - (A * h * l + k * B * h - p * k * l) + (C * h * l' + k' * D * h - p * k' * l')) ?_
  have h1 : (A * h - p * k) * (B * h - p * l) - (C * h - p * k') * (D * h - p * l') = h * h * (A * B - C * D) - p * (A * h * l + k * B * h - p * k * l) + p * (C * h * l' + k' * D * h - p * k' * l') := by clear hq hh; grind
  have h2 : h * h * (4 * n - r * (p * m)) = (2 * h) * (2 * h) * n - p * (h * h * r * m) := by clear h1 hq hh; grind
  rw [h1, hq, h2, hh]
  clear h1 h2 hq hh
  grind
theorem det_alg {p x y h m a b c d n : Int} (hh : 2 * h = p + 1) (hx : x * x + y * y + 1 = p * m) (hn : 4 * n = a * a + b * b + c * c + d * d) :
    (((a+b*x+d*y)*h % p) * ((a-b*x-d*y)*h % p) - ((b*y-c-d*x)*h % p) * ((b*y+c-d*x)*h % p)) % p = n % p := by
  have i5 := id5 x y a b c d
  rw [← hn, hx] at i5
  obtain ⟨k1, g1⟩ := ddef ((a+b*x+d*y)*h) p
  obtain ⟨k2, g2⟩ := ddef ((b*y-c-d*x)*h) p
  obtain ⟨k3, g3⟩ := ddef ((b*y+c-d*x)*h) p
  obtain ⟨k4, g4⟩ := ddef ((a-b*x-d*y)*h) p
  rw [g1, g2, g3, g4]
  exact det_key hh _ _ _ _ _ _ _ _ _ _ i5
theorem neg_alg {p u v : Int} (h : u + v = 0) : u % p = (0 - v % p) % p := by
  obtain ⟨k, g⟩ := ddef v p
  rw [g]
  refine cong (-k) ?_
  grind
/-- products of doubled numbers -/
theorem prod_par {a b c d e f g w r t : Int} (ha : a % 2 = r) (hb : b % 2 = r) (hc : c % 2 = r) (hd : d % 2 = r) (he : e % 2 = t) (hf : f % 2 = t) (hg : g % 2 = t) (hw : w % 2 = t) :
    ∃ u, 2 * ((a * e - b * f - c * g - d * w) / 2) = a * e - b * f - c * g - d * w ∧ 2 * ((a * f + b * e + c * w - d * g) / 2) = a * f + b * e + c * w - d * g ∧ 2 * ((a * g - b * w + c * e + d * f) / 2) = a * g - b * w + c * e + d * f ∧ 2 * ((a * w + b * g - c * f + d * e) / 2) = a * w + b * g - c * f + d * e ∧
      ((a * e - b * f - c * g - d * w) / 2) % 2 = u ∧ ((a * f + b * e + c * w - d * g) / 2) % 2 = u ∧ ((a * g - b * w + c * e + d * f) / 2) % 2 = u ∧ ((a * w + b * g - c * f + d * e) / 2) % 2 = u := by
  obtain ⟨a', rfl⟩ : ∃ a', a = 2 * a' + r := ⟨a / 2, by omega⟩
  obtain ⟨b', rfl⟩ : ∃ a', b = 2 * a' + r := ⟨b / 2, by omega⟩
  obtain ⟨c', rfl⟩ : ∃ a', c = 2 * a' + r := ⟨c / 2, by omega⟩
  obtain ⟨d', rfl⟩ : ∃ a', d = 2 * a' + r := ⟨d / 2, by omega⟩
  obtain ⟨e', rfl⟩ : ∃ a', e = 2 * a' + t := ⟨e / 2, by omega⟩
  obtain ⟨f', rfl⟩ : ∃ a', f = 2 * a' + t := ⟨f / 2, by omega⟩
  obtain ⟨g', rfl⟩ : ∃ a', g = 2 * a' + t := ⟨g / 2, by omega⟩
  obtain ⟨w', rfl⟩ : ∃ a', w = 2 * a' + t := ⟨w / 2, by omega⟩
  have hr : r = 0 ∨ r = 1 := by omega
  have ht : t = 0 ∨ t = 1 := by omega
  have mul : ∀ x y : Int, (2 * x + r) * (2 * y + t) = 4 * (x * y) + 2 * (x * t) + 2 * (y * r) + r * t := by intro x y; grind
  simp only [mul]
  refine ⟨(2 * (a' * e' - b' * f' - c' * g' - d' * w') + (a' * t + e' * r) - (b' * t + f' * r) - (c' * t + g' * r) - (d' * t + w' * r) - r * t) % 2, ?_⟩
  generalize a' * e' = P1; generalize b' * f' = P2; generalize c' * g' = P3; generalize d' * w' = P4
  generalize a' * f' = P5; generalize b' * e' = P6; generalize c' * w' = P7; generalize d' * g' = P8
  generalize a' * g' = P9; generalize b' * w' = P10; generalize c' * e' = P11; generalize d' * f' = P12
  generalize a' * w' = P13; generalize b' * g' = P14; generalize c' * f' = P15; generalize d' * e' = P16
  rcases hr with rfl | rfl <;> rcases ht with rfl | rfl <;> refine ⟨?_, ?_, ?_, ?_, ?_, ?_, ?_, ?_⟩ <;> omega
theorem norm_par {a b c d r : Int} (ha : a % 2 = r) (hb : b % 2 = r) (hc : c % 2 = r) (hd : d % 2 = r) : 4 * ((a * a + (b * b + (c * c + d * d))) / 4) = a * a + b * b + c * c + d * d := by
  obtain ⟨a', rfl⟩ : ∃ a', a = 2 * a' + r := ⟨a / 2, by omega⟩
  obtain ⟨b', rfl⟩ : ∃ a', b = 2 * a' + r := ⟨b / 2, by omega⟩
  obtain ⟨c', rfl⟩ : ∃ a', c = 2 * a' + r := ⟨c / 2, by omega⟩
  obtain ⟨d', rfl⟩ : ∃ a', d = 2 * a' + r := ⟨d / 2, by omega⟩
  have hr : r = 0 ∨ r = 1 := by omega
  have mul : ∀ x : Int, (2 * x + r) * (2 * x + r) = 4 * (x * x) + 4 * (x * r) + r * r := by intro x; grind
  simp only [mul]
  generalize a' * a' = P1; generalize b' * b' = P2; generalize c' * c' = P3; generalize d' * d' = P4
  rcases hr with rfl | rfl <;> omega
theorem linq (x y a b c d h : Int) : (a * h + b * h * x + d * h * y) = (a+b*x+d*y)*h ∧ (b * h * y - c * h - d * h * x) = (b * y - c - d * x)*h ∧ (b * h * y + c * h - d * h * x) = (b * y + c - d * x)*h ∧ (a * h - b * h * x - d * h * y) = (a-b*x-d*y)*h := ⟨by grind, by grind, by grind, by grind⟩
theorem lj1 (x y a b c d h : Int) : (a + -b * x + -d * y) * h = (a - b * x - d * y) * h := by grind
theorem lj4 (x y a b c d h : Int) : (a - -b * x - -d * y) * h = (a + b * x + d * y) * h := by grind
theorem lj2 (x y a b c d h : Int) : (-b * y - -c - -d * x) * h + (b * y - c - d * x) * h = 0 := by grind
theorem lj3 (x y a b c d h : Int) : (-b * y + -c - -d * x) * h + (b * y + c - d * x) * h = 0 := by grind
theorem Sm.up {n : Nat} {i : Int} (h : Sm n i) (hn : n ≤ 1000) : Sm 1000 i := ⟨Nat.lt_of_lt_of_le h.le (two_mono hn)⟩
theorem sm5 {p z : Int} (hp : p < 32) (h : 0 ≤ z ∧ z < p) : Sm 5 z := ⟨by omega⟩
structure Rest (p x y : Int) (one other : D) (olist : D) (t1 t2 t3 t4 u1 u2 u3 u4 v1 v2 v3 v4 n : Int) (q cq : D) : Prop where
  lt1 : m__law_table [one, .int p, .tuple [.int x, .int y]] = .ok (.tuple [.tuple [.int t1, .int t2], .tuple [.int t3, .int t4]])
  lt2 : m__law_table [other, .int p, .tuple [.int x, .int y]] = .ok (.tuple [.tuple [.int u1, .int u2], .tuple [.int u3, .int u4]])
  to1 : m_table_of [one, .int p] = .ok (.tuple [.tuple [.int t1, .int t2], .tuple [.int t3, .int t4]])
  to2 : m_table_of [olist, .int p] = .ok (.tuple [.tuple [.int u1, .int u2], .tuple [.int u3, .int u4]])
  ti : m__law_times [.tuple [.tuple [.int t1, .int t2], .tuple [.int t3, .int t4]], .tuple [.tuple [.int u1, .int u2], .tuple [.int u3, .int u4]], .int p] = .ok (.tuple [.tuple [.int v1, .int v2], .tuple [.int v3, .int v4]])
  tp : m_table_product [.tuple [.tuple [.int t1, .int t2], .tuple [.int t3, .int t4]], .tuple [.tuple [.int u1, .int u2], .tuple [.int u3, .int u4]], .int p] = .ok (.tuple [.tuple [.int v1, .int v2], .tuple [.int v3, .int v4]])
  pr : m__law_product [one, other] = .ok q
  tq : m_table_of [q, .int p] = .ok (.tuple [.tuple [.int v1, .int v2], .tuple [.int v3, .int v4]])
  nm : m__law_norm [one] = .ok (.int n)
  dt : m_determinant [.tuple [.tuple [.int t1, .int t2], .tuple [.int t3, .int t4]], .int p] = .ok (.int (n % p))
  cj : m__law_conjugate [one] = .ok cq
  tc : m_table_of [cq, .int p] = .ok (.tuple [.tuple [.int t4, .int ((0 - t2) % p)], .tuple [.int ((0 - t3) % p), .int t1]])
theorem rest {p x y m : Int} (hp0 : 0 < p) (hp1 : p < 32) (hh : 2 * ((p + 1) / 2) = p + 1) (hx : x * x + y * y + 1 = p * m) [Sm 5 p] [Sm 5 x] [Sm 5 y] (hco : m_check_odd [.int p] = .ok .none) (hroot : m_root_pair [.int p] = .ok (.tuple [.int x, .int y]))
    (a b c d e f g w r t : Int) (ha : a % 2 = r) (hb : b % 2 = r) (hc : c % 2 = r) (hd : d % 2 = r) (he : e % 2 = t) (hf : f % 2 = t) (hg : g % 2 = t) (hw : w % 2 = t) [Sm 200 a] [Sm 200 b] [Sm 200 c] [Sm 200 d] [Sm 200 e] [Sm 200 f] [Sm 200 g] [Sm 200 w] :
    ∃ t1 t2 t3 t4 u1 u2 u3 u4 v1 v2 v3 v4 n q cj, Rest p x y (.tuple [.int a, .int b, .int c, .int d]) (.tuple [.int e, .int f, .int g, .int w]) (.list [.int e, .int f, .int g, .int w]) t1 t2 t3 t4 u1 u2 u3 u4 v1 v2 v3 v4 n q cj := by
  -- the product
  obtain ⟨s, e1, e2, e3, e4, o1, o2, o3, o4⟩ := prod_par ha hb hc hd he hf hg hw
  have pr := e_product (n1 := 200) (n2 := 200) (n3 := 200) (n4 := 200) (k1 := 200) (k2 := 200) (k3 := 200) (k4 := 200) a b c d e f g w (by decide) (by decide) (by decide) (by decide) (by decide) (by decide) (by decide) (by decide)
  haveI s1 : Sm 1000 ((a * e - b * f - c * g - d * w) / 2) := Sm.up inferInstance (by decide)
  haveI s2 : Sm 1000 ((a * f + b * e + c * w - d * g) / 2) := Sm.up inferInstance (by decide)
  haveI s3 : Sm 1000 ((a * g - b * w + c * e + d * f) / 2) := Sm.up inferInstance (by decide)
  haveI s4 : Sm 1000 ((a * w + b * g - c * f + d * e) / 2) := Sm.up inferInstance (by decide)
  have hom := hom_alg hh hx e1 e2 e3 e4
  generalize (a * e - b * f - c * g - d * w) / 2 = q1 at pr o1 hom s1
  generalize (a * f + b * e + c * w - d * g) / 2 = q2 at pr o2 hom s2
  generalize (a * g - b * w + c * e + d * f) / 2 = q3 at pr o3 hom s3
  generalize (a * w + b * g - c * f + d * e) / 2 = q4 at pr o4 hom s4
  -- the norm
  have nm := e_norm (n1 := 200) (n2 := 200) (n3 := 200) (n4 := 200) a b c d (by decide) (by decide) (by decide) (by decide)
  have hn := norm_par ha hb hc hd
  generalize (a * a + (b * b + (c * c + d * d))) / 4 = n at nm hn
  haveI : Sm 1000 a := Sm.up (n := 200) inferInstance (by decide)
  haveI : Sm 1000 b := Sm.up (n := 200) inferInstance (by decide)
  haveI : Sm 1000 c := Sm.up (n := 200) inferInstance (by decide)
  haveI : Sm 1000 d := Sm.up (n := 200) inferInstance (by decide)
  haveI : Sm 1000 e := Sm.up (n := 200) inferInstance (by decide)
  haveI : Sm 1000 f := Sm.up (n := 200) inferInstance (by decide)
  haveI : Sm 1000 g := Sm.up (n := 200) inferInstance (by decide)
  haveI : Sm 1000 w := Sm.up (n := 200) inferInstance (by decide)
  have mod : ∀ z : Int, 0 ≤ z % p ∧ z % p < p := fun z => ⟨Int.emod_nonneg _ (by omega), Int.emod_lt_of_pos _ hp0⟩
  have lt1 := e_table p x y a b c d hp0
  have lt2 := e_table p x y e f g w hp0
  have to1 := e_table_of p x y a b c d r hp0 hroot ha hb hc hd _ (.inl rfl)
  have to2 := e_table_of p x y e f g w t hp0 hroot he hf hg hw _ (.inr rfl)
  obtain ⟨l1, l2, l3, l4⟩ := linq x y a b c d ((p + 1) / 2)
  rw [l1, l2, l3, l4] at to1
  obtain ⟨l1, l2, l3, l4⟩ := linq x y e f g w ((p + 1) / 2)
  rw [l1, l2, l3, l4] at to2
  have tq := e_table_of p x y q1 q2 q3 q4 s hp0 hroot o1 o2 o3 o4 _ (.inl rfl)
  obtain ⟨l1, l2, l3, l4⟩ := linq x y q1 q2 q3 q4 ((p + 1) / 2)
  rw [l1, l2, l3, l4, ← hom.1, ← hom.2.1, ← hom.2.2.1, ← hom.2.2.2] at tq
  have dal := det_alg (a := a) (b := b) (c := c) (d := d) hh hx hn
  -- the conjugate
  have cj := e_conj a b c d
  have tc := e_table_of p x y a (-b) (-c) (-d) r hp0 hroot ha (by omega) (by omega) (by omega) _ (.inl rfl)
  obtain ⟨l1, l2, l3, l4⟩ := linq x y a (-b) (-c) (-d) ((p + 1) / 2)
  have j1 : (a + -b * x + -d * y) * ((p + 1) / 2) = (a - b * x - d * y) * ((p + 1) / 2) := lj1 x y a b c d _
  have j4 : (a - -b * x - -d * y) * ((p + 1) / 2) = (a + b * x + d * y) * ((p + 1) / 2) := lj4 x y a b c d _
  have j2 : (-b * y - -c - -d * x) * ((p + 1) / 2) + (b * y - c - d * x) * ((p + 1) / 2) = 0 := lj2 x y a b c d _
  have j3 : (-b * y + -c - -d * x) * ((p + 1) / 2) + (b * y + c - d * x) * ((p + 1) / 2) = 0 := lj3 x y a b c d _
  rw [l1, l2, l3, l4, j1, j4, neg_alg (p := p) j2, neg_alg (p := p) j3] at tc
  have c1 := mod ((a+b*x+d*y)*((p+1)/2))
  have c2 := mod ((b*y-c-d*x)*((p+1)/2))
  have c3 := mod ((b*y+c-d*x)*((p+1)/2))
  have c4 := mod ((a-b*x-d*y)*((p+1)/2))
  have d1 := mod ((e+f*x+w*y)*((p+1)/2))
  have d2 := mod ((f*y-g-w*x)*((p+1)/2))
  have d3 := mod ((f*y+g-w*x)*((p+1)/2))
  have d4 := mod ((e-f*x-w*y)*((p+1)/2))
  generalize (a+b*x+d*y)*((p+1)/2) % p = t1 at *
  generalize (b*y-c-d*x)*((p+1)/2) % p = t2 at *
  generalize (b*y+c-d*x)*((p+1)/2) % p = t3 at *
  generalize (a-b*x-d*y)*((p+1)/2) % p = t4 at *
  generalize (e+f*x+w*y)*((p+1)/2) % p = u1 at *
  generalize (f*y-g-w*x)*((p+1)/2) % p = u2 at *
  generalize (f*y+g-w*x)*((p+1)/2) % p = u3 at *
  generalize (e-f*x-w*y)*((p+1)/2) % p = u4 at *
  haveI := sm5 hp1 c1; haveI := sm5 hp1 c2; haveI := sm5 hp1 c3; haveI := sm5 hp1 c4
  haveI := sm5 hp1 d1; haveI := sm5 hp1 d2; haveI := sm5 hp1 d3; haveI := sm5 hp1 d4
  have ti := e_times p t1 t2 t3 t4 u1 u2 u3 u4 hp0
  have tp := e_table_product p t1 t2 t3 t4 u1 u2 u3 u4 hp0 hco c1 c2 c3 c4 d1 d2 d3 d4
  have dt := e_determinant p t1 t2 t3 t4 hp0 hco c1 c2 c3 c4
  rw [dal] at dt
  exact ⟨_, _, _, _, _, _, _, _, _, _, _, _, _, _, _, ⟨lt1, lt2, to1, to2, ti, tp, pr, tq, nm, dt, cj, tc⟩⟩
theorem bd_sm {z : Int} (h : Bd z) : Sm 200 z := ⟨Nat.lt_of_lt_of_le (show z.natAbs < 2 ^ 70 by unfold Bd at h; omega) (two_mono (by decide))⟩
theorem nel (a b c d e f g w : Int) : neD (.list [.tuple [.tuple [.int a, .int b], .tuple [.int c, .int d]], .tuple [.tuple [.int e, .int f], .tuple [.int g, .int w]]]) (.list [.tuple [.tuple [.int a, .int b], .tuple [.int c, .int d]], .tuple [.tuple [.int e, .int f], .tuple [.int g, .int w]]]) = some (.bool false) := by
  rw [neD_e _ _ (by rfl) (by rfl), PySem.SeqAt.eqv_refl_plain _ (by rfl)]; rfl
theorem bd_sm70 {z : Int} (h : Bd z) : Sm 70 z := ⟨by unfold Bd at h; omega⟩
theorem Sm.wk {n m : Nat} {i : Int} (h : Sm n i) (hn : n ≤ m) : Sm m i := ⟨Nat.lt_of_lt_of_le h.le (two_mono hn)⟩
theorem big_sm {z y14 y15 : Int} (h : Bd z) (h1 : 0 ≤ y14 ∧ y14 < 999) (h2 : 0 ≤ y15 ∧ y15 < 99) : Sm 200 (z * 2 * (100000000000000000 + y14) + 2 * y15) := by
  haveI := bd_sm70 h
  haveI : Sm 10 y14 := ⟨by omega⟩
  haveI : Sm 7 y15 := ⟨by omega⟩
  exact Sm.wk inferInstance (by decide)
theorem big_par (z u v : Int) : (z * 2 * u + 2 * v) % 2 = 0 := by
  have : z * 2 * u = 2 * (z * u) := by grind
  rw [this]; omega
theorem m_law_true (ns : List Int) (hns : ns.length ≤ 63) : m_law [.list (ns.map .int)] = .ok (.bool true) := by
  obtain ⟨zs, hnum, hlen, h9⟩ := e_numbers ns hns 20 (by decide)
  have hnum : m__law_numbers [.list (ns.map .int), .int 20] = .ok (.list (zs.map .int)) := hnum
  obtain ⟨p, hp, hodd⟩ := e_odd zs h9 (by omega)
  obtain ⟨x, y, hroot, hpairs, hx0, hx1, hy0, hy1, hpp⟩ := e_pair p hp
  have hco := e_check_odd p hp
  have p0 : 0 < p ∧ p < 32 := by rcases hp with rfl | rfl | rfl | rfl | rfl | rfl | rfl <;> decide
  have hp0 := p0.1
  have hh : 2 * ((p + 1) / 2) = p + 1 := by rcases hp with rfl | rfl | rfl | rfl | rfl | rfl | rfl <;> decide
  obtain ⟨m, hx⟩ : ∃ m, x * x + y * y + 1 = p * m := by
    rcases hpp with ⟨rfl, rfl, rfl⟩ | ⟨rfl, rfl, rfl⟩ | ⟨rfl, rfl, rfl⟩ | ⟨rfl, rfl, rfl⟩ | ⟨rfl, rfl, rfl⟩ | ⟨rfl, rfl, rfl⟩ | ⟨rfl, rfl, rfl⟩
    · exact ⟨1, by decide⟩
    · exact ⟨1, by decide⟩
    · exact ⟨2, by decide⟩
    · exact ⟨1, by decide⟩
    · exact ⟨2, by decide⟩
    · exact ⟨1, by decide⟩
    · exact ⟨2, by decide⟩
  haveI : Sm 5 p := ⟨by omega⟩
  haveI : Sm 5 x := ⟨by omega⟩
  haveI : Sm 5 y := ⟨by omega⟩
  obtain ⟨z1, hz1, h10, _⟩ := at_ex h9 1 (by decide) (by omega)
  obtain ⟨z14, hz14, h140, _⟩ := at_ex h9 14 (by decide) (by omega)
  obtain ⟨z15, hz15, h150, _⟩ := at_ex h9 15 (by decide) (by omega)
  have q1 := e_pick (zs.map .int) 1 3 z1 (by decide) hz1
  have q14 := e_pick (zs.map .int) 14 999 z14 (by decide) hz14
  have q15 := e_pick (zs.map .int) 15 99 z15 (by decide) hz15
  have w14 : 0 ≤ z14 % 999 ∧ z14 % 999 < 999 := by omega
  have w15 : 0 ≤ z15 % 99 ∧ z15 % 99 < 99 := by omega
  generalize z14 % 999 = y14 at q14 w14
  generalize z15 % 99 = y15 at q15 w15
  have pw20 : powD (.int 10) (.int 20) = some (.int 100000000000000000000) := by kernel_rfl
  have pw17 : powD (.int 10) (.int 17) = some (.int 100000000000000000) := by kernel_rfl
  have hsz : z1 % 3 = 0 ∨ z1 % 3 = 1 ∨ z1 % 3 = 2 := by omega
  rcases hsz with hz | hz | hz <;> rw [hz] at q1
  · obtain ⟨a, b, c, d, r, hA, ha, hb, hc, hd, ba, bb, bc, bd⟩ := e_number2 zs h9 (by omega) 1000 (by decide) (by decide)
    obtain ⟨e, f, g, w, t, hB, he, hf, hg, hw, be, bf, bg, bw⟩ := e_number8 zs h9 (by omega) 1000 (by decide) (by decide)
    haveI := bd_sm ba; haveI := bd_sm bb; haveI := bd_sm bc; haveI := bd_sm bd
    haveI := bd_sm be; haveI := bd_sm bf; haveI := bd_sm bg; haveI := bd_sm bw
    obtain ⟨t1, t2, t3, t4, u1, u2, u3, u4, v1, v2, v3, v4, n, q, cq, R⟩ := rest hp0 p0.2 hh hx hco hroot a b c d e f g w r t ha hb hc hd he hf hg hw
    unfold m_law b_law
    simp (disch := first | assumption | decide) [runD_e, rho0, mVar_succ, wipeR, hnum, hodd, hpairs, q1, hA, hB, pw20, R.lt1, R.lt2, R.to1, R.to2, R.ti, R.tp, R.pr, R.tq, R.nm, R.dt, R.cj, R.tc, nel, modD_e]
  · obtain ⟨a, b, c, d, r, hA, ha, hb, hc, hd, ba, bb, bc, bd⟩ := e_number2 zs h9 (by omega) 9 (by decide) (by decide)
    obtain ⟨e, f, g, w, t, hB, he, hf, hg, hw, be, bf, bg, bw⟩ := e_number8 zs h9 (by omega) 9 (by decide) (by decide)
    haveI := bd_sm ba; haveI := bd_sm bb; haveI := bd_sm bc; haveI := bd_sm bd
    haveI := bd_sm be; haveI := bd_sm bf; haveI := bd_sm bg; haveI := bd_sm bw
    obtain ⟨t1, t2, t3, t4, u1, u2, u3, u4, v1, v2, v3, v4, n, q, cq, R⟩ := rest hp0 p0.2 hh hx hco hroot a b c d e f g w r t ha hb hc hd he hf hg hw
    unfold m_law b_law
    simp (disch := first | assumption | decide) [runD_e, rho0, mVar_succ, wipeR, hnum, hodd, hpairs, q1, hA, hB, pw20, R.lt1, R.lt2, R.to1, R.to2, R.ti, R.tp, R.pr, R.tq, R.nm, R.dt, R.cj, R.tc, nel, modD_e]
  · obtain ⟨a, b, c, d, r, hA, ha, hb, hc, hd, ba, bb, bc, bd⟩ := e_number2 zs h9 (by omega) 100000000000000000000 (by decide) (by decide)
    obtain ⟨e, f, g, w, t, hB, he, hf, hg, hw, be, bf, bg, bw⟩ := e_number8 zs h9 (by omega) 100000000000000000000 (by decide) (by decide)
    haveI := big_sm ba w14 w15; haveI := big_sm bb w14 w15; haveI := big_sm bc w14 w15; haveI := big_sm bd w14 w15
    haveI := bd_sm be; haveI := bd_sm bf; haveI := bd_sm bg; haveI := bd_sm bw
    obtain ⟨t1, t2, t3, t4, u1, u2, u3, u4, v1, v2, v3, v4, n, q, cq, R⟩ := rest hp0 p0.2 hh hx hco hroot (a * 2 * (100000000000000000 + y14) + 2 * y15) (b * 2 * (100000000000000000 + y14) + 2 * y15) (c * 2 * (100000000000000000 + y14) + 2 * y15) (d * 2 * (100000000000000000 + y14) + 2 * y15) e f g w 0 t (big_par _ _ _) (big_par _ _ _) (big_par _ _ _) (big_par _ _ _) he hf hg hw
    haveI := bd_sm70 ba; haveI := bd_sm70 bb; haveI := bd_sm70 bc; haveI := bd_sm70 bd
    haveI : Sm 10 y14 := ⟨by omega⟩
    haveI : Sm 7 y15 := ⟨by omega⟩
    unfold m_law b_law
    simp (disch := first | assumption | decide) [runD_e, rho0, mVar_succ, wipeR, hnum, hodd, hpairs, q1, q14, q15, hA, hB, pw20, pw17, R.lt1, R.lt2, R.to1, R.to2, R.ti, R.tp, R.pr, R.tq, R.nm, R.dt, R.cj, R.tc, nel, modD_e]
end L2.VL.K79

open PySem PySem.W PyProof.Rows
set_option maxHeartbeats 0 in
theorem PySem.Challenge.cw_turnprimes_k79_tables_holds : PySem.Challenge.rw_turnprimes_k79_tables.Holds := by
  w_on; o_law; k_head; (case hw => w_witness2)
  k_fill
  refine L2.VL.walk_ofL (l := PySem.Challenge.rw_turnprimes_k79_tables) (n := 63) (k := 7) (x := "_law_script") (CX := fun w => L2.CX PySem.Challenge.rw_turnprimes_k79_tables.prog w) (sp := fun w => L2.VL.spLaw _) rfl (by decide) rfl ⟨rfl, by decide, by decide⟩ (fun w h Y => PySem.W.kIn_of Y) ?F (fun _ _ a ns hl _ hS => ⟨a, ns, rfl, hS, hl, fun _ _ h => h⟩) (fun _ _ _ _ _ h => L2.VL.no_cx h)
  case F =>
    intro w mg fa h KX G hX hmg
    refine' L2.VL.fin_mk L2.VL.K79.m_law_true (L2.VL.K79.all_mk KX G hmg ?a__law_row ?l__law_row ?c__law_row ?k__law_row ?a__law_numbers ?l__law_numbers ?c__law_numbers ?k__law_numbers ?a__law_pick ?l__law_pick ?c__law_pick ?k__law_pick ?a__law_odd ?l__law_odd ?c__law_odd ?k__law_odd ?a__law_number ?l__law_number ?c__law_number ?k__law_number ?a__law_pairs ?l__law_pairs ?c__law_pairs ?k__law_pairs ?a__law_table ?l__law_table ?c__law_table ?k__law_table ?a_is_number ?l_is_number ?c_is_number ?k_is_number ?a_check_number ?l_check_number ?c_check_number ?k_check_number ?a_whole_primes ?l_whole_primes ?c_whole_primes ?k_whole_primes ?a_is_prime ?l_is_prime ?c_is_prime ?k_is_prime ?a_check_prime ?l_check_prime ?c_check_prime ?k_check_prime ?a_check_odd ?l_check_odd ?c_check_odd ?k_check_odd ?a_roots_by_square ?l_roots_by_square ?c_roots_by_square ?k_roots_by_square ?a_root_pair ?l_root_pair ?c_root_pair ?k_root_pair ?a_table_of ?l_table_of ?c_table_of ?k_table_of ?a__law_times ?l__law_times ?c__law_times ?k__law_times ?a_is_pair ?l_is_pair ?c_is_pair ?k_is_pair ?a_check_table ?l_check_table ?c_check_table ?k_check_table ?a_table_product ?l_table_product ?c_table_product ?k_table_product ?a__law_product ?l__law_product ?c__law_product ?k__law_product ?a_determinant ?l_determinant ?c_determinant ?k_determinant ?a__law_norm ?l__law_norm ?c__law_norm ?k__law_norm ?a__law_conjugate ?l__law_conjugate ?c__law_conjugate ?k__law_conjugate ?a_law ?l_law ?c_law ?k_law ?z_abs ?z_all ?z_int ?z_isinstance ?z_len ?z_list ?z_max ?z_range ?z_sum ?z_tuple ?z_zip ?q_MOST_ODD ?q_MOST_VALUE ?q_PARTS ?xa_InvalidNumber ?xe_InvalidNumber ?xk_InvalidNumber ?xs_InvalidNumber ?xt_InvalidNumber ?xa_InvalidQuestion ?xe_InvalidQuestion ?xk_InvalidQuestion ?xs_InvalidQuestion ?xt_InvalidQuestion)
    (case a__law_row => k_is); (case l__law_row => k_is); (case c__law_row => k_is); (case k__law_row => k_is); (case a__law_numbers => k_is); (case l__law_numbers => k_is); (case c__law_numbers => k_is); (case k__law_numbers => k_is); (case a__law_pick => k_is); (case l__law_pick => k_is); (case c__law_pick => k_is); (case k__law_pick => k_is); (case a__law_odd => k_is); (case l__law_odd => k_is); (case c__law_odd => k_is); (case k__law_odd => k_is); (case a__law_number => k_is); (case l__law_number => k_is); (case c__law_number => k_is); (case k__law_number => k_is); (case a__law_pairs => k_is); (case l__law_pairs => k_is); (case c__law_pairs => k_is); (case k__law_pairs => k_is); (case a__law_table => k_is); (case l__law_table => k_is); (case c__law_table => k_is); (case k__law_table => k_is); (case a_is_number => k_is); (case l_is_number => k_is); (case c_is_number => k_is); (case k_is_number => k_is); (case a_check_number => k_is); (case l_check_number => k_is); (case c_check_number => k_is); (case k_check_number => k_is); (case a_whole_primes => k_is); (case l_whole_primes => k_is); (case c_whole_primes => k_is); (case k_whole_primes => k_is); (case a_is_prime => k_is); (case l_is_prime => k_is); (case c_is_prime => k_is); (case k_is_prime => k_is); (case a_check_prime => k_is); (case l_check_prime => k_is); (case c_check_prime => k_is); (case k_check_prime => k_is); (case a_check_odd => k_is); (case l_check_odd => k_is); (case c_check_odd => k_is); (case k_check_odd => k_is); (case a_roots_by_square => k_is); (case l_roots_by_square => k_is); (case c_roots_by_square => k_is); (case k_roots_by_square => k_is); (case a_root_pair => k_is); (case l_root_pair => k_is); (case c_root_pair => k_is); (case k_root_pair => k_is); (case a_table_of => k_is); (case l_table_of => k_is); (case c_table_of => k_is); (case k_table_of => k_is); (case a__law_times => k_is); (case l__law_times => k_is); (case c__law_times => k_is); (case k__law_times => k_is); (case a_is_pair => k_is); (case l_is_pair => k_is); (case c_is_pair => k_is); (case k_is_pair => k_is); (case a_check_table => k_is); (case l_check_table => k_is); (case c_check_table => k_is); (case k_check_table => k_is); (case a_table_product => k_is); (case l_table_product => k_is); (case c_table_product => k_is); (case k_table_product => k_is); (case a__law_product => k_is); (case l__law_product => k_is); (case c__law_product => k_is); (case k__law_product => k_is); (case a_determinant => k_is); (case l_determinant => k_is); (case c_determinant => k_is); (case k_determinant => k_is); (case a__law_norm => k_is); (case l__law_norm => k_is); (case c__law_norm => k_is); (case k__law_norm => k_is); (case a__law_conjugate => k_is); (case l__law_conjugate => k_is); (case c__law_conjugate => k_is); (case k__law_conjugate => k_is); (case a_law => k_is); (case l_law => k_is); (case c_law => k_is); (case k_law => k_is); (case z_abs => k_is); (case z_all => k_is); (case z_int => k_is); (case z_isinstance => k_is); (case z_len => k_is); (case z_list => k_is); (case z_max => k_is); (case z_range => k_is); (case z_sum => k_is); (case z_tuple => k_is); (case z_zip => k_is); (case q_MOST_ODD => exact L2.VL.gc_loose hX (by repeat (first | exact List.Mem.head _ | apply List.Mem.tail))); (case q_MOST_VALUE => exact L2.VL.gc_loose hX (by repeat (first | exact List.Mem.head _ | apply List.Mem.tail))); (case q_PARTS => k_is); (case xa_InvalidNumber => k_is); (case xe_InvalidNumber => k_exc); (case xk_InvalidNumber => k_is); (case xs_InvalidNumber => k_is); (case xt_InvalidNumber => k_is); (case xa_InvalidQuestion => k_is); (case xe_InvalidQuestion => k_exc); (case xk_InvalidQuestion => k_is); (case xs_InvalidQuestion => k_is); (case xt_InvalidQuestion => k_is)
