import PyProof.Rows.All
import Wide.All
import OpenK.AllK
import Wide.FinOn
import PyProof.EqAt
import PyProof.EqKinds
import PyProof.TupleCall
import HandS.ForMost
import HandS.Exc
import HandS.ExcOwn
import HandS.WordsExc
import HandS.SetKeys
import HandS.StrMore
import HandS.Small
import HandS.HeadHook1
import HandS.ListItems
import HandS.DictTup
import KE.SortData
import KE.KDictPairs
import KE.KDictWalk
import HandS.Deep
import KE.Datum
import HandS.Iter
import HandS.ForSpec
import KE.GoesRaise
import PySem.Challenge.RW_allfirst_k60_whole_two_plans_judged
import HandS.Conv
import HandS.TryMany
import HandS.IsInst
import HandS.ExcIs
import OpenK.KDescr
import KE.KStateDown
import HandS.Ends
import HandS.More
import HandS.Defaults
import HandS.Head0
import HandS.Head1
import HandS.Head2
import HandS.HeadEnd
import HandS.HeadHook2
/-! text RL1 -/
set_option Elab.async false
set_option linter.all false
set_option maxRecDepth 100000
set_option maxHeartbeats 2000000
namespace Rl
open PySem PySem.Spec PyProof.Rows L2

/-! ### heaps -/
/-- from the sure part B of the heap H to the sure part B2 of H2: nothing is changed, what is new in B2 is new in H2 too -/
structure Grow (B H B2 H2 : Hp) : Prop where
  b : Same B B2
  i : Same B2 H2
  h : Same H H2
  f : ∀ a, B2 a ≠ none → B a ≠ none ∨ H a = none
theorem Same.none_of {H H' : Hp} (e : Same H H') {a : Addr} (h : H' a = none) : H a = none := e.free h
theorem Grow.refl {B H : Hp} (h : Same B H) : Grow B H B H := ⟨Same.refl _, h, Same.refl _, fun _ q => .inl q⟩
theorem Grow.trans {B H B2 H2 B3 H3 : Hp} (x : Grow B H B2 H2) (y : Grow B2 H2 B3 H3) : Grow B H B3 H3 :=
  ⟨x.b.trans y.b, y.i, x.h.trans y.h, fun a q => by
    rcases y.f a q with z | z
    · exact x.f a z
    · exact .inr (x.h.free z)⟩
/-- a heap grown that leaves the sure part as it is -/
theorem Grow.stay {B H H2 : Hp} (h : Same B H) (e : Same H H2) : Grow B H B H2 := ⟨Same.refl _, h.trans e, e, fun _ q => .inl q⟩
theorem Grow.small {B H B2 H2 : Hp} (h : Same B H) (x : Grow B H B2 H2) : Grow B H B H2 := Grow.stay h x.h
theorem upd_none {H : Hp} {a : Addr} {o : HO} {b : Addr} (h : upd H a o b = none) : b ≠ a ∧ H b = none := by
  by_cases e : b = a
  · subst e; rw [upd_same] at h; cases h
  · rw [upd_ne e] at h; exact ⟨e, h⟩
theorem same_new {H : Hp} {p : Addr} (h : H p = none) (o : HO) : Same H (upd H p o) := fun b u q => by rw [upd_ne (ne_of_none q h)]; exact q
theorem same_upd2 {B H : Hp} {p : Addr} (e : Same B H) (o : HO) : Same (upd B p o) (upd H p o) := fun b u q => by
  by_cases h : b = p
  · subst h; rw [upd_same] at q ⊢; exact q
  · rw [upd_ne h] at q ⊢; exact e _ _ q
/-- a new object is sure -/
theorem Grow.new {B H : Hp} {p : Addr} (e : Same B H) (h : H p = none) (o : HO) : Grow B H (upd B p o) (upd H p o) :=
  ⟨same_new (e.free h) o, same_upd2 e o, same_new h o, fun a q => by
    by_cases z : a = p
    · subst z; exact .inr h
    · rw [upd_ne z] at q; exact .inl q⟩

/-! ### what a value stands for -/
structure Rp where
  ok : Hp → V → Prop
  mono : ∀ {H H' : Hp} {v : V}, Same H H' → ok H v → ok H' v
def Oks (H : Hp) : List Rp → List V → Prop
  | [], [] => True
  | r :: rs, v :: vs => r.ok H v ∧ Oks H rs vs
  | _, _ => False
theorem Oks.mono {H H' : Hp} (e : Same H H') : ∀ {rs : List Rp} {vs : List V}, Oks H rs vs → Oks H' rs vs
  | [], [], _ => trivial
  | r :: rs, v :: vs, h => ⟨r.mono e h.1, Oks.mono e h.2⟩
theorem Oks.length {H : Hp} : ∀ {rs : List Rp} {vs : List V}, Oks H rs vs → vs.length = rs.length
  | [], [], _ => rfl
  | _ :: rs, _ :: vs, h => by
    show vs.length + 1 = rs.length + 1
    rw [Oks.length h.2]
theorem Oks.get {H : Hp} : ∀ {rs : List Rp} {vs : List V} {i : Nat} {r : Rp}, Oks H rs vs → rs[i]? = some r → ∃ v, vs[i]? = some v ∧ r.ok H v
  | [], [], i, r, _, e => by simp at e
  | r0 :: rs, v :: vs, 0, r, h, e => by
    have : r0 = r := by simpa using e
    subst this
    exact ⟨v, rfl, h.1⟩
  | r0 :: rs, v :: vs, i + 1, r, h, e => by
    obtain ⟨u, h1, h2⟩ := Oks.get (i := i) h.2 (by simpa using e)
    exact ⟨u, by simpa using h1, h2⟩
theorem Oks.getV {H : Hp} : ∀ {rs : List Rp} {vs : List V} {i : Nat} {v : V}, Oks H rs vs → vs[i]? = some v → ∃ r, rs[i]? = some r ∧ r.ok H v
  | [], [], i, r, _, e => by simp at e
  | r0 :: rs, v0 :: vs, 0, v, h, e => by
    have : v0 = v := by simpa using e
    subst this
    exact ⟨r0, rfl, h.1⟩
  | r0 :: rs, v0 :: vs, i + 1, v, h, e => by
    obtain ⟨u, h1, h2⟩ := Oks.getV (i := i) h.2 (by simpa using e)
    exact ⟨u, by simpa using h1, h2⟩
theorem Oks.append {H : Hp} : ∀ {rs qs : List Rp} {vs ws : List V}, Oks H rs vs → Oks H qs ws → Oks H (rs ++ qs) (vs ++ ws)
  | [], _, [], _, _, h => h
  | _ :: _, _, _ :: _, _, h, h2 => ⟨h.1, Oks.append h.2 h2⟩
theorem Oks.snoc {H : Hp} {rs : List Rp} {vs : List V} {r : Rp} {v : V} (h : Oks H rs vs) (q : r.ok H v) : Oks H (rs ++ [r]) (vs ++ [v]) := Oks.append h ⟨q, trivial⟩
theorem Oks.set {H : Hp} : ∀ {rs : List Rp} {vs : List V} {r : Rp} {v : V} (i : Nat), Oks H rs vs → r.ok H v → Oks H (rs.set i r) (vs.set i v)
  | [], [], _, _, _, _, _ => trivial
  | _ :: _, _ :: _, _, _, 0, h, q => ⟨q, h.2⟩
  | _ :: _, _ :: _, _, _, i + 1, h, q => ⟨h.1, Oks.set i h.2 q⟩
theorem Oks.drop {H : Hp} : ∀ {rs : List Rp} {vs : List V} (n : Nat), Oks H rs vs → Oks H (rs.drop n) (vs.drop n)
  | _, _, 0, h => by simpa using h
  | [], [], _ + 1, _ => trivial
  | _ :: _, _ :: _, n + 1, h => Oks.drop n h.2
theorem Oks.take {H : Hp} : ∀ {rs : List Rp} {vs : List V} (n : Nat), Oks H rs vs → Oks H (rs.take n) (vs.take n)
  | [], [], 0, _ => trivial
  | _ :: _, _ :: _, 0, _ => trivial
  | [], [], _ + 1, _ => trivial
  | _ :: _, _ :: _, n + 1, h => ⟨h.1, Oks.take n h.2⟩
/-- items of one kind -/
theorem Oks.of {H : Hp} {α : Type} {f : α → Rp} {g : α → V} (h : ∀ x, (f x).ok H (g x)) : ∀ xs : List α, Oks H (xs.map f) (xs.map g)
  | [] => trivial
  | x :: r => ⟨h x, Oks.of h r⟩
theorem Oks.eqs {H : Hp} {α : Type} {f : α → Rp} {g : α → V} (h : ∀ x v, (f x).ok H v → v = g x) : ∀ {xs : List α} {vs : List V}, Oks H (xs.map f) vs → vs = xs.map g
  | [], [], _ => rfl
  | x :: r, v :: vs, q => by
    show v :: vs = g x :: r.map g
    rw [h x v q.1, Oks.eqs h q.2]
theorem Oks.nil {H : Hp} {vs : List V} (h : Oks H [] vs) : vs = [] := by
  cases vs with
  | nil => rfl
  | cons _ _ => exact h.elim
theorem Oks.cons {H : Hp} {r : Rp} {rs : List Rp} {vs : List V} (h : Oks H (r :: rs) vs) : ∃ v ws, vs = v :: ws ∧ r.ok H v ∧ Oks H rs ws := by
  cases vs with
  | nil => exact h.elim
  | cons v ws => exact ⟨v, ws, rfl, h⟩
theorem Oks.one {H : Hp} {r : Rp} {vs : List V} (h : Oks H [r] vs) : ∃ v, vs = [v] ∧ r.ok H v := by
  obtain ⟨v, ws, rfl, h1, h2⟩ := h.cons
  rw [h2.nil]
  exact ⟨v, rfl, h1⟩
theorem Oks.two {H : Hp} {r q : Rp} {vs : List V} (h : Oks H [r, q] vs) : ∃ v u, vs = [v, u] ∧ r.ok H v ∧ q.ok H u := by
  obtain ⟨v, ws, rfl, h1, h2⟩ := h.cons
  obtain ⟨u, rfl, h3⟩ := h2.one
  exact ⟨v, u, rfl, h1, h3⟩

def rV (x : V) : Rp := ⟨fun _ v => v = x, fun _ h => h⟩
abbrev rI (i : Int) : Rp := rV (.int i)
abbrev rS (s : Str) : Rp := rV (.str s)
abbrev rB (b : Bool) : Rp := rV (.bl b)
abbrev rN : Rp := rV .non
def rL (rs : List Rp) : Rp := ⟨fun H v => ∃ p vs, v = .ref p ∧ H p = some (.lst vs) ∧ Oks H rs vs, fun e ⟨p, vs, h1, h2, h3⟩ => ⟨p, vs, h1, e _ _ h2, h3.mono e⟩⟩
def rT (rs : List Rp) : Rp := ⟨fun H v => ∃ p vs, v = .ref p ∧ H p = some (.tup vs) ∧ Oks H rs vs, fun e ⟨p, vs, h1, h2, h3⟩ => ⟨p, vs, h1, e _ _ h2, h3.mono e⟩⟩
def okD (kvs : List (Key × Rp)) (H : Hp) (v : V) : Prop := ∃ (p : Addr) (ws : List (Key × V)), v = .ref p ∧ H p = some (.dK ws) ∧ ws.map Prod.fst = kvs.map Prod.fst ∧ Oks H (kvs.map Prod.snd) (ws.map Prod.snd)
def rD (kvs : List (Key × Rp)) : Rp := ⟨okD kvs, fun e ⟨p, ws, h1, h2, h3, h4⟩ => ⟨p, ws, h1, e _ _ h2, h3, h4.mono e⟩⟩
/-- an instance of the class at C -/
def okO (C : Addr) (fs : List (Str × Rp)) (H : Hp) (v : V) : Prop := ∃ (p dx : Addr) (ws : List (Str × V)), v = .ref p ∧ H p = some (.ins C dx ws) ∧ ws.map Prod.fst = fs.map Prod.fst ∧ Oks H (fs.map Prod.snd) (ws.map Prod.snd)
def rO (C : Addr) (fs : List (Str × Rp)) : Rp := ⟨okO C fs, fun e ⟨p, dx, ws, h1, h2, h3, h4⟩ => ⟨p, dx, ws, h1, e _ _ h2, h3, h4.mono e⟩⟩
/-- a list that is read (tracked, frozen or the module's) of ints -/
def rQ (K : PySem.W.Frag) (ns : List Int) : Rp := ⟨fun H v => ∃ p, v = .ref p ∧ SqL K H p (ns.map V.int), fun e ⟨p, h1, h2⟩ => ⟨p, h1, e.seq h2⟩⟩
theorem rL_rQ {K : PySem.W.Frag} {ns : List Int} {H : Hp} {v : V} (h : (rL (ns.map rI)).ok H v) : (rQ K ns).ok H v := by
  obtain ⟨p, vs, rfl, h2, h3⟩ := h
  have e : vs = ns.map V.int := Oks.eqs (fun _ _ q => q) h3
  subst e
  exact ⟨p, rfl, SqL.of h2⟩

/-! ### what the slots hold -/
inductive Sl where
  | no
  | dat (r : Rp)
  /-- a list of the def's own, that is still changed -/
  | aL (rs : List Rp)
  /-- a dict of the def's own -/
  | aD (kvs : List (Key × Rp))
def Sl.isA : Sl → Bool
  | .aL _ => true
  | .aD _ => true
  | _ => false
def SlOk (H0 B H : Hp) : Option V → Sl → Prop
  | _, .no => True
  | some v, .dat r => r.ok B v
  | some v, .aL rs => ∃ p vs, v = .ref p ∧ H p = some (.lst vs) ∧ B p = none ∧ H0 p = none ∧ Oks B rs vs
  | some v, .aD kvs => ∃ (p : Addr) (ws : List (Key × V)), v = .ref p ∧ H p = some (.dK ws) ∧ B p = none ∧ H0 p = none ∧ ws.map Prod.fst = kvs.map Prod.fst ∧ Oks B (kvs.map Prod.snd) (ws.map Prod.snd)
  | none, _ => False
def AccAt (σ : L2.St) (env : List Sl) (i : Nat) (p : Addr) : Prop := (∃ s, env[i]? = some s ∧ s.isA = true) ∧ σ[i]? = some (some (.ref p))
structure Sok (H0 B H : Hp) (σ : L2.St) (env : List Sl) : Prop where
  ex : Same B H
  e0 : Same H0 H
  len : σ.length = env.length
  sl : ∀ (i : Nat) (s : Sl), env[i]? = some s → SlOk H0 B H (σ[i]?.join) s
  ap : ∀ (i j : Nat) (p : Addr), AccAt σ env i p → AccAt σ env j p → i = j

theorem Grow.acc {B H B2 H2 : Hp} (g : Grow B H B2 H2) {p : Addr} {o : HO} (h2 : H p = some o) (h3 : B p = none) : B2 p = none := by
  cases e : B2 p with
  | none => rfl
  | some o =>
    rcases g.f p (by rw [e]; exact fun z => nomatch z) with z | z
    · exact absurd h3 z
    · rw [h2] at z; cases z
theorem SlOk.grow {H0 B H B2 H2 : Hp} (g : Grow B H B2 H2) : ∀ {v : Option V} {s : Sl}, SlOk H0 B H v s → SlOk H0 B2 H2 v s
  | none, .no, _ => trivial
  | some _, .no, _ => trivial
  | none, .dat _, h => h.elim
  | none, .aL _, h => h.elim
  | none, .aD _, h => h.elim
  | some v, .dat r, h => r.mono g.b h
  | some v, .aL rs, ⟨p, vs, h1, h2, h3, h4, h5⟩ => ⟨p, vs, h1, g.h _ _ h2, g.acc h2 h3, h4, h5.mono g.b⟩
  | some v, .aD rs, ⟨p, vs, h1, h2, h3, h4, h6, h5⟩ => ⟨p, vs, h1, g.h _ _ h2, g.acc h2 h3, h4, h6, h5.mono g.b⟩
theorem Sok.grow {H0 B H B2 H2 : Hp} {σ : L2.St} {env : List Sl} (s : Sok H0 B H σ env) (g : Grow B H B2 H2) : Sok H0 B2 H2 σ env :=
  ⟨g.i, s.e0.trans g.h, s.len, fun i x e => (s.sl i x e).grow g, s.ap⟩
theorem join_of {σ : L2.St} {i : Nat} {v : V} (h : σ[i]?.join = some v) : σ[i]? = some (some v) := by
  cases e : σ[i]? with
  | none => rw [e] at h; cases h
  | some o =>
    rw [e] at h
    have h' : o = some v := h
    rw [h']
theorem Sok.dat {H0 B H : Hp} {σ : L2.St} {env : List Sl} {i : Nat} {r : Rp} (s : Sok H0 B H σ env) (e : env[i]? = some (.dat r)) : ∃ v, σ[i]? = some (some v) ∧ r.ok B v := by
  have h := s.sl i _ e
  cases q : σ[i]?.join with
  | none => rw [q] at h; exact h.elim
  | some v => rw [q] at h; exact ⟨v, join_of q, h⟩
theorem Sok.accL {H0 B H : Hp} {σ : L2.St} {env : List Sl} {i : Nat} {rs : List Rp} (s : Sok H0 B H σ env) (e : env[i]? = some (.aL rs)) :
    ∃ p vs, σ[i]? = some (some (.ref p)) ∧ H p = some (.lst vs) ∧ B p = none ∧ H0 p = none ∧ Oks B rs vs := by
  have h := s.sl i _ e
  cases q : σ[i]?.join with
  | none => rw [q] at h; exact h.elim
  | some v =>
    rw [q] at h
    obtain ⟨p, vs, rfl, h⟩ := h
    exact ⟨p, vs, join_of q, h⟩
theorem Sok.accD {H0 B H : Hp} {σ : L2.St} {env : List Sl} {i : Nat} {kvs : List (Key × Rp)} (s : Sok H0 B H σ env) (e : env[i]? = some (.aD kvs)) :
    ∃ (p : Addr) (ws : List (Key × V)), σ[i]? = some (some (.ref p)) ∧ H p = some (.dK ws) ∧ B p = none ∧ H0 p = none ∧ ws.map Prod.fst = kvs.map Prod.fst ∧ Oks B (kvs.map Prod.snd) (ws.map Prod.snd) := by
  have h := s.sl i _ e
  cases q : σ[i]?.join with
  | none => rw [q] at h; exact h.elim
  | some v =>
    rw [q] at h
    obtain ⟨p, vs, rfl, h⟩ := h
    exact ⟨p, vs, join_of q, h⟩
theorem lt_of_env {σ : L2.St} {env : List Sl} (l : σ.length = env.length) {i : Nat} {s : Sl} (e : env[i]? = some s) : i < σ.length := by
  rw [l]; exact (List.getElem?_eq_some_iff.mp e).1
/-- a slot is stored with data -/
theorem Sok.set {H0 B H : Hp} {σ : L2.St} {env : List Sl} (s : Sok H0 B H σ env) {i : Nat} {v : V} {r : Rp} (h : r.ok B v) : Sok H0 B H (σ.set i (some v)) (env.set i (.dat r)) := by
  refine ⟨s.ex, s.e0, by rw [List.length_set, List.length_set]; exact s.len, fun j x e => ?_, fun a b p ha hb => ?_⟩
  · by_cases hj : i = j
    · subst hj
      have hl : i < env.length := by
        have := (List.getElem?_eq_some_iff.mp e).1
        rwa [List.length_set] at this
      rw [List.getElem?_set_self hl] at e
      cases e
      rw [List.getElem?_set_self (by rw [s.len]; exact hl)]
      exact h
    · rw [List.getElem?_set_ne hj] at e ⊢
      exact s.sl j x e
  · have key : ∀ c, AccAt (σ.set i (some v)) (env.set i (.dat r)) c p → AccAt σ env c p := fun c ⟨⟨x, hx, hxa⟩, hc⟩ => by
      by_cases hj : i = c
      · subst hj
        have hl : i < env.length := by
          have := (List.getElem?_eq_some_iff.mp hx).1
          rwa [List.length_set] at this
        rw [List.getElem?_set_self hl] at hx
        cases hx
        cases hxa
      · rw [List.getElem?_set_ne hj] at hx hc
        exact ⟨⟨x, hx, hxa⟩, hc⟩
    exact s.ap a b p (key a ha) (key b hb)
/-- less is known -/
def Sl.le (a b : Sl) : Prop := b = .no ∨ a = b
def EnvLe (e1 e2 : List Sl) : Prop := e1.length = e2.length ∧ ∀ (i : Nat) (s : Sl), e2[i]? = some s → s = .no ∨ e1[i]? = some s
theorem Sok.weak {H0 B H : Hp} {σ : L2.St} {e1 e2 : List Sl} (s : Sok H0 B H σ e1) (l : EnvLe e1 e2) : Sok H0 B H σ e2 := by
  refine ⟨s.ex, s.e0, s.len.trans l.1, fun i x e => ?_, fun a b p ha hb => ?_⟩
  · rcases l.2 i x e with rfl | z
    · cases σ[i]?.join <;> trivial
    · exact s.sl i x z
  · have key : ∀ c, AccAt σ e2 c p → AccAt σ e1 c p := fun c ⟨⟨x, hx, hxa⟩, hc⟩ => by
      rcases l.2 c x hx with rfl | z
      · cases hxa
      · exact ⟨⟨x, z, hxa⟩, hc⟩
    exact s.ap a b p (key a ha) (key b hb)
theorem EnvLe.refl (e : List Sl) : EnvLe e e := ⟨rfl, fun _ _ h => .inr h⟩
def envLeB : List Sl → List Sl → Prop
  | [], [] => True
  | a :: r, b :: q => (b = .no ∨ a = b) ∧ envLeB r q
  | _, _ => False
theorem EnvLe.of : ∀ {e1 e2 : List Sl}, envLeB e1 e2 → EnvLe e1 e2
  | [], [], _ => ⟨rfl, fun i s h => by simp at h⟩
  | a :: r, b :: q, h => by
    obtain ⟨h1, h2⟩ := EnvLe.of h.2
    refine ⟨by show r.length + 1 = q.length + 1; rw [h1], fun i s e => ?_⟩
    cases i with
    | zero =>
      have e' : b = s := by simpa using e
      subst e'
      rcases h.1 with z | z
      · exact .inl z
      · right; rw [z]; rfl
    | succ i => exact h2 i s (by simpa using e)
end Rl
/-! text RL2 -/
set_option Elab.async false
set_option linter.all false
set_option maxRecDepth 100000
set_option maxHeartbeats 2000000
namespace Rl
open PySem PySem.Spec PyProof.Rows L2

/-! ### where one stands -/
structure Cg where
  P : Program
  w : World
  K : PySem.W.Frag
  mg : Str → Option Value
  base : Heap
structure Lc where
  N : List Str
  sc : Scope
  df : Bool
/-- what is wished of exceptions, the room for calls -/
structure Wc where
  xk : XK
  k : Nat
/-- within a comprehension -/
def Wc.b (E : Wc) : Wc := ⟨E0, E.k⟩
structure Ok (Γ : Cg) (L : Lc) (E : Wc) (X : Cx) : Prop where
  prog : X.prog = Γ.P
  w : X.w = Γ.w
  K : X.K = Γ.K
  mg : X.mg = Γ.mg
  base : X.base = Γ.base
  room : Room E.k X.A
  N : X.N = L.N
  nd : L.N.Nodup
  sc : X.env.scope = L.sc
  calm : X.calm = true
  fn : L.df = true → ∀ x, X.fn x = true
  own : PassesOwn (model X.prog X.w) X.A X.env X.xe
  takes : Takes X (fun cls d _ H => E.xk cls d H)
  top : L.df = true → X.stack = X.env :: X.outer ∧ X.env.frame = some X.env.locals
theorem Ok.pass {Γ : Cg} {L : Lc} {E : Wc} {X : Cx} (o : Ok Γ L E X) : Passes (L2.CX X.prog X.w) X E.xk := passes_call o.takes fun _ _ _ _ h => h
theorem Ok.hu {Γ : Cg} {L : Lc} {E : Wc} {X : Cx} (o : Ok Γ L E X) : X.A.units + 1 < cLine := hu_of o.room
theorem Ok.u64 {Γ : Cg} {L : Lc} {E : Wc} {X : Cx} (o : Ok Γ L E X) : X.A.units + 64 < cLine := o.room.units
theorem Ok.u65 {Γ : Cg} {L : Lc} {E : Wc} {X : Cx} (o : Ok Γ L E X) : X.A.units + 65 < cLine := by
  have h := o.room.un
  omega
def visB (L : Lc) (x : Str) : Bool := match L.sc.names.lookup x with
  | some .local => true
  | some .cell => true
  | some .free => true
  | _ => false
/-- the name x is the i-th slot's -/
def varB (L : Lc) (i : Nat) (x : Str) : Bool := decide (L.N[i]? = some x) && visB L x && !(x == ("__debug__" : Str)) && !(x == ("__classdict__" : Str))
theorem varB_ok {L : Lc} {i : Nat} {x : Str} (h : varB L i x = true) : L.N[i]? = some x ∧ Vis L.sc x ∧ (x == ("__debug__" : Str)) = false ∧ (x == ("__classdict__" : Str)) = false := by
  unfold varB at h
  simp only [Bool.and_eq_true, Bool.not_eq_true'] at h
  obtain ⟨⟨⟨h1, h2⟩, h3⟩, h4⟩ := h
  refine ⟨of_decide_eq_true h1, ?_, h3, h4⟩
  unfold visB at h2
  unfold Vis
  cases e : L.sc.names.lookup x with
  | none => rw [e] at h2; cases h2
  | some k => rw [e] at h2; cases k <;> first | exact .inl rfl | exact .inr (.inl rfl) | exact .inr (.inr rfl) | cases h2
/-- the name x is a slot's that is stored here -/
def stoB (L : Lc) (i : Nat) (x : Str) : Bool := decide (L.N[i]? = some x) && (match L.sc.names.lookup x with
  | some .local => true
  | some .cell => L.df
  | _ => false)
theorem stoB_ok {L : Lc} {i : Nat} {x : Str} (h : stoB L i x = true) : L.N[i]? = some x ∧ L2.Loc L.sc x ∧ (L.sc.names.lookup x = some .local ∨ L.df = true) := by
  unfold stoB at h
  simp only [Bool.and_eq_true] at h
  obtain ⟨h1, h2⟩ := h
  refine ⟨of_decide_eq_true h1, ?_⟩
  unfold L2.Loc
  cases e : L.sc.names.lookup x with
  | none => rw [e] at h2; cases h2
  | some k =>
    rw [e] at h2
    cases k <;> first | exact ⟨.inl rfl, .inl rfl⟩ | exact ⟨.inr rfl, .inr h2⟩ | cases h2
def gloB (L : Lc) (x : Str) : Bool := decide (L.sc.names.lookup x = some .globalImplicit) && !(x == ("__debug__" : Str)) && !(x == ("__name__" : Str))
theorem gloB_ok {L : Lc} {x : Str} (h : gloB L x = true) : L.sc.names.lookup x = some .globalImplicit ∧ (x == ("__debug__" : Str)) = false ∧ x ≠ "__name__" := by
  unfold gloB at h
  simp only [Bool.and_eq_true, Bool.not_eq_true'] at h
  obtain ⟨⟨h1, h2⟩, h3⟩ := h
  exact ⟨of_decide_eq_true h1, h2, by simpa using h3⟩
section
variable {Γ : Cg} {L : Lc} {E : Wc} {X : Cx}
theorem Ok.gl (o : Ok Γ L E X) {x : Str} (h : gloB L x = true) : Gl X x := by
  unfold Gl Env.kindOf
  rw [o.sc]
  exact (gloB_ok h).1
end

/-! ### the judgements -/
def RE (Γ : Cg) (L : Lc) (E : Wc) (e : Expr) (env : List Sl) (r : Rp) : Prop :=
  ∃ t : TE, (∀ X, Ok Γ L E X → PE X e t) ∧ ∀ (H0 B H : Hp) (σ : L2.St) (Q : VK), Sok H0 B H σ env → (∀ v B2 H2, Grow B H B2 H2 → r.ok B2 v → Q v H2) → t σ H Q
def RT (Γ : Cg) (L : Lc) (E : Wc) (e : Expr) (env : List Sl) (b : Bool) : Prop :=
  ∃ t : TT, (∀ X, Ok Γ L E X → PT X e t) ∧ ∀ (H0 B H : Hp) (σ : L2.St) (Q : Bool → Hp → Prop), Sok H0 B H σ env → (∀ B2 H2, Grow B H B2 H2 → Q b H2) → t σ H Q
def RW (Γ : Cg) (L : Lc) (E : Wc) (e : Expr) (env : List Sl) (b : Bool) : Prop :=
  ∃ t : TT, (∀ X, Ok Γ L E X → PW X e t) ∧ ∀ (H0 B H : Hp) (σ : L2.St) (Q : Bool → Hp → Prop), Sok H0 B H σ env → (∀ B2 H2, Grow B H B2 H2 → Q b H2) → t σ H Q
def RA (Γ : Cg) (L : Lc) (E : Wc) (es : List Expr) (env : List Sl) (rs : List Rp) : Prop :=
  ∃ t : TA, (∀ X, Ok Γ L E X → PA X es t) ∧ ∀ (H0 B H : Hp) (σ : L2.St) (Q : List V → Hp → Prop), Sok H0 B H σ env → (∀ vs B2 H2, Grow B H B2 H2 → Oks B2 rs vs → Q vs H2) → t σ H Q
/-- a list looked at (the def's own, or any) -/
def RPl (Γ : Cg) (L : Lc) (E : Wc) (e : Expr) (env : List Sl) (rs : List Rp) : Prop :=
  ∃ t : TE, (∀ X, Ok Γ L E X → PE X e t) ∧ ∀ (H0 B H : Hp) (σ : L2.St) (Q : VK), Sok H0 B H σ env → (∀ p vs B2 H2, Grow B H B2 H2 → SqL Γ.K H2 p vs → Oks B2 rs vs → Q (.ref p) H2) → t σ H Q
/-- a dict looked at -/
def RPd (Γ : Cg) (L : Lc) (E : Wc) (e : Expr) (env : List Sl) (kvs : List (Key × Rp)) : Prop :=
  ∃ t : TE, (∀ X, Ok Γ L E X → PE X e t) ∧ ∀ (H0 B H : Hp) (σ : L2.St) (Q : VK), Sok H0 B H σ env →
    (∀ p (ws : List (Key × V)) B2 H2, Grow B H B2 H2 → H2 p = some (.dK ws) → ws.map Prod.fst = kvs.map Prod.fst → Oks B2 (kvs.map Prod.snd) (ws.map Prod.snd) → Q (.ref p) H2) → t σ H Q
/-- a new list -/
def RF (Γ : Cg) (L : Lc) (E : Wc) (e : Expr) (env : List Sl) (rs : List Rp) : Prop :=
  ∃ t : TE, (∀ X, Ok Γ L E X → PE X e t) ∧ ∀ (H0 B H : Hp) (σ : L2.St) (Q : VK), Sok H0 B H σ env → (∀ p vs B2 H2, Grow B H B2 H2 → H2 p = some (.lst vs) → B2 p = none → H p = none → Oks B2 rs vs → Q (.ref p) H2) → t σ H Q
/-- a new dict -/
def RFd (Γ : Cg) (L : Lc) (E : Wc) (e : Expr) (env : List Sl) (kvs : List (Key × Rp)) : Prop :=
  ∃ t : TE, (∀ X, Ok Γ L E X → PE X e t) ∧ ∀ (H0 B H : Hp) (σ : L2.St) (Q : VK), Sok H0 B H σ env →
    (∀ p (ws : List (Key × V)) B2 H2, Grow B H B2 H2 → H2 p = some (.dK ws) → B2 p = none → H p = none → ws.map Prod.fst = kvs.map Prod.fst → Oks B2 (kvs.map Prod.snd) (ws.map Prod.snd) → Q (.ref p) H2) → t σ H Q
/-- an exception: its class, what is told of its own dict -/
structure XC where
  cls : Value
  ok : Hp → Option Addr → Prop
/-- it raises -/
def RX (Γ : Cg) (L : Lc) (E : Wc) (e : Expr) (env : List Sl) (c : XC) : Prop :=
  ∃ t : TE, (∀ X, Ok Γ L E X → PE X e t) ∧ ∀ (H0 B H : Hp) (σ : L2.St) (Q : VK), Sok H0 B H σ env → (∀ d B2 H2, Grow B H B2 H2 → c.ok H2 d → E.xk c.cls d H2) → t σ H Q

section
variable {Γ : Cg} {L : Lc} {E : Wc} {env : List Sl} {e a b c : Expr} {pos : Pos} {r ra rb rc : Rp} {rs : List Rp}
/-- the sure part takes what stands at p in -/
theorem Grow.take {B H B2 H2 : Hp} (g : Grow B H B2 H2) {p : Addr} {o : HO} (h2 : H2 p = some o) (hB : B2 p = none) (h : H p = none) : Grow B H (upd B2 p o) H2 :=
  ⟨g.b.trans (same_new hB _), fun a u z => by
    by_cases ha : a = p
    · subst ha; rw [upd_same] at z; cases z; exact h2
    · rw [upd_ne ha] at z; exact g.i _ _ z, g.h, fun a z => by
    by_cases ha : a = p
    · subst ha; exact .inr h
    · rw [upd_ne ha] at z; exact g.f a z⟩
theorem RF.re (h : RF Γ L E e env rs) : RE Γ L E e env (rL rs) := by
  obtain ⟨t, h1, h2⟩ := h
  exact ⟨t, h1, fun H0 B H σ Q s q => h2 H0 B H σ Q s fun p vs B2 H2 g a1 a2 a3 a4 => q _ _ H2 (g.take a1 a2 a3) ⟨p, vs, rfl, upd_same, a4.mono (same_new a2 _)⟩⟩
theorem RFd.re {kvs : List (Key × Rp)} (h : RFd Γ L E e env kvs) : RE Γ L E e env (rD kvs) := by
  obtain ⟨t, h1, h2⟩ := h
  exact ⟨t, h1, fun H0 B H σ Q s q => h2 H0 B H σ Q s fun p vs B2 H2 g a1 a2 a3 a4 a5 => q _ _ H2 (g.take a1 a2 a3) ⟨p, vs, rfl, upd_same, a4, a5.mono (same_new a2 _)⟩⟩
theorem RE.sub (h : RE Γ L E e env ra) (hs : ∀ B v, ra.ok B v → rb.ok B v) : RE Γ L E e env rb := by
  obtain ⟨t, h1, h2⟩ := h
  exact ⟨t, h1, fun H0 B H σ Q s q => h2 H0 B H σ Q s fun v B2 H2 g o => q v B2 H2 g (hs _ _ o)⟩
theorem RE.eq (h : RE Γ L E e env ra) (hs : ra = rb) : RE Γ L E e env rb := hs ▸ h
theorem RE.weak {env2 : List Sl} (l : EnvLe env env2) (h : RE Γ L E e env2 ra) : RE Γ L E e env ra := by
  obtain ⟨t, h1, h2⟩ := h
  exact ⟨t, h1, fun H0 B H σ Q s q => h2 H0 B H σ Q (s.weak l) q⟩
/-! ### names, constants -/
theorem rv (i : Nat) {x : Str} (hb : varB L i x = true := by decide +kernel) (he : env[i]? = some (.dat r) := by rfl) : RE Γ L E (.Name x pos) env r := by
  obtain ⟨h1, h2, h3, h4⟩ := varB_ok hb
  refine ⟨tVar i, fun X o => pe_var (by rw [o.N]; exact h1) (by rw [o.sc]; exact h2) h3 h4, fun H0 B H σ Q s q => ?_⟩
  obtain ⟨v, e, k⟩ := s.dat he
  exact ⟨v, e, q v B H (Grow.refl s.ex) k⟩
theorem re_c {v : V} {t : TE} (hp : ∀ X : Cx, PE X e t) (ht : ∀ (σ : L2.St) H Q, Q v H → t σ H Q) : RE Γ L E e env (rV v) :=
  ⟨t, fun X _ => hp X, fun H0 B H σ Q s q => ht σ H Q (q v B H (Grow.refl s.ex) rfl)⟩
theorem re_int {i j} : RE Γ L E (.Constant (.int i) j pos) env (rI i) := re_c (fun X => pe_int) fun _ _ _ h => h
theorem re_str {s j} : RE Γ L E (.Constant (.str s) j pos) env (rS s) := re_c (fun X => pe_str) fun _ _ _ h => h
theorem re_bl {k j} : RE Γ L E (.Constant (.bool k) j pos) env (rB k) := re_c (fun X => pe_bl) fun _ _ _ h => h
theorem re_non {j} : RE Γ L E (.Constant .none j pos) env rN := re_c (fun X => pe_non) fun _ _ _ h => h
/-- a module's constant -/
theorem re_glob {x : Str} {v : V} {u : Value} (hm : Γ.mg x = some u) (hr : RelV v u) (hg : gloB L x = true := by decide +kernel) : RE Γ L E (.Name x pos) env (rV v) :=
  ⟨tC v, fun X o => pe_glob (o.gl hg) (by rw [o.mg]; exact hm) hr (gloB_ok hg).2.1, fun H0 B H σ Q s q => q v B H (Grow.refl s.ex) rfl⟩
/-- a built-in class as a value -/
theorem re_bltn {x : Str} {v : V} {u : Value} (hm : Γ.mg x = none) (hv : bootBuiltins x = some u) (hr : RelV v u) (hg : gloB L x = true := by decide +kernel) : RE Γ L E (.Name x pos) env (rV v) :=
  ⟨tC v, fun X o => pe_bltn (o.gl hg) (by rw [o.mg]; exact hm) hv hr (gloB_ok hg).2.2 (gloB_ok hg).2.1, fun H0 B H σ Q s q => q v B H (Grow.refl s.ex) rfl⟩

/-! ### operators -/
theorem Oks.rep {H : Hp} {r : Rp} {v : V} (h : r.ok H v) : ∀ n : Nat, Oks H (List.replicate n r) (List.replicate n [v]).flatten
  | 0 => trivial
  | n + 1 => by
    rw [List.replicate_succ, List.replicate_succ, List.flatten_cons]
    exact ⟨h, Oks.rep h n⟩
/-- what a rule by values tells of reps -/
def OpK (r2 : R2) (ra rb r : Rp) : Prop := ∀ (B H : Hp) (x y : V) (Q : VK), Same B H → ra.ok B x → rb.ok B y → (∀ v B2 H2, Grow B H B2 H2 → r.ok B2 v → Q v H2) → r2 x y H Q
theorem two {ta tb : TE} {r2 : R2} {H0 B H : Hp} {σ : L2.St} {Q : VK} (s : Sok H0 B H σ env)
    (ha : ∀ (H0 B H : Hp) (σ : L2.St) (Q : VK), Sok H0 B H σ env → (∀ v B2 H2, Grow B H B2 H2 → ra.ok B2 v → Q v H2) → ta σ H Q)
    (hb : ∀ (H0 B H : Hp) (σ : L2.St) (Q : VK), Sok H0 B H σ env → (∀ v B2 H2, Grow B H B2 H2 → rb.ok B2 v → Q v H2) → tb σ H Q)
    (q : ∀ x y B2 H2, Grow B H B2 H2 → ra.ok B2 x → rb.ok B2 y → r2 x y H2 Q) : tOp r2 ta tb σ H Q :=
  ha H0 B H σ _ s fun x B2 H2 g k => hb H0 B2 H2 σ _ (s.grow g) fun y B3 H3 g2 k2 => q x y B3 H3 (g.trans g2) (ra.mono g2.b k) k2
theorem re_op {op : Operator} {r2 : R2} (ho : ∀ X, Ok Γ L E X → OpR X (binaryOp op) r2) (hk : OpK r2 ra rb r) (ha : RE Γ L E a env ra) (hb : RE Γ L E b env rb) : RE Γ L E (.BinOp a op b pos) env r := by
  obtain ⟨ta, a1, a2⟩ := ha
  obtain ⟨tb, b1, b2⟩ := hb
  exact ⟨tOp r2 ta tb, fun X o => pe_op (ho X o) (a1 X o) (b1 X o), fun H0 B H σ Q s q => two s a2 b2 fun x y B2 H2 g k1 k2 => hk B2 H2 x y Q g.i k1 k2 fun v B3 H3 g2 k => q v B3 H3 (g.trans g2) k⟩
theorem opk_i0 {g : Int → Int → V} {i j : Int} : OpK (rI0 g) (rI i) (rI j) (rV (g i j)) := fun B H x y Q s hx hy q => ⟨i, j, hx, hy, q _ B H (Grow.refl s) rfl⟩
theorem opk_i {C : Int → Int → Prop} {g : Int → Int → V} {i j : Int} (h : C i j) : OpK (L2.rI C g) (rI i) (rI j) (rV (g i j)) := fun B H x y Q s hx hy q => ⟨i, j, hx, hy, h, q _ B H (Grow.refl s) rfl⟩
theorem re_add {i j : Int} (ha : RE Γ L E a env (rI i)) (hb : RE Γ L E b env (rI j)) : RE Γ L E (.BinOp a .Add b pos) env (rI (i + j)) := re_op (fun _ _ => op_add) (opk_i0 (g := fun i j => .int (i + j))) ha hb
theorem re_sub {i j : Int} (ha : RE Γ L E a env (rI i)) (hb : RE Γ L E b env (rI j)) : RE Γ L E (.BinOp a .Sub b pos) env (rI (i - j)) := re_op (fun _ _ => op_sub) (opk_i0 (g := fun i j => .int (i - j))) ha hb
theorem re_mul {i j : Int} (h : CMul i j) (ha : RE Γ L E a env (rI i)) (hb : RE Γ L E b env (rI j)) : RE Γ L E (.BinOp a .Mult b pos) env (rI (i * j)) := re_op (fun _ _ => op_mul) (opk_i (g := fun i j => .int (i * j)) h) ha hb
theorem re_fdiv {i j : Int} (h : CDiv i j) (ha : RE Γ L E a env (rI i)) (hb : RE Γ L E b env (rI j)) : RE Γ L E (.BinOp a .FloorDiv b pos) env (rI (i / j)) := re_op (fun _ _ => op_fdiv) (opk_i (g := fun i j => .int (i / j)) h) ha hb
theorem re_mod {i j : Int} (h : 0 < j) (ha : RE Γ L E a env (rI i)) (hb : RE Γ L E b env (rI j)) : RE Γ L E (.BinOp a .Mod b pos) env (rI (i % j)) := re_op (fun _ _ => op_mod) (opk_i (C := fun _ j => 0 < j) (g := fun i j => .int (i % j)) h) ha hb
theorem re_pow {i j : Int} (h : CPow i j) (ha : RE Γ L E a env (rI i)) (hb : RE Γ L E b env (rI j)) : RE Γ L E (.BinOp a .Pow b pos) env (rI (i ^ j.toNat)) := re_op (fun _ _ => op_pow) (opk_i (g := fun i j => .int (i ^ j.toNat)) h) ha hb
theorem re_adds {x y : Str} (h : x.length + y.length ≤ sizeLine) (ha : RE Γ L E a env (rS x)) (hb : RE Γ L E b env (rS y)) : RE Γ L E (.BinOp a .Add b pos) env (rS (x ++ y)) :=
  re_op (fun _ _ => op_add_str) (fun B H u v Q s hx hy q => ⟨x, y, hx, hy, h, q _ B H (Grow.refl s) rfl⟩) ha hb
theorem re_addl {xs ys : List Rp} (h : xs.length + ys.length ≤ sizeLine) (ha : RE Γ L E a env (rL xs)) (hb : RE Γ L E b env (rL ys)) : RE Γ L E (.BinOp a .Add b pos) env (rL (xs ++ ys)) :=
  re_op (ra := rL xs) (rb := rL ys) (fun _ _ => op_cat) (fun B H u v Q s ⟨p, vs, hx, hp, ho⟩ ⟨p2, ws, hy, hp2, ho2⟩ q => ⟨p, p2, vs, ws, hx, hy, s _ _ hp, s _ _ hp2, by rw [ho.length, ho2.length]; exact h, fun n hn =>
    q _ (upd B n (.lst (vs ++ ws))) _ (Grow.new s hn _) ⟨n, vs ++ ws, rfl, upd_same, (ho.append ho2).mono (same_new (s.free hn) _)⟩⟩) ha hb
/-- a tuple and a tuple that is not empty -/
theorem re_addt {xs ys : List Rp} (h : xs.length + ys.length ≤ sizeLine) (h1 : xs ≠ []) (h2 : ys ≠ []) (ha : RE Γ L E a env (rT xs)) (hb : RE Γ L E b env (rT ys)) : RE Γ L E (.BinOp a .Add b pos) env (rT (xs ++ ys)) := by
  obtain ⟨ta, a1, a2⟩ := ha
  obtain ⟨tb, b1, b2⟩ := hb
  refine ⟨tOp (rCatT Γ.K) ta tb, fun X o => by have z := op_catT (X := X); rw [o.K] at z; exact pe_op z (a1 X o) (b1 X o), fun H0 B H σ Q s q => two s a2 b2 fun x y B2 H2 g ⟨p, vs, hx, hp, ho⟩ ⟨p2, ws, hy, hp2, ho2⟩ => ?_⟩
  have l1 := ho.length
  have l2 := ho2.length
  refine ⟨p, p2, vs, ws, hx, hy, SqT.of (g.i _ _ hp), SqT.of (g.i _ _ hp2), fun z => h1 ?_, by rw [l1, l2]; exact h, fun z => absurd ?_ h2, fun _ n hn => ?_⟩
  · rw [z] at l1; exact List.eq_nil_of_length_eq_zero l1.symm
  · rw [z] at l2; exact List.eq_nil_of_length_eq_zero l2.symm
  · exact q _ (upd B2 n (.tup (vs ++ ws))) _ (g.trans (Grow.new g.i hn _)) ⟨n, vs ++ ws, rfl, upd_same, (ho.append ho2).mono (same_new (g.i.free hn) _)⟩
/-- [x] * n -/
theorem rf_rep {x : Rp} {i : Int} (h0 : 0 ≤ i) (h1 : i ≤ 1000) (ha : RE Γ L E a env (rL [x])) (hb : RE Γ L E b env (rI i)) : RF Γ L E (.BinOp a .Mult b pos) env (List.replicate i.toNat x) := by
  obtain ⟨ta, a1, a2⟩ := ha
  obtain ⟨tb, b1, b2⟩ := hb
  refine ⟨tOp rRep ta tb, fun X o => pe_op op_rep (a1 X o) (b1 X o), fun H0 B H σ Q s q => two s a2 b2 fun x1 y B2 H2 g ⟨p, vs, hx, hp, ho⟩ hy => ?_⟩
  obtain ⟨v0, rfl, o1⟩ := ho.one
  refine ⟨p, i, [v0], hx, hy, g.i _ _ hp, by omega, by omega, ?_, fun n hn => ?_⟩
  · have : i.toNat ≤ 1000 := by omega
    show 1 * i.toNat ≤ sizeLine
    rw [Nat.one_mul]
    exact Nat.le_trans this (by decide)
  · exact q n _ B2 _ (g.trans (Grow.stay g.i (same_new hn _))) upd_same (g.i.free hn) (g.h.free hn) (Oks.rep o1 _)
theorem re_neg {i : Int} (ha : RE Γ L E a env (rI i)) : RE Γ L E (.UnaryOp .USub a pos) env (rI (-i)) := by
  obtain ⟨ta, a1, a2⟩ := ha
  exact ⟨tUn _ ta, fun X o => pe_un un_neg (a1 X o), fun H0 B H σ Q s q => a2 H0 B H σ _ s fun x B2 H2 g k => ⟨i, k, q _ B2 H2 g rfl⟩⟩
end
end Rl
/-! text RL3 -/
set_option Elab.async false
set_option linter.all false
set_option maxRecDepth 100000
set_option maxHeartbeats 2000000
namespace Rl
open PySem PySem.Spec PyProof.Rows L2
section
variable {Γ : Cg} {L : Lc} {E : Wc} {env : List Sl} {e a b c : Expr} {pos : Pos} {r ra rb rc : Rp} {rs : List Rp}
/-! ### comparisons -/
theorem re_cmp {op : CmpOp} {r2 : R2} (ho : ∀ X, Ok Γ L E X → OpR X (compareOp op) r2) (hm : behindInMarks op b = false) (hk : OpK r2 ra rb r) (ha : RE Γ L E a env ra) (hb : RE Γ L E b env rb) : RE Γ L E (.Compare a [op] [b] pos) env r := by
  obtain ⟨ta, a1, a2⟩ := ha
  obtain ⟨tb, b1, b2⟩ := hb
  exact ⟨tOp r2 ta tb, fun X o => pe_cmpR (ho X o) (a1 X o) (b1 X o) hm, fun H0 B H σ Q s q => two s a2 b2 fun x y B2 H2 g k1 k2 => hk B2 H2 x y Q g.i k1 k2 fun v B3 H3 g2 k => q v B3 H3 (g.trans g2) k⟩
theorem rt_cmp {op : CmpOp} {r2 : R2} {k : Bool} (ho : ∀ X, Ok Γ L E X → OpR X (compareOp op) r2) (hm : behindInMarks op b = false) (hk : OpK r2 ra rb (rB k)) (ha : RE Γ L E a env ra) (hb : RE Γ L E b env rb) : RT Γ L E (.Compare a [op] [b] pos) env k := by
  obtain ⟨ta, a1, a2⟩ := ha
  obtain ⟨tb, b1, b2⟩ := hb
  exact ⟨tTest (tOp r2 ta tb), fun X o => pt_cmpR (ho X o) (a1 X o) (b1 X o) hm, fun H0 B H σ Q s q => two s a2 b2 fun x y B2 H2 g k1 k2 => hk B2 H2 x y _ g.i k1 k2 fun v B3 H3 g2 h => ⟨k, h, q B3 H3 (g.trans g2)⟩⟩
theorem rt_lt {i j : Int} (ha : RE Γ L E a env (rI i)) (hb : RE Γ L E b env (rI j)) : RT Γ L E (.Compare a [.Lt] [b] pos) env (decide (i < j)) := rt_cmp (fun _ _ => op_lt) (nomark _) (opk_i0 (g := fun i j => .bl (decide (i < j)))) ha hb
theorem rt_le {i j : Int} (ha : RE Γ L E a env (rI i)) (hb : RE Γ L E b env (rI j)) : RT Γ L E (.Compare a [.LtE] [b] pos) env (decide (i ≤ j)) := rt_cmp (fun _ _ => op_le) (nomark _) (opk_i0 (g := fun i j => .bl (decide (i ≤ j)))) ha hb
theorem rt_gt {i j : Int} (ha : RE Γ L E a env (rI i)) (hb : RE Γ L E b env (rI j)) : RT Γ L E (.Compare a [.Gt] [b] pos) env (decide (j < i)) := rt_cmp (fun _ _ => op_gt) (nomark _) (opk_i0 (g := fun i j => .bl (decide (j < i)))) ha hb
theorem rt_ge {i j : Int} (ha : RE Γ L E a env (rI i)) (hb : RE Γ L E b env (rI j)) : RT Γ L E (.Compare a [.GtE] [b] pos) env (decide (j ≤ i)) := rt_cmp (fun _ _ => op_ge) (nomark _) (opk_i0 (g := fun i j => .bl (decide (j ≤ i)))) ha hb
theorem re_gt {i j : Int} (ha : RE Γ L E a env (rI i)) (hb : RE Γ L E b env (rI j)) : RE Γ L E (.Compare a [.Gt] [b] pos) env (rB (decide (j < i))) := re_cmp (fun _ _ => op_gt) (nomark _) (opk_i0 (g := fun i j => .bl (decide (j < i)))) ha hb
theorem opk_eq {x y : V} {k : Bool} (h : scal x y = true) (hk : decide (x = y) = k) : OpK rEq (rV x) (rV y) (rB k) := fun B H u v Q s hx hy q => by
  have hx : u = x := hx
  have hy : v = y := hy
  subst hx hy hk
  exact ⟨h, q _ B H (Grow.refl s) rfl⟩
theorem opk_ne {x y : V} {k : Bool} (h : scal x y = true) (hk : (!decide (x = y)) = k) : OpK rNe (rV x) (rV y) (rB k) := fun B H u v Q s hx hy q => by
  have hx : u = x := hx
  have hy : v = y := hy
  subst hx hy hk
  exact ⟨h, q _ B H (Grow.refl s) rfl⟩
theorem dec_i {i j : Int} : decide (V.int i = V.int j) = decide (i = j) := by rw [dec_int]; rfl
theorem dec_s {i j : Str} : decide (V.str i = V.str j) = decide (i = j) := decide_eq_decide.mpr ⟨fun h => by injection h, fun h => by rw [h]⟩
theorem rt_eqI {i j : Int} (ha : RE Γ L E a env (rI i)) (hb : RE Γ L E b env (rI j)) : RT Γ L E (.Compare a [.Eq] [b] pos) env (decide (i = j)) := rt_cmp (fun _ _ => op_eq) (nomark _) (opk_eq rfl dec_i) ha hb
theorem rt_neI {i j : Int} (ha : RE Γ L E a env (rI i)) (hb : RE Γ L E b env (rI j)) : RT Γ L E (.Compare a [.NotEq] [b] pos) env (!decide (i = j)) := rt_cmp (fun _ _ => op_ne) (nomark _) (opk_ne rfl (congrArg _ dec_i)) ha hb
theorem re_eqI {i j : Int} (ha : RE Γ L E a env (rI i)) (hb : RE Γ L E b env (rI j)) : RE Γ L E (.Compare a [.Eq] [b] pos) env (rB (decide (i = j))) := re_cmp (fun _ _ => op_eq) (nomark _) (opk_eq rfl dec_i) ha hb
theorem rt_eqS {i j : Str} (ha : RE Γ L E a env (rS i)) (hb : RE Γ L E b env (rS j)) : RT Γ L E (.Compare a [.Eq] [b] pos) env (decide (i = j)) := rt_cmp (fun _ _ => op_eq) (nomark _) (opk_eq rfl dec_s) ha hb
theorem rt_neS {i j : Str} (ha : RE Γ L E a env (rS i)) (hb : RE Γ L E b env (rS j)) : RT Γ L E (.Compare a [.NotEq] [b] pos) env (!decide (i = j)) := rt_cmp (fun _ _ => op_ne) (nomark _) (opk_ne rfl (congrArg _ dec_s)) ha hb
theorem re_eqS {i j : Str} (ha : RE Γ L E a env (rS i)) (hb : RE Γ L E b env (rS j)) : RE Γ L E (.Compare a [.Eq] [b] pos) env (rB (decide (i = j))) := re_cmp (fun _ _ => op_eq) (nomark _) (opk_eq rfl dec_s) ha hb
theorem re_neS {i j : Str} (ha : RE Γ L E a env (rS i)) (hb : RE Γ L E b env (rS j)) : RE Γ L E (.Compare a [.NotEq] [b] pos) env (rB (!decide (i = j))) := re_cmp (fun _ _ => op_ne) (nomark _) (opk_ne rfl (congrArg _ dec_s)) ha hb
/-- what is not None -/
def NotN (r : Rp) : Prop := ∀ B v, r.ok B v → v ≠ .non
theorem notN_V {v : V} (h : v ≠ .non) : NotN (rV v) := fun B u k => by
  have k : u = v := k
  rw [k]; exact h
theorem notN_T : NotN (rT rs) := fun B u ⟨p, vs, h, _⟩ => by rw [h]; exact fun z => nomatch z
theorem notN_L : NotN (rL rs) := fun B u ⟨p, vs, h, _⟩ => by rw [h]; exact fun z => nomatch z
theorem opk_isN (k : Bool) (h : (k = true ∧ r = rN) ∨ (k = false ∧ NotN r)) : OpK (fun x y H Q => y = .non ∧ Q (.bl (decide (x = .non))) H) r rN (rB k) := fun B H u v Q s hx hy q => by
  refine ⟨hy, ?_⟩
  rcases h with ⟨rfl, rfl⟩ | ⟨rfl, h⟩
  · have hx : u = .non := hx
    rw [decide_eq_true hx]
    exact q _ B H (Grow.refl s) rfl
  · rw [decide_eq_false (h B u hx)]
    exact q _ B H (Grow.refl s) rfl
theorem opk_notN (k : Bool) (h : (k = false ∧ r = rN) ∨ (k = true ∧ NotN r)) : OpK (fun x y H Q => y = .non ∧ Q (.bl (!decide (x = .non))) H) r rN (rB k) := fun B H u v Q s hx hy q => by
  refine ⟨hy, ?_⟩
  rcases h with ⟨rfl, rfl⟩ | ⟨rfl, h⟩
  · have hx : u = .non := hx
    rw [decide_eq_true hx]
    exact q _ B H (Grow.refl s) rfl
  · rw [decide_eq_false (h B u hx)]
    exact q _ B H (Grow.refl s) rfl
theorem rt_isN (k : Bool) (ha : RE Γ L E a env r) (h : (k = true ∧ r = rN) ∨ (k = false ∧ NotN r)) {j p} : RT Γ L E (.Compare a [.Is] [.Constant .none j p] pos) env k := rt_cmp (fun _ _ => op_isN) (nomark _) (opk_isN k h) ha re_non
theorem rt_notN (k : Bool) (ha : RE Γ L E a env r) (h : (k = false ∧ r = rN) ∨ (k = true ∧ NotN r)) {j p} : RT Γ L E (.Compare a [.IsNot] [.Constant .none j p] pos) env k := rt_cmp (fun _ _ => op_notN) (nomark _) (opk_notN k h) ha re_non
theorem re_isN (k : Bool) (ha : RE Γ L E a env r) (h : (k = true ∧ r = rN) ∨ (k = false ∧ NotN r)) {j p} : RE Γ L E (.Compare a [.Is] [.Constant .none j p] pos) env (rB k) := re_cmp (fun _ _ => op_isN) (nomark _) (opk_isN k h) ha re_non
/-- a op b op' c of ints -/
theorem rt_chainI {op op' : CmpOp} {p p' : Int → Int → Bool} {i j l : Int} (ho : ∀ X, Ok Γ L E X → OpR X (compareOp op) (rI0 fun i j => .bl (p i j))) (ho' : ∀ X, Ok Γ L E X → OpR X (compareOp op') (rI0 fun i j => .bl (p' i j)))
    (hm : lastMarks [op, op'] [b, c] = false) (ha : RE Γ L E a env (rI i)) (hb : RE Γ L E b env (rI j)) (hc : RE Γ L E c env (rI l)) : RT Γ L E (.Compare a [op, op'] [b, c] pos) env (p i j && p' j l) := by
  obtain ⟨ta, a1, a2⟩ := ha
  obtain ⟨tb, b1, b2⟩ := hb
  obtain ⟨tc, c1, c2⟩ := hc
  refine ⟨tTest (tChain _ _ ta tb tc), fun X o => pt_chain (ho X o) (ho' X o) (a1 X o) (b1 X o) (c1 X o) hm, fun H0 B H σ Q s q => a2 H0 B H σ _ s fun x B2 H2 g k => b2 H0 B2 H2 σ _ (s.grow g) fun y B3 H3 g2 k2 => ?_⟩
  have k : x = .int i := k
  have k2 : y = .int j := k2
  refine ⟨i, j, k, k2, p i j, rfl, ?_⟩
  cases hp : p i j with
  | true =>
    rw [hp, Bool.true_and] at q
    rw [if_pos rfl]
    exact c2 H0 B3 H3 σ _ ((s.grow g).grow g2) fun z B4 H4 g3 k3 => ⟨j, l, k2, k3, _, rfl, q B4 H4 ((g.trans g2).trans g3)⟩
  | false =>
    rw [hp, Bool.false_and] at q
    rw [if_neg Bool.false_ne_true]
    exact ⟨false, rfl, q B3 H3 (g.trans g2)⟩
/-! ### tests -/
theorem rt_val {k : Bool} (h : RE Γ L E e env (rB k)) (he : ∀ (en : Env) whole, isTrue e en whole = (do let v ← whole; standAt e.pos; holding [v] (truthy v)) := by intro _ _; rfl) : RT Γ L E e env k := by
  obtain ⟨t, h1, h2⟩ := h
  exact ⟨tB t, fun X o => pt_val (h1 X o) (he _), fun H0 B H σ Q s q => h2 H0 B H σ _ s fun v B2 H2 g k => ⟨_, k, q B2 H2 g⟩⟩
theorem rt_not {k : Bool} (h : RT Γ L E e env k) : RT Γ L E (.UnaryOp .Not e pos) env (!k) := by
  obtain ⟨t, h1, h2⟩ := h
  exact ⟨tNot t, fun X o => pt_not (h1 X o), fun H0 B H σ Q s q => h2 H0 B H σ _ s fun B2 H2 g => q B2 H2 g⟩
theorem rt_eq {k k' : Bool} (h : RT Γ L E e env k) (hk : k = k') : RT Γ L E e env k' := hk ▸ h
theorem RW.pt {k : Bool} (h : RW Γ L E e env k) : RT Γ L E e env k := by
  obtain ⟨t, h1, h2⟩ := h
  exact ⟨t, fun X o => (h1 X o).pt, h2⟩
theorem rw_and1 {k : Bool} (h : RT Γ L E a env k) : RW Γ L E (.BoolOp .And [a] pos) env k := by
  obtain ⟨t, h1, h2⟩ := h
  exact ⟨t, fun X o => pw_and1 (h1 X o), h2⟩
theorem rw_or1 {k : Bool} (h : RT Γ L E a env k) : RW Γ L E (.BoolOp .Or [a] pos) env k := by
  obtain ⟨t, h1, h2⟩ := h
  exact ⟨t, fun X o => pw_or1 (h1 X o), h2⟩
/-- a and ..: k is the whole's answer -/
theorem rw_and {rest : List Expr} {k l : Bool} (ha : RT Γ L E a env k) (hb : k = true → RW Γ L E (.BoolOp .And (b :: rest) pos) env l) (hn : ∃ X : TT, ∀ X', Ok Γ L E X' → PW X' (.BoolOp .And (b :: rest) pos) X := by exact ⟨fun _ _ _ => False, fun _ _ => ⟨fun _ _ _ _ _ _ _ h => h.elim⟩⟩) : RW Γ L E (.BoolOp .And (a :: b :: rest) pos) env (k && l) := by
  obtain ⟨ta, a1, a2⟩ := ha
  cases k with
  | true =>
    obtain ⟨tb, b1, b2⟩ := hb rfl
    refine ⟨tAnd ta tb, fun X o => pw_and (a1 X o) (b1 X o), fun H0 B H σ Q s q => a2 H0 B H σ _ s fun B2 H2 g => ?_⟩
    show (if true = true then _ else _)
    rw [if_pos rfl]
    exact b2 H0 B2 H2 σ Q (s.grow g) fun B3 H3 g2 => q B3 H3 (g.trans g2)
  | false =>
    obtain ⟨tb, b1⟩ := hn
    refine ⟨tAnd ta tb, fun X o => pw_and (a1 X o) (b1 X o), fun H0 B H σ Q s q => a2 H0 B H σ _ s fun B2 H2 g => ?_⟩
    show (if false = true then _ else _)
    rw [if_neg Bool.false_ne_true]
    exact q B2 H2 g
theorem rw_or {rest : List Expr} {k l : Bool} (ha : RT Γ L E a env k) (hb : k = false → RW Γ L E (.BoolOp .Or (b :: rest) pos) env l) (hn : ∃ X : TT, ∀ X', Ok Γ L E X' → PW X' (.BoolOp .Or (b :: rest) pos) X := by exact ⟨fun _ _ _ => False, fun _ _ => ⟨fun _ _ _ _ _ _ _ h => h.elim⟩⟩) : RW Γ L E (.BoolOp .Or (a :: b :: rest) pos) env (k || l) := by
  obtain ⟨ta, a1, a2⟩ := ha
  cases k with
  | false =>
    obtain ⟨tb, b1, b2⟩ := hb rfl
    refine ⟨tOr ta tb, fun X o => pw_or (a1 X o) (b1 X o), fun H0 B H σ Q s q => a2 H0 B H σ _ s fun B2 H2 g => ?_⟩
    show (if false = true then _ else _)
    rw [if_neg Bool.false_ne_true]
    exact b2 H0 B2 H2 σ Q (s.grow g) fun B3 H3 g2 => q B3 H3 (g.trans g2)
  | true =>
    obtain ⟨tb, b1⟩ := hn
    refine ⟨tOr ta tb, fun X o => pw_or (a1 X o) (b1 X o), fun H0 B H σ Q s q => a2 H0 B H σ _ s fun B2 H2 g => ?_⟩
    show (if true = true then _ else _)
    rw [if_pos rfl]
    exact q B2 H2 g
theorem no_pe (X : Cx) (e : Expr) : PE X e (fun _ _ _ => False) := ⟨fun _ _ _ _ _ _ h => h.elim⟩
theorem no_ps (X : Cx) (e : List Stmt) : PSs X e (fun _ _ _ => False) := ⟨fun _ _ _ _ _ _ h => h.elim⟩
/-! .. as values -/
theorem re_one {op} (h : RE Γ L E a env r) : RE Γ L E (.BoolOp op [a] pos) env r := by
  obtain ⟨t, h1, h2⟩ := h
  exact ⟨t, fun X o => pe_one (h1 X o), h2⟩
theorem re_and {rest : List Expr} {k l : Bool} (ha : RE Γ L E a env (rB k)) (hb : k = true → RE Γ L E (.BoolOp .And (b :: rest) pos) env (rB l)) : RE Γ L E (.BoolOp .And (a :: b :: rest) pos) env (rB (k && l)) := by
  obtain ⟨ta, a1, a2⟩ := ha
  cases k with
  | true =>
    obtain ⟨tb, b1, b2⟩ := hb rfl
    refine ⟨tAndV ta tb, fun X o => pe_and (a1 X o) (b1 X o), fun H0 B H σ Q s q => a2 H0 B H σ _ s fun v B2 H2 g h => ⟨true, h, ?_⟩⟩
    rw [if_pos rfl]
    exact b2 H0 B2 H2 σ Q (s.grow g) fun v B3 H3 g2 h2 => q v B3 H3 (g.trans g2) h2
  | false =>
    refine ⟨tAndV ta _, fun X o => pe_and (a1 X o) (no_pe X _), fun H0 B H σ Q s q => a2 H0 B H σ _ s fun v B2 H2 g h => ⟨false, h, ?_⟩⟩
    rw [if_neg Bool.false_ne_true]
    exact q _ B2 H2 g rfl
theorem re_or {rest : List Expr} {k l : Bool} (ha : RE Γ L E a env (rB k)) (hb : k = false → RE Γ L E (.BoolOp .Or (b :: rest) pos) env (rB l)) : RE Γ L E (.BoolOp .Or (a :: b :: rest) pos) env (rB (k || l)) := by
  obtain ⟨ta, a1, a2⟩ := ha
  cases k with
  | false =>
    obtain ⟨tb, b1, b2⟩ := hb rfl
    refine ⟨tOrV ta tb, fun X o => pe_or (a1 X o) (b1 X o), fun H0 B H σ Q s q => a2 H0 B H σ _ s fun v B2 H2 g h => ⟨false, h, ?_⟩⟩
    rw [if_neg Bool.false_ne_true]
    exact b2 H0 B2 H2 σ Q (s.grow g) fun v B3 H3 g2 h2 => q v B3 H3 (g.trans g2) h2
  | true =>
    refine ⟨tOrV ta _, fun X o => pe_or (a1 X o) (no_pe X _), fun H0 B H σ Q s q => a2 H0 B H σ _ s fun v B2 H2 g h => ⟨true, h, ?_⟩⟩
    rw [if_pos rfl]
    exact q _ B2 H2 g rfl
theorem re_not {k : Bool} (ha : RE Γ L E a env (rB k)) : RE Γ L E (.UnaryOp .Not a pos) env (rB (!k)) := by
  obtain ⟨ta, a1, a2⟩ := ha
  exact ⟨tNotV ta, fun X o => pe_not (a1 X o), fun H0 B H σ Q s q => a2 H0 B H σ _ s fun v B2 H2 g h => ⟨k, h, q _ B2 H2 g rfl⟩⟩
/-! ### lists, dicts looked at -/
theorem rp_of (h : RE Γ L E e env (rL rs)) : RPl Γ L E e env rs := by
  obtain ⟨t, h1, h2⟩ := h
  exact ⟨t, h1, fun H0 B H σ Q s q => h2 H0 B H σ Q s fun v B2 H2 g ⟨p, vs, e, hp, ho⟩ => by rw [e]; exact q p vs B2 H2 g (SqL.of (g.i _ _ hp)) ho⟩
theorem rp_q {ns : List Int} (h : RE Γ L E e env (rQ Γ.K ns)) : RPl Γ L E e env (ns.map rI) := by
  obtain ⟨t, h1, h2⟩ := h
  exact ⟨t, h1, fun H0 B H σ Q s q => h2 H0 B H σ Q s fun v B2 H2 g ⟨p, e, hp⟩ => by rw [e]; exact q p _ B2 H2 g (g.i.seq hp) (Oks.of (fun _ => rfl) ns)⟩
theorem rp_acc (i : Nat) {x : Str} (hb : varB L i x = true := by decide +kernel) (he : env[i]? = some (.aL rs) := by rfl) : RPl Γ L E (.Name x pos) env rs := by
  obtain ⟨h1, h2, h3, h4⟩ := varB_ok hb
  refine ⟨tVar i, fun X o => pe_var (by rw [o.N]; exact h1) (by rw [o.sc]; exact h2) h3 h4, fun H0 B H σ Q s q => ?_⟩
  obtain ⟨p, vs, e, hp, _, _, ho⟩ := s.accL he
  exact ⟨_, e, q p vs B H (Grow.refl s.ex) (SqL.of hp) ho⟩
theorem rd_of {kvs : List (Key × Rp)} (h : RE Γ L E e env (rD kvs)) : RPd Γ L E e env kvs := by
  obtain ⟨t, h1, h2⟩ := h
  exact ⟨t, h1, fun H0 B H σ Q s q => h2 H0 B H σ Q s fun v B2 H2 g ⟨p, ws, e, hp, hk, ho⟩ => by rw [e]; exact q p ws B2 H2 g (g.i _ _ hp) hk ho⟩
theorem rd_acc (i : Nat) {x : Str} {kvs : List (Key × Rp)} (hb : varB L i x = true := by decide +kernel) (he : env[i]? = some (.aD kvs) := by rfl) : RPd Γ L E (.Name x pos) env kvs := by
  obtain ⟨h1, h2, h3, h4⟩ := varB_ok hb
  refine ⟨tVar i, fun X o => pe_var (by rw [o.N]; exact h1) (by rw [o.sc]; exact h2) h3 h4, fun H0 B H σ Q s q => ?_⟩
  obtain ⟨p, vs, e, hp, _, _, hk, ho⟩ := s.accD he
  exact ⟨_, e, q p vs B H (Grow.refl s.ex) hp hk ho⟩
/-! ### places -/
theorem Oks.atI {H : Hp} {vs : List V} {i : Int} (h : Oks H rs vs) (e : atI rs i = some r) : ∃ v, L2.atI vs i = some v ∧ r.ok H v := by
  unfold L2.atI at e ⊢
  rw [h.length]
  cases q : ixN rs.length i with
  | none => rw [q] at e; cases e
  | some j =>
    rw [q] at e
    exact h.get (i := j) e
theorem re_ixL {i : Int} (h : atI rs i = some r) (ha : RPl Γ L E a env rs) (hb : RE Γ L E b env (rI i)) (hs : PlainIx b := by intro _ _; rfl) : RE Γ L E (.Subscript a b pos) env r := by
  obtain ⟨ta, a1, a2⟩ := ha
  obtain ⟨tb, b1, b2⟩ := hb
  refine ⟨tOp (rIxL Γ.K) ta tb, fun X o => by have z := ix_list (X := X); rw [o.K] at z; exact pe_ix z (a1 X o) (b1 X o) hs, fun H0 B H σ Q s q => a2 H0 B H σ _ s fun p vs B2 H2 g hp ho => b2 H0 B2 H2 σ _ (s.grow g) fun y B3 H3 g2 k2 => ?_⟩
  obtain ⟨v, e1, e2⟩ := ho.atI h
  exact ⟨p, vs, i, v, rfl, k2, g2.h.seq hp, e1, q v B3 H3 (g.trans g2) (r.mono g2.b e2)⟩
theorem re_ixT {i : Int} (h : atI rs i = some r) (ha : RE Γ L E a env (rT rs)) (hb : RE Γ L E b env (rI i)) (hs : PlainIx b := by intro _ _; rfl) : RE Γ L E (.Subscript a b pos) env r := by
  obtain ⟨ta, a1, a2⟩ := ha
  obtain ⟨tb, b1, b2⟩ := hb
  refine ⟨tOp (rIxT Γ.K) ta tb, fun X o => by have z := ix_tup (X := X); rw [o.K] at z; exact pe_ix z (a1 X o) (b1 X o) hs, fun H0 B H σ Q s q => a2 H0 B H σ _ s fun x B2 H2 g ⟨p, vs, ex, hp, ho⟩ => b2 H0 B2 H2 σ _ (s.grow g) fun y B3 H3 g2 k2 => ?_⟩
  obtain ⟨v, e1, e2⟩ := ho.atI h
  exact ⟨p, vs, i, v, ex, k2, SqT.of (g2.h _ _ (g.i _ _ hp)), e1, q v B3 H3 (g.trans g2) (r.mono g2.b e2)⟩
theorem re_ixS {z : Str} {i : Int} {ch : Nat} (h : atI z.cps.toList i = some ch) (hl : z.length ≤ sizeLine) (ha : RE Γ L E a env (rS z)) (hb : RE Γ L E b env (rI i)) (hs : PlainIx b := by intro _ _; rfl) : RE Γ L E (.Subscript a b pos) env (rS ⟨#[ch]⟩) := by
  obtain ⟨ta, a1, a2⟩ := ha
  obtain ⟨tb, b1, b2⟩ := hb
  exact ⟨tOp rIxS ta tb, fun X o => pe_ix ix_str (a1 X o) (b1 X o) hs, fun H0 B H σ Q s q => two s a2 b2 fun x y B2 H2 g k1 k2 => ⟨z, i, ch, k1, k2, hl, h, q _ B2 H2 g rfl⟩⟩
/-- xs[lo:hi] -/
def cutR {α : Type} (xs : List α) (lo hi : Option Int) : List α := (xs.drop (HT.sIx xs.length 0 lo)).take (HT.sIx xs.length xs.length hi - HT.sIx xs.length 0 lo)
theorem cutR_map {α β : Type} (f : α → β) (xs : List α) (lo hi : Option Int) : cutR (xs.map f) lo hi = (cutR xs lo hi).map f := by
  unfold cutR
  rw [List.length_map, List.map_take, List.map_drop]
theorem Oks.cut {H : Hp} {vs : List V} (h : Oks H rs vs) (lo hi : Option Int) : Oks H (cutR rs lo hi) (cutV vs lo hi) := by
  unfold cutR cutV
  rw [h.length]
  exact (h.drop _).take _
def RO (Γ : Cg) (L : Lc) (E : Wc) (e : Option Expr) (env : List Sl) (i : Option Int) : Prop :=
  ∃ t : TO, (∀ X, Ok Γ L E X → PO X e t) ∧ ∀ (H0 B H : Hp) (σ : L2.St) (Q : Option Int → Hp → Prop), Sok H0 B H σ env → (∀ B2 H2, Grow B H B2 H2 → Q i H2) → t σ H Q
theorem ro_none : RO Γ L E none env none := ⟨tNoPart, fun X o => po_none, fun H0 B H σ Q s q => q B H (Grow.refl s.ex)⟩
theorem ro_some {i : Int} (h : RE Γ L E e env (rI i)) : RO Γ L E (some e) env (some i) := by
  obtain ⟨t, h1, h2⟩ := h
  exact ⟨tPart t, fun X o => po_some (h1 X o), fun H0 B H σ Q s q => h2 H0 B H σ _ s fun v B2 H2 g k => ⟨i, k, q B2 H2 g⟩⟩
theorem re_slL {lo hi : Option Expr} {i j : Option Int} {p2 : Pos} (ha : RPl Γ L E a env rs) (hl : RO Γ L E lo env i) (hh : RO Γ L E hi env j) : RE Γ L E (.Subscript a (.Slice lo hi none p2) pos) env (rL (cutR rs i j)) := by
  obtain ⟨ta, a1, a2⟩ := ha
  obtain ⟨tl, l1, l2⟩ := hl
  obtain ⟨th, h1, h2⟩ := hh
  refine ⟨tSl (rSlL Γ.K) ta tl th, fun X o => by have z := sl_list (X := X); rw [o.K] at z; exact pe_slice z (a1 X o) (l1 X o) (h1 X o), fun H0 B H σ Q s q => a2 H0 B H σ _ s fun p vs B2 H2 g hp ho =>
    l2 H0 B2 H2 σ _ (s.grow g) fun B3 H3 g2 => h2 H0 B3 H3 σ _ ((s.grow g).grow g2) fun B4 H4 g3 => ⟨p, vs, rfl, (g2.h.trans g3.h).seq hp, fun n hn => ?_⟩⟩
  exact q _ (upd B4 n (.lst (cutV vs i j))) _ (((g.trans g2).trans g3).trans (Grow.new g3.i hn _)) ⟨n, _, rfl, upd_same, (ho.mono ((g2.b.trans g3.b).trans (same_new (g3.i.free hn) _))).cut i j⟩
/-! ### displays, arguments -/
theorem ra_nil : RA Γ L E [] env [] := ⟨tNil, fun X o => pa_nil, fun H0 B H σ Q s q => q [] B H (Grow.refl s.ex) trivial⟩
theorem ra_cons {es : List Expr} (ha : RE Γ L E e env r) (hr : RA Γ L E es env rs) (hs : ∀ en : Env, starEach (e :: es) en = (false, eval e en) :: starEach es en := by intro _; rfl) : RA Γ L E (e :: es) env (r :: rs) := by
  obtain ⟨ta, a1, a2⟩ := ha
  obtain ⟨tr, r1, r2⟩ := hr
  exact ⟨tCons ta tr, fun X o => pa_cons (a1 X o) (r1 X o) (hs _), fun H0 B H σ Q s q => a2 H0 B H σ _ s fun v B2 H2 g k => r2 H0 B2 H2 σ _ (s.grow g) fun vs B3 H3 g2 k2 => q _ B3 H3 (g.trans g2) ⟨r.mono g2.b k, k2⟩⟩
theorem re_tup {es : List Expr} {x1} (h : RA Γ L E es env rs) (hl : rs.length ≤ sizeLine := by exact Nat.le_of_ble_eq_true rfl) : RE Γ L E (.Tuple es x1 pos) env (rT rs) := by
  obtain ⟨t, h1, h2⟩ := h
  exact ⟨tTup t, fun X o => pe_tup (h1 X o), fun H0 B H σ Q s q => h2 H0 B H σ _ s fun vs B2 H2 g k => ⟨by rw [k.length]; exact hl, fun p hp =>
    q _ (upd B2 p (.tup vs)) _ (g.trans (Grow.new g.i hp _)) ⟨p, vs, rfl, upd_same, k.mono (same_new (g.i.free hp) _)⟩⟩⟩
theorem rf_lst {es : List Expr} (h : RA Γ L E es env rs) (hl : rs.length ≤ sizeLine := by exact Nat.le_of_ble_eq_true rfl) : RF Γ L E (.List es pos) env rs := by
  obtain ⟨t, h1, h2⟩ := h
  exact ⟨tLst t, fun X o => pe_lst (h1 X o), fun H0 B H σ Q s q => h2 H0 B H σ _ s fun vs B2 H2 g k => ⟨by rw [k.length]; exact hl, fun p hp =>
    q p vs B2 _ (g.trans (Grow.stay g.i (same_new hp _))) upd_same (g.i.free hp) (g.h.free hp) k⟩⟩
theorem re_lst {es : List Expr} (h : RA Γ L E es env rs) (hl : rs.length ≤ sizeLine := by exact Nat.le_of_ble_eq_true rfl) : RE Γ L E (.List es pos) env (rL rs) := (rf_lst h hl).re
/-! ### fields -/
theorem Oks.lookup {H : Hp} {f : Str} : ∀ {fs : List (Str × Rp)} {ws : List (Str × V)}, ws.map Prod.fst = fs.map Prod.fst → Oks H (fs.map Prod.snd) (ws.map Prod.snd) → fs.lookup f = some r → ∃ v, ws.lookup f = some v ∧ r.ok H v
  | [], [], _, _, e => by cases e
  | [], _ :: _, h, _, _ => by simp at h
  | _ :: _, [], h, _, _ => by simp at h
  | (g, q) :: fs, (g', v) :: ws, h, o, e => by
    have h0 : g' = g ∧ ws.map Prod.fst = fs.map Prod.fst := by simpa using h
    obtain ⟨rfl, h1⟩ := h0
    rw [List.lookup_cons] at e ⊢
    cases hfg : f == g' with
    | true =>
      rw [hfg] at e
      have e' : q = r := by simpa using e
      subst e'
      exact ⟨v, rfl, o.1⟩
    | false =>
      rw [hfg] at e
      exact Oks.lookup h1 o.2 e
theorem re_fld {C : Addr} {fs : List (Str × Rp)} {f : Str} (hC : Cls Γ.K C) (hn : NoAttr Γ.K C f) (hl : fs.lookup f = some r) (h : RE Γ L E e env (rO C fs)) (hb : ∀ en : Env, attributeBase e f en (eval e en) = eval e en := by intro _; rfl) :
    RE Γ L E (.Attribute e f pos) env r := by
  obtain ⟨t, h1, h2⟩ := h
  refine ⟨tFld Γ.K t f, fun X o => by have z := pe_fld (X := X) (f := f) (pos := pos) (h1 X o) (hb _); rw [o.K] at z; exact z, fun H0 B H σ Q s q => h2 H0 B H σ _ s fun v B2 H2 g ⟨p, dx, ws, e1, hp, hk, ho⟩ => ?_⟩
  obtain ⟨u, e2, o2⟩ := Oks.lookup hk ho hl
  exact ⟨p, C, dx, ws, u, e1, g.i _ _ hp, hC, hn, e2, q u B2 H2 g o2⟩
end
end Rl
/-! text RL4 -/
set_option Elab.async false
set_option linter.all false
set_option maxRecDepth 100000
set_option maxHeartbeats 2000000
namespace Rl
open PySem PySem.Spec PyProof.Rows L2
/-! ### promises -/
def Sp0 {α : Type} (pre : α → Prop) (pf : α → List Rp) (res : α → Rp) : Sp := fun vs H Q _ =>
  ∃ (x : α) (B : Hp), pre x ∧ Same B H ∧ Oks B (pf x) vs ∧ ∀ v B2 H2, Grow B H B2 H2 → (res x).ok B2 v → Q v H2
inductive Res where
  | ok (r : Rp)
  | err (c : XC)
def ResOk (o : Res) (B H : Hp) (Q : VK) (E : XK) : Prop := match o with
  | .ok r => ∀ v B2 H2, Grow B H B2 H2 → r.ok B2 v → Q v H2
  | .err c => ∀ d B2 H2, Grow B H B2 H2 → c.ok H2 d → E c.cls d H2
def SpX {α : Type} (pre : α → Prop) (pf : α → List Rp) (res : α → Res) : Sp := fun vs H Q E =>
  ∃ (x : α) (B : Hp), pre x ∧ Same B H ∧ Oks B (pf x) vs ∧ ResOk (res x) B H Q E
structure FnF (Γ : Cg) (C : CXT) (j : Nat) (x : Str) (ps : List Str) (sp : Sp) : Prop where
  ex : ∃ (f : Addr) (fd : FuncData), Γ.mg x = some (.ref f) ∧ PySem.W.keepIn Γ.K (.ref f) = true ∧ Binds Γ.K fd ps [] ∧ FnOk Γ.P Γ.w Γ.K Γ.mg Γ.base C j f fd ps sp
abbrev Fn0 (Γ : Cg) (j : Nat) (x : Str) (ps : List Str) (sp : Sp) : Prop := FnF Γ CX0 j x ps sp
abbrev FnX (Γ : Cg) (j : Nat) (x : Str) (ps : List Str) (sp : Sp) : Prop := FnF Γ (L2.CX Γ.P Γ.w) j x ps sp
section
variable {Γ : Cg} {L : Lc} {E : Wc} {env : List Sl} {e a b c : Expr} {es : List Expr} {pos p : Pos} {r ra rb rc : Rp} {rs : List Rp}
theorem pe_fn0 {j : Nat} {x : Str} {ps : List Str} {sp : Sp} {t : TA} {X : Cx} (F : Fn0 Γ j x ps sp) (hj : j ≤ E.k) (hg : gloB L x = true) (o : Ok Γ L E X) (ha : PA X (e :: es) t)
    (hs : ∀ en : Env, starEach (e :: es) en = (false, eval e en) :: starEach es en) (hp : ∀ (q : Pos) (en : Env), (backTo q (starEach es en)).any (·.1) = false) : PE X (.Call (.Name x p) (e :: es) [] pos) (tCall sp [] E0 t) := by
  obtain ⟨f, fd, h1, h2, h3, h4⟩ := F.ex
  have F' : FnOk X.prog X.w X.K X.mg X.base CX0 j f fd ps sp := by rw [o.prog, o.w, o.K, o.mg, o.base]; exact h4
  exact pe_call F' (o.room.mono hj) (o.gl hg) (by rw [o.mg]; exact h1) (by rw [o.K]; exact h2) (by rw [o.K]; exact h3) .nil pass0 ha (gloB_ok hg).2.1 (hs _) (hp _ _)
theorem pe_fnX {j : Nat} {x : Str} {ps : List Str} {sp : Sp} {t : TA} {X : Cx} (F : FnX Γ j x ps sp) (hj : j ≤ E.k) (hg : gloB L x = true) (o : Ok Γ L E X) (ha : PA X (e :: es) t)
    (hs : ∀ en : Env, starEach (e :: es) en = (false, eval e en) :: starEach es en) (hp : ∀ (q : Pos) (en : Env), (backTo q (starEach es en)).any (·.1) = false) : PE X (.Call (.Name x p) (e :: es) [] pos) (tCall sp [] E.xk t) := by
  obtain ⟨f, fd, h1, h2, h3, h4⟩ := F.ex
  have F' : FnOk X.prog X.w X.K X.mg X.base (L2.CX X.prog X.w) j f fd ps sp := by rw [o.prog, o.w, o.K, o.mg, o.base]; exact h4
  exact pe_call F' (o.room.mono hj) (o.gl hg) (by rw [o.mg]; exact h1) (by rw [o.K]; exact h2) (by rw [o.K]; exact h3) .nil o.pass ha (gloB_ok hg).2.1 (hs _) (hp _ _)
/-- a call of a def that raises nothing -/
theorem re_call {α : Type} {pre : α → Prop} {pf : α → List Rp} {res : α → Rp} {j : Nat} {x : Str} {ps : List Str} (F : Fn0 Γ j x ps (Sp0 pre pf res)) (y : α) (hy : pre y) (ha : RA Γ L E (e :: es) env (pf y)) (hj : j ≤ E.k := by exact Nat.le_of_ble_eq_true rfl)
    (hg : gloB L x = true := by decide +kernel) (hs : ∀ en : Env, starEach (e :: es) en = (false, eval e en) :: starEach es en := by intro _; rfl) (hp : ∀ (q : Pos) (en : Env), (backTo q (starEach es en)).any (·.1) = false := by intro _ _; rfl) :
    RE Γ L E (.Call (.Name x p) (e :: es) [] pos) env (res y) := by
  obtain ⟨t, h1, h2⟩ := ha
  refine ⟨tCall _ [] E0 t, fun X o => pe_fn0 F hj hg o (h1 X o) hs hp, fun H0 B H σ Q s q => h2 H0 B H σ _ s fun vs B2 H2 g k => ?_⟩
  rw [List.append_nil]
  exact ⟨y, B2, hy, g.i, k, fun v B3 H3 g2 k2 => q v B3 H3 (g.trans g2) k2⟩
/-- a call of a def that might raise: here it doesn't -/
theorem re_callX {α : Type} {pre : α → Prop} {pf : α → List Rp} {res : α → Res} {j : Nat} {x : Str} {ps : List Str} (F : FnX Γ j x ps (SpX pre pf res)) (y : α) (hy : pre y) (hr : res y = .ok r) (ha : RA Γ L E (e :: es) env (pf y)) (hj : j ≤ E.k := by exact Nat.le_of_ble_eq_true rfl)
    (hg : gloB L x = true := by decide +kernel) (hs : ∀ en : Env, starEach (e :: es) en = (false, eval e en) :: starEach es en := by intro _; rfl) (hp : ∀ (q : Pos) (en : Env), (backTo q (starEach es en)).any (·.1) = false := by intro _ _; rfl) :
    RE Γ L E (.Call (.Name x p) (e :: es) [] pos) env r := by
  obtain ⟨t, h1, h2⟩ := ha
  refine ⟨tCall _ [] E.xk t, fun X o => pe_fnX F hj hg o (h1 X o) hs hp, fun H0 B H σ Q s q => h2 H0 B H σ _ s fun vs B2 H2 g k => ?_⟩
  rw [List.append_nil]
  refine ⟨y, B2, hy, g.i, k, ?_⟩
  rw [hr]
  exact fun v B3 H3 g2 k2 => q v B3 H3 (g.trans g2) k2
/-- .. here it does -/
theorem rx_callX {α : Type} {pre : α → Prop} {pf : α → List Rp} {res : α → Res} {j : Nat} {x : Str} {ps : List Str} {k : XC} (F : FnX Γ j x ps (SpX pre pf res)) (y : α) (hy : pre y) (hr : res y = .err k) (ha : RA Γ L E (e :: es) env (pf y)) (hj : j ≤ E.k := by exact Nat.le_of_ble_eq_true rfl)
    (hg : gloB L x = true := by decide +kernel) (hs : ∀ en : Env, starEach (e :: es) en = (false, eval e en) :: starEach es en := by intro _; rfl) (hp : ∀ (q : Pos) (en : Env), (backTo q (starEach es en)).any (·.1) = false := by intro _ _; rfl) :
    RX Γ L E (.Call (.Name x p) (e :: es) [] pos) env k := by
  obtain ⟨t, h1, h2⟩ := ha
  refine ⟨tCall _ [] E.xk t, fun X o => pe_fnX F hj hg o (h1 X o) hs hp, fun H0 B H σ Q s q => h2 H0 B H σ _ s fun vs B2 H2 g k2 => ?_⟩
  rw [List.append_nil]
  refine ⟨y, B2, hy, g.i, k2, ?_⟩
  rw [hr]
  exact fun d B3 H3 g2 k3 => q d B3 H3 (g.trans g2) k3
/-- the result is flat: an own list or dict may be handed in -/
theorem RE.borrow {i : Nat} {xs : List Rp} {v : V} (he : env[i]? = some (.aL xs)) (h : RE Γ L E e (env.set i (.dat (rL xs))) (rV v)) : RE Γ L E e env (rV v) := by
  obtain ⟨t, h1, h2⟩ := h
  refine ⟨t, h1, fun H0 B H σ Q s q => ?_⟩
  obtain ⟨p, vs, e1, e2, e3, e4, e5⟩ := s.accL he
  have s2 : Sok H0 (upd B p (.lst vs)) H σ (env.set i (.dat (rL xs))) := by
    refine ⟨fun a o z => ?_, s.e0, by rw [List.length_set]; exact s.len, fun j x z => ?_, fun m n q hm hn => ?_⟩
    · by_cases hp : a = p
      · subst hp; rw [upd_same] at z; cases z; exact e2
      · rw [upd_ne hp] at z; exact s.ex _ _ z
    · by_cases hj : i = j
      · subst hj
        rw [List.getElem?_set_self (List.getElem?_eq_some_iff.mp he).1] at z
        cases z
        rw [e1]
        exact ⟨p, vs, rfl, upd_same, e5.mono (same_new e3 _)⟩
      · rw [List.getElem?_set_ne hj] at z
        have y := s.sl j x z
        cases x with
        | no => cases σ[j]?.join <;> trivial
        | dat r =>
          cases w : σ[j]?.join with
          | none => rw [w] at y; exact y.elim
          | some u => rw [w] at y; exact r.mono (same_new e3 _) y
        | aL rs =>
          cases w : σ[j]?.join with
          | none => rw [w] at y; exact y.elim
          | some u =>
            rw [w] at y
            obtain ⟨p2, vs2, rfl, y2, y3, y4, y5⟩ := y
            have ne : p2 ≠ p := fun z2 => hj (s.ap i j p ⟨⟨_, he, rfl⟩, e1⟩ ⟨⟨_, z, rfl⟩, by rw [join_of w, z2]⟩)
            exact ⟨p2, vs2, rfl, y2, by rw [upd_ne ne]; exact y3, y4, y5.mono (same_new e3 _)⟩
        | aD rs =>
          cases w : σ[j]?.join with
          | none => rw [w] at y; exact y.elim
          | some u =>
            rw [w] at y
            obtain ⟨p2, vs2, rfl, y2, y3, y4, y6, y5⟩ := y
            have ne : p2 ≠ p := fun z2 => hj (s.ap i j p ⟨⟨_, he, rfl⟩, e1⟩ ⟨⟨_, z, rfl⟩, by rw [join_of w, z2]⟩)
            exact ⟨p2, vs2, rfl, y2, by rw [upd_ne ne]; exact y3, y4, y6, y5.mono (same_new e3 _)⟩
    · have key : ∀ c, AccAt σ (env.set i (.dat (rL xs))) c q → AccAt σ env c q := fun c ⟨⟨x, hx, hxa⟩, hc⟩ => by
        by_cases hj : i = c
        · subst hj
          rw [List.getElem?_set_self (List.getElem?_eq_some_iff.mp he).1] at hx
          cases hx
          cases hxa
        · rw [List.getElem?_set_ne hj] at hx
          exact ⟨⟨x, hx, hxa⟩, hc⟩
      exact s.ap m n q (key m hm) (key n hn)
  exact h2 H0 _ H σ Q s2 fun u B2 H2 g k => q u B H2 (Grow.stay s.ex g.h) k
theorem RE.borrowD {i : Nat} {xs : List (Key × Rp)} {v : V} (he : env[i]? = some (.aD xs)) (h : RE Γ L E e (env.set i (.dat (rD xs))) (rV v)) : RE Γ L E e env (rV v) := by
  obtain ⟨t, h1, h2⟩ := h
  refine ⟨t, h1, fun H0 B H σ Q s q => ?_⟩
  obtain ⟨p, vs, e1, e2, e3, e4, e6, e5⟩ := s.accD he
  have s2 : Sok H0 (upd B p (.dK vs)) H σ (env.set i (.dat (rD xs))) := by
    refine ⟨fun a o z => ?_, s.e0, by rw [List.length_set]; exact s.len, fun j x z => ?_, fun m n q hm hn => ?_⟩
    · by_cases hp : a = p
      · subst hp; rw [upd_same] at z; cases z; exact e2
      · rw [upd_ne hp] at z; exact s.ex _ _ z
    · by_cases hj : i = j
      · subst hj
        rw [List.getElem?_set_self (List.getElem?_eq_some_iff.mp he).1] at z
        cases z
        rw [e1]
        exact ⟨p, vs, rfl, upd_same, e6, e5.mono (same_new e3 _)⟩
      · rw [List.getElem?_set_ne hj] at z
        have y := s.sl j x z
        cases x with
        | no => cases σ[j]?.join <;> trivial
        | dat r =>
          cases w : σ[j]?.join with
          | none => rw [w] at y; exact y.elim
          | some u => rw [w] at y; exact r.mono (same_new e3 _) y
        | aL rs =>
          cases w : σ[j]?.join with
          | none => rw [w] at y; exact y.elim
          | some u =>
            rw [w] at y
            obtain ⟨p2, vs2, rfl, y2, y3, y4, y5⟩ := y
            have ne : p2 ≠ p := fun z2 => hj (s.ap i j p ⟨⟨_, he, rfl⟩, e1⟩ ⟨⟨_, z, rfl⟩, by rw [join_of w, z2]⟩)
            exact ⟨p2, vs2, rfl, y2, by rw [upd_ne ne]; exact y3, y4, y5.mono (same_new e3 _)⟩
        | aD rs =>
          cases w : σ[j]?.join with
          | none => rw [w] at y; exact y.elim
          | some u =>
            rw [w] at y
            obtain ⟨p2, vs2, rfl, y2, y3, y4, y6, y5⟩ := y
            have ne : p2 ≠ p := fun z2 => hj (s.ap i j p ⟨⟨_, he, rfl⟩, e1⟩ ⟨⟨_, z, rfl⟩, by rw [join_of w, z2]⟩)
            exact ⟨p2, vs2, rfl, y2, by rw [upd_ne ne]; exact y3, y4, y6, y5.mono (same_new e3 _)⟩
    · have key : ∀ c, AccAt σ (env.set i (.dat (rD xs))) c q → AccAt σ env c q := fun c ⟨⟨x, hx, hxa⟩, hc⟩ => by
        by_cases hj : i = c
        · subst hj
          rw [List.getElem?_set_self (List.getElem?_eq_some_iff.mp he).1] at hx
          cases hx
          cases hxa
        · rw [List.getElem?_set_ne hj] at hx
          exact ⟨⟨x, hx, hxa⟩, hc⟩
      exact s.ap m n q (key m hm) (key n hn)
  exact h2 H0 _ H σ Q s2 fun u B2 H2 g k => q u B H2 (Grow.stay s.ex g.h) k
/-! ### built-in functions -/
/-- a call of a built-in by a rule of values: the arguments' reps -/
def CalK (r1 : List V → Hp → VK → Prop) (rs : List Rp) (r : Rp) : Prop := ∀ (B H : Hp) (vs : List V) (Q : VK), Same B H → Oks B rs vs → (∀ v B2 H2, Grow B H B2 H2 → r.ok B2 v → Q v H2) → r1 vs H Q
theorem re_blt {id : String} {x : Str} {r1 : List V → Hp → VK → Prop} (hm : Γ.mg x = none) (hc : ∀ X, Ok Γ L E X → CallR X (.builtin id) r1) (hk : CalK r1 rs r) (ha : RA Γ L E (e :: es) env rs) (hv : bootBuiltins x = some (.builtin id) := by decide +kernel)
    (hg : gloB L x = true := by decide +kernel) (hs : ∀ en : Env, starEach (e :: es) en = (false, eval e en) :: starEach es en := by intro _; rfl) (hp : ∀ (q : Pos) (en : Env), (backTo q (starEach es en)).any (·.1) = false := by intro _ _; rfl) :
    RE Γ L E (.Call (.Name x p) (e :: es) [] pos) env r := by
  obtain ⟨t, h1, h2⟩ := ha
  exact ⟨tCB r1 t, fun X o => pe_callB (hc X o) (o.gl hg) (by rw [o.mg]; exact hm) hv (h1 X o) (gloB_ok hg).2.2 (gloB_ok hg).2.1 (hs _) (hp _ _), fun H0 B H σ Q s q => h2 H0 B H σ _ s fun vs B2 H2 g k => hk B2 H2 vs Q g.i k fun v B3 H3 g2 k2 => q v B3 H3 (g.trans g2) k2⟩
theorem re_bty {T : String} {x : Str} {r1 : List V → Hp → VK → Prop} (hm : Γ.mg x = none) (hc : ∀ X, Ok Γ L E X → CallR X (.type T) r1) (hk : CalK r1 rs r) (ha : RA Γ L E (e :: es) env rs) (hv : bootBuiltins x = some (.type T) := by decide +kernel)
    (hg : gloB L x = true := by decide +kernel) (hs : ∀ en : Env, starEach (e :: es) en = (false, eval e en) :: starEach es en := by intro _; rfl) (hp : ∀ (q : Pos) (en : Env), (backTo q (starEach es en)).any (·.1) = false := by intro _ _; rfl) :
    RE Γ L E (.Call (.Name x p) (e :: es) [] pos) env r := by
  obtain ⟨t, h1, h2⟩ := ha
  exact ⟨tCB r1 t, fun X o => pe_callTy (hc X o) (o.gl hg) (by rw [o.mg]; exact hm) hv (h1 X o) (gloB_ok hg).2.2 (gloB_ok hg).2.1 (hs _) (hp _ _), fun H0 B H σ Q s q => h2 H0 B H σ _ s fun vs B2 H2 g k => hk B2 H2 vs Q g.i k fun v B3 H3 g2 k2 => q v B3 H3 (g.trans g2) k2⟩
/-- one argument, a list looked at -/
def CalP (K : PySem.W.Frag) (r1 : List V → Hp → VK → Prop) (rs : List Rp) (r : Rp) : Prop := ∀ (B H : Hp) (p : Addr) (vs : List V) (Q : VK), Same B H → SqL K H p vs → Oks B rs vs → (∀ v B2 H2, Grow B H B2 H2 → r.ok B2 v → Q v H2) → r1 [.ref p] H Q
theorem re_bltP {id : String} {x : Str} {r1 : List V → Hp → VK → Prop} (hm : Γ.mg x = none) (hc : ∀ X, Ok Γ L E X → CallR X (.builtin id) r1) (hk : CalP Γ.K r1 rs r) (ha : RPl Γ L E e env rs) (hv : bootBuiltins x = some (.builtin id) := by decide +kernel)
    (hg : gloB L x = true := by decide +kernel) (hs : ∀ en : Env, starEach [e] en = (false, eval e en) :: starEach [] en := by intro _; rfl) :
    RE Γ L E (.Call (.Name x p) [e] [] pos) env r := by
  obtain ⟨t, h1, h2⟩ := ha
  exact ⟨tCB r1 (tCons t tNil), fun X o => pe_callB (hc X o) (o.gl hg) (by rw [o.mg]; exact hm) hv (pa_cons (h1 X o) pa_nil (hs _)) (gloB_ok hg).2.2 (gloB_ok hg).2.1 (hs _) rfl,
    fun H0 B H σ Q s q => h2 H0 B H σ _ s fun p vs B2 H2 g k1 k2 => hk B2 H2 p vs Q g.i k1 k2 fun v B3 H3 g2 k3 => q v B3 H3 (g.trans g2) k3⟩
theorem re_btyP {T : String} {x : Str} {r1 : List V → Hp → VK → Prop} (hm : Γ.mg x = none) (hc : ∀ X, Ok Γ L E X → CallR X (.type T) r1) (hk : CalP Γ.K r1 rs r) (ha : RPl Γ L E e env rs) (hv : bootBuiltins x = some (.type T) := by decide +kernel)
    (hg : gloB L x = true := by decide +kernel) (hs : ∀ en : Env, starEach [e] en = (false, eval e en) :: starEach [] en := by intro _; rfl) :
    RE Γ L E (.Call (.Name x p) [e] [] pos) env r := by
  obtain ⟨t, h1, h2⟩ := ha
  exact ⟨tCB r1 (tCons t tNil), fun X o => pe_callTy (hc X o) (o.gl hg) (by rw [o.mg]; exact hm) hv (pa_cons (h1 X o) pa_nil (hs _)) (gloB_ok hg).2.2 (gloB_ok hg).2.1 (hs _) rfl,
    fun H0 B H σ Q s q => h2 H0 B H σ _ s fun p vs B2 H2 g k1 k2 => hk B2 H2 p vs Q g.i k1 k2 fun v B3 H3 g2 k3 => q v B3 H3 (g.trans g2) k3⟩
theorem re_len (hm : Γ.mg "len" = none) (ha : RPl Γ L E e env rs) (hg : gloB L "len" = true := by decide +kernel) (hs : ∀ en : Env, starEach [e] en = (false, eval e en) :: starEach [] en := by intro _; rfl) : RE Γ L E (.Call (.Name "len" p) [e] [] pos) env (rI rs.length) := by
  obtain ⟨t, h1, h2⟩ := ha
  refine ⟨tCB (fun xs H Q => ∃ p ys, xs = [.ref p] ∧ (SqL Γ.K H p ys ∨ SqT Γ.K H p ys) ∧ Q (.int ys.length) H) (tCons t tNil), fun X o => by have z := call_len_seq (X := X); rw [o.K] at z; exact pe_callB z (o.gl hg) (by rw [o.mg]; exact hm) PySem.boot_len (pa_cons (h1 X o) pa_nil (hs _)) (by decide) (by decide) (hs _) rfl, fun H0 B H σ Q s q => h2 H0 B H σ _ s fun p vs B2 H2 g k1 k2 => ?_⟩
  refine ⟨p, vs, rfl, .inl k1, ?_⟩
  rw [k2.length]
  exact q _ B2 H2 g rfl
theorem re_lenT (hm : Γ.mg "len" = none) (ha : RE Γ L E e env (rT rs)) (hg : gloB L "len" = true := by decide +kernel) (hs : ∀ en : Env, starEach [e] en = (false, eval e en) :: starEach [] en := by intro _; rfl) : RE Γ L E (.Call (.Name "len" p) [e] [] pos) env (rI rs.length) := by
  obtain ⟨t, h1, h2⟩ := ha
  refine ⟨tCB (fun xs H Q => ∃ p ys, xs = [.ref p] ∧ (SqL Γ.K H p ys ∨ SqT Γ.K H p ys) ∧ Q (.int ys.length) H) (tCons t tNil), fun X o => by have z := call_len_seq (X := X); rw [o.K] at z; exact pe_callB z (o.gl hg) (by rw [o.mg]; exact hm) PySem.boot_len (pa_cons (h1 X o) pa_nil (hs _)) (by decide) (by decide) (hs _) rfl, fun H0 B H σ Q s q => h2 H0 B H σ _ s fun v B2 H2 g ⟨p, vs, e1, k1, k2⟩ => ?_⟩
  subst e1
  refine ⟨p, vs, rfl, .inr (SqT.of (g.i _ _ k1)), ?_⟩
  rw [k2.length]
  exact q _ B2 H2 g rfl
theorem re_lenS {z : Str} (hz : z.length ≤ sizeLine) (hm : Γ.mg "len" = none) (ha : RE Γ L E e env (rS z)) (hg : gloB L "len" = true := by decide +kernel) (hs : ∀ en : Env, starEach [e] en = (false, eval e en) :: starEach [] en := by intro _; rfl) : RE Γ L E (.Call (.Name "len" p) [e] [] pos) env (rI z.length) :=
  re_blt (rs := [rS z]) hm (fun _ _ => call_len_str) (fun B H vs Q s k q => by
    obtain ⟨v, rfl, k1⟩ := k.one
    have k1 : v = .str z := k1
    exact ⟨z, by rw [k1], hz, q _ B H (Grow.refl s) rfl⟩) (ra_cons ha ra_nil hs) PySem.boot_len hg hs (by intro _ _; rfl)
theorem re_max2 {i j : Int} (hm : Γ.mg "max" = none) (ha : RE Γ L E a env (rI i)) (hb : RE Γ L E b env (rI j)) (hg : gloB L "max" = true := by decide +kernel) (hs : ∀ en : Env, starEach [a, b] en = (false, eval a en) :: starEach [b] en := by intro _; rfl) (hs2 : ∀ en : Env, starEach [b] en = (false, eval b en) :: starEach [] en := by intro _; rfl) :
    RE Γ L E (.Call (.Name "max" p) [a, b] [] pos) env (rI (max i j)) :=
  re_blt (rs := [rI i, rI j]) hm (fun X o => call_max2 o.calm) (fun B H vs Q s k q => by
    obtain ⟨v, u, rfl, k1, k2⟩ := k.two
    have k1 : v = .int i := k1
    have k2 : u = .int j := k2
    refine ⟨i, j, by rw [k1, k2], ?_⟩
    have e : (if j > i then j else i) = max i j := by
      by_cases h : j > i
      · rw [if_pos h]; omega
      · rw [if_neg h]; omega
    rw [e]
    exact q _ B H (Grow.refl s) rfl) (ra_cons ha (ra_cons hb ra_nil hs2) hs) (by decide +kernel) hg hs (fun q en => by rw [hs2]; rfl)
theorem re_min2 {i j : Int} (hm : Γ.mg "min" = none) (ha : RE Γ L E a env (rI i)) (hb : RE Γ L E b env (rI j)) (hg : gloB L "min" = true := by decide +kernel) (hs : ∀ en : Env, starEach [a, b] en = (false, eval a en) :: starEach [b] en := by intro _; rfl) (hs2 : ∀ en : Env, starEach [b] en = (false, eval b en) :: starEach [] en := by intro _; rfl) :
    RE Γ L E (.Call (.Name "min" p) [a, b] [] pos) env (rI (min i j)) :=
  re_blt (rs := [rI i, rI j]) hm (fun X o => call_min2 o.calm) (fun B H vs Q s k q => by
    obtain ⟨v, u, rfl, k1, k2⟩ := k.two
    have k1 : v = .int i := k1
    have k2 : u = .int j := k2
    refine ⟨i, j, by rw [k1, k2], ?_⟩
    have e : (if j < i then j else i) = min i j := by
      by_cases h : j < i
      · rw [if_pos h]; omega
      · rw [if_neg h]; omega
    rw [e]
    exact q _ B H (Grow.refl s) rfl) (ra_cons ha (ra_cons hb ra_nil hs2) hs) (by decide +kernel) hg hs (fun q en => by rw [hs2]; rfl)
/-- the greatest, the least of a list of ints -/
def maxL : List Int → Int
  | [] => 0
  | [x] => x
  | x :: y :: r => max x (maxL (y :: r))
def minL : List Int → Int
  | [] => 0
  | [x] => x
  | x :: y :: r => min x (minL (y :: r))
theorem maxL_mem : ∀ {xs : List Int}, xs ≠ [] → maxL xs ∈ xs ∧ ∀ x ∈ xs, x ≤ maxL xs
  | [], h => absurd rfl h
  | [x], _ => ⟨by simp [maxL], fun y hy => by simp at hy; subst hy; exact Int.le_refl _⟩
  | x :: y :: r, _ => by
    obtain ⟨h1, h2⟩ := maxL_mem (xs := y :: r) (by simp)
    unfold maxL
    refine ⟨?_, fun z hz => ?_⟩
    · by_cases h : x ≤ maxL (y :: r)
      · rw [Int.max_eq_right h]; exact List.mem_cons_of_mem _ h1
      · rw [Int.max_eq_left (by omega)]; exact List.mem_cons_self
    · rcases List.mem_cons.mp hz with rfl | hz
      · exact Int.le_max_left _ _
      · exact Int.le_trans (h2 z hz) (Int.le_max_right _ _)
theorem minL_mem : ∀ {xs : List Int}, xs ≠ [] → minL xs ∈ xs ∧ ∀ x ∈ xs, minL xs ≤ x
  | [], h => absurd rfl h
  | [x], _ => ⟨by simp [minL], fun y hy => by simp at hy; subst hy; exact Int.le_refl _⟩
  | x :: y :: r, _ => by
    obtain ⟨h1, h2⟩ := minL_mem (xs := y :: r) (by simp)
    unfold minL
    refine ⟨?_, fun z hz => ?_⟩
    · by_cases h : x ≤ minL (y :: r)
      · rw [Int.min_eq_left h]; exact List.mem_cons_self
      · rw [Int.min_eq_right (by omega)]; exact List.mem_cons_of_mem _ h1
    · rcases List.mem_cons.mp hz with rfl | hz
      · exact Int.min_le_left _ _
      · exact Int.le_trans (Int.min_le_right _ _) (h2 z hz)
theorem maxL_is {xs : List Int} {m : Int} (h : m ∈ xs) (h2 : ∀ x ∈ xs, x ≤ m) : m = maxL xs := by
  have ne : xs ≠ [] := List.ne_nil_of_mem h
  obtain ⟨a, b⟩ := maxL_mem ne
  have := h2 _ a
  have := b _ h
  omega
theorem minL_is {xs : List Int} {m : Int} (h : m ∈ xs) (h2 : ∀ x ∈ xs, m ≤ x) : m = minL xs := by
  have ne : xs ≠ [] := List.ne_nil_of_mem h
  obtain ⟨a, b⟩ := minL_mem ne
  have := h2 _ a
  have := b _ h
  omega
theorem re_maxL {ns : List Int} (hn : ns ≠ []) (hm : Γ.mg "max" = none) (ha : RPl Γ L E e env (ns.map rI)) (hg : gloB L "max" = true := by decide +kernel) (hs : ∀ en : Env, starEach [e] en = (false, eval e en) :: starEach [] en := by intro _; rfl) : RE Γ L E (.Call (.Name "max" p) [e] [] pos) env (rI (maxL ns)) :=
  re_bltP (r1 := rMax Γ.K) hm (fun X o => by have z := cr_max (X := X) o.calm; rw [o.K] at z; exact z) (fun B H p vs Q s k1 k2 q => by
    have e : vs = ns.map V.int := Oks.eqs (fun _ _ q => q) k2
    subst e
    refine ⟨p, ns, rfl, k1, List.length_pos_iff.mpr hn, fun m h1 h2 => ?_⟩
    rw [maxL_is h1 h2]
    exact q _ B H (Grow.refl s) rfl) ha (by decide +kernel) hg hs
theorem re_minL {ns : List Int} (hn : ns ≠ []) (hm : Γ.mg "min" = none) (ha : RPl Γ L E e env (ns.map rI)) (hg : gloB L "min" = true := by decide +kernel) (hs : ∀ en : Env, starEach [e] en = (false, eval e en) :: starEach [] en := by intro _; rfl) : RE Γ L E (.Call (.Name "min" p) [e] [] pos) env (rI (minL ns)) :=
  re_bltP (r1 := rMin Γ.K) hm (fun X o => by have z := cr_min (X := X) o.calm; rw [o.K] at z; exact z) (fun B H p vs Q s k1 k2 q => by
    have e : vs = ns.map V.int := Oks.eqs (fun _ _ q => q) k2
    subst e
    refine ⟨p, ns, rfl, k1, List.length_pos_iff.mpr hn, fun m h1 h2 => ?_⟩
    rw [minL_is h1 h2]
    exact q _ B H (Grow.refl s) rfl) ha (by decide +kernel) hg hs
theorem re_any {bs : List Bool} (hm : Γ.mg "any" = none) (ha : RPl Γ L E e env (bs.map rB)) (hg : gloB L "any" = true := by decide +kernel) (hs : ∀ en : Env, starEach [e] en = (false, eval e en) :: starEach [] en := by intro _; rfl) : RE Γ L E (.Call (.Name "any" p) [e] [] pos) env (rB (bs.any id)) :=
  re_bltP (r1 := rAny Γ.K) hm (fun X o => by have z := cr_any (X := X) o.calm; rw [o.K] at z; exact z) (fun B H p vs Q s k1 k2 q => by
    have e : vs = bs.map V.bl := Oks.eqs (fun _ _ q => q) k2
    subst e
    exact ⟨p, bs, rfl, k1, q _ B H (Grow.refl s) rfl⟩) ha (by decide +kernel) hg hs
theorem re_all {bs : List Bool} (hm : Γ.mg "all" = none) (ha : RPl Γ L E e env (bs.map rB)) (hg : gloB L "all" = true := by decide +kernel) (hs : ∀ en : Env, starEach [e] en = (false, eval e en) :: starEach [] en := by intro _; rfl) : RE Γ L E (.Call (.Name "all" p) [e] [] pos) env (rB (bs.all id)) :=
  re_bltP (r1 := rAll Γ.K) hm (fun X o => by have z := cr_all (X := X) o.calm; rw [o.K] at z; exact z) (fun B H p vs Q s k1 k2 q => by
    have e : vs = bs.map V.bl := Oks.eqs (fun _ _ q => q) k2
    subst e
    exact ⟨p, bs, rfl, k1, q _ B H (Grow.refl s) rfl⟩) ha (by decide +kernel) hg hs
/-- list(xs): a new list; tuple(xs) -/
theorem rf_list (hm : Γ.mg "list" = none) (ha : RPl Γ L E e env rs) (hg : gloB L "list" = true := by decide +kernel) (hs : ∀ en : Env, starEach [e] en = (false, eval e en) :: starEach [] en := by intro _; rfl) : RF Γ L E (.Call (.Name "list" p) [e] [] pos) env rs := by
  obtain ⟨t, h1, h2⟩ := ha
  refine ⟨tCB (fun xs H Q => ∃ p ys, xs = [.ref p] ∧ (SqL Γ.K H p ys ∨ SqT Γ.K H p ys) ∧ ∀ l, H l = none → Q (.ref l) (upd H l (.lst ys))) (tCons t tNil), fun X o => by have z := call_list_of (X := X); rw [o.K] at z; exact pe_callTy z (o.gl hg) (by rw [o.mg]; exact hm) (by decide +kernel) (pa_cons (h1 X o) pa_nil (hs _)) (by decide) (by decide) (hs _) rfl, fun H0 B H σ Q s q => h2 H0 B H σ _ s fun p vs B2 H2 g k1 k2 => ⟨p, vs, rfl, .inl k1, fun l hl => ?_⟩⟩
  exact q l vs B2 _ (g.trans (Grow.stay g.i (same_new hl _))) upd_same (g.i.free hl) (g.h.free hl) k2
theorem re_list (hm : Γ.mg "list" = none) (ha : RPl Γ L E e env rs) (hg : gloB L "list" = true := by decide +kernel) (hs : ∀ en : Env, starEach [e] en = (false, eval e en) :: starEach [] en := by intro _; rfl) : RE Γ L E (.Call (.Name "list" p) [e] [] pos) env (rL rs) := (rf_list hm ha hg hs).re
theorem re_tuple (hm : Γ.mg "tuple" = none) (ha : RPl Γ L E e env rs) (hg : gloB L "tuple" = true := by decide +kernel) (hs : ∀ en : Env, starEach [e] en = (false, eval e en) :: starEach [] en := by intro _; rfl) : RE Γ L E (.Call (.Name "tuple" p) [e] [] pos) env (rT rs) :=
  re_btyP (r1 := fun xs H Q => ∃ p ys, xs = [.ref p] ∧ ((SqL Γ.K H p ys ∧ ∀ l, H l = none → Q (.ref l) (upd H l (.tup ys))) ∨ (SqT Γ.K H p ys ∧ Q (.ref p) H))) hm (fun X o => by have z := call_tuple_of (X := X); rw [o.K] at z; exact z) (fun B H p vs Q s k1 k2 q =>
    ⟨p, vs, rfl, .inl ⟨k1, fun l hl => q _ (upd B l (.tup vs)) _ (Grow.new s hl _) ⟨l, vs, rfl, upd_same, k2.mono (same_new (s.free hl) _)⟩⟩⟩) ha (by decide +kernel) hg hs
theorem re_abs {i : Int} (hm : Γ.mg "abs" = none) (ha : RE Γ L E e env (rI i)) (hg : gloB L "abs" = true := by decide +kernel) (hs : ∀ en : Env, starEach [e] en = (false, eval e en) :: starEach [] en := by intro _; rfl) : RE Γ L E (.Call (.Name "abs" p) [e] [] pos) env (rI (i.natAbs : Int)) :=
  re_blt (rs := [rI i]) hm (fun X o => call_abs) (fun B H vs Q s k q => by
    obtain ⟨v, rfl, k1⟩ := k.one
    have k1 : v = .int i := k1
    refine ⟨i, by rw [k1], ?_⟩
    have e : (if i < 0 then -i else i) = (i.natAbs : Int) := by
      by_cases h : i < 0
      · rw [if_pos h]; omega
      · rw [if_neg h]; omega
    rw [e]
    exact q _ B H (Grow.refl s) rfl) (ra_cons ha ra_nil hs) (by decide +kernel) hg hs (by intro _ _; rfl)
theorem re_intB {k : Bool} (hm : Γ.mg "int" = none) (ha : RE Γ L E e env (rB k)) (hg : gloB L "int" = true := by decide +kernel) (hs : ∀ en : Env, starEach [e] en = (false, eval e en) :: starEach [] en := by intro _; rfl) : RE Γ L E (.Call (.Name "int" p) [e] [] pos) env (rI (if k then 1 else 0)) :=
  re_bty (rs := [rB k]) hm (fun X o => call_int1) (fun B H vs Q s k2 q => by
    obtain ⟨v, rfl, k1⟩ := k2.one
    have k1 : v = .bl k := k1
    exact .inr ⟨k, by rw [k1], q _ B H (Grow.refl s) rfl⟩) (ra_cons ha ra_nil hs) (by decide +kernel) hg hs (by intro _ _; rfl)
theorem re_intS {z : Str} {n : Int} (hz : PySem.intText? z = some n) (hl : z.length ≤ 640) (hm : Γ.mg "int" = none) (ha : RE Γ L E e env (rS z)) (hg : gloB L "int" = true := by decide +kernel) (hs : ∀ en : Env, starEach [e] en = (false, eval e en) :: starEach [] en := by intro _; rfl) : RE Γ L E (.Call (.Name "int" p) [e] [] pos) env (rI n) :=
  re_bty (rs := [rS z]) hm (fun X o => call_int_str) (fun B H vs Q s k2 q => by
    obtain ⟨v, rfl, k1⟩ := k2.one
    have k1 : v = .str z := k1
    exact ⟨z, n, by rw [k1], hz, hl, q _ B H (Grow.refl s) rfl⟩) (ra_cons ha ra_nil hs) (by decide +kernel) hg hs (by intro _ _; rfl)
theorem re_strI {i : Int} (hl : i.natAbs.log2 < 1920) (hm : Γ.mg "str" = none) (ha : RE Γ L E e env (rI i)) (hg : gloB L "str" = true := by decide +kernel) (hs : ∀ en : Env, starEach [e] en = (false, eval e en) :: starEach [] en := by intro _; rfl) : RE Γ L E (.Call (.Name "str" p) [e] [] pos) env (rS (toString i)) :=
  re_bty (rs := [rI i]) hm (fun X o => call_str_int) (fun B H vs Q s k2 q => by
    obtain ⟨v, rfl, k1⟩ := k2.one
    have k1 : v = .int i := k1
    exact ⟨i, by rw [k1], hl, q _ B H (Grow.refl s) rfl⟩) (ra_cons ha ra_nil hs) (by decide +kernel) hg hs (by intro _ _; rfl)
end
end Rl
/-! text RL5 -/
set_option Elab.async false
set_option linter.all false
set_option maxRecDepth 100000
set_option maxHeartbeats 2000000
namespace Rl
open PySem PySem.Spec PyProof.Rows L2
/-! ### what is walked -/
def Turns {α : Type} (J : It) (B1 : Hp) (xs : List α) (f : α → Rp) : Prop := ∀ (i : Nat) (B H : Hp), Same B1 B → Same B H →
  (∀ x, xs[i]? = some x → J.go i H ∧ ∀ v H', J.yld i H v H' → ∃ B', Grow B H B' H' ∧ (f x).ok B' v) ∧ (i = xs.length → J.stop i H)
def RI (Γ : Cg) (L : Lc) (E : Wc) (tg iter : Expr) (env : List Sl) {α : Type} (xs : List α) (f : α → Rp) : Prop :=
  ∃ t : TI, (∀ X, Ok Γ L E X → PI X tg iter t) ∧ ∀ (H0 B H : Hp) (σ : L2.St) (R : It → Hp → Prop), Sok H0 B H σ env → (∀ J B1 H1, Grow B H B1 H1 → Turns J B1 xs f → R J H1) → t σ H R
/-- a target takes what r tells; js: the slots that are stored -/
def RG (Γ : Cg) (L : Lc) (E : Wc) (tg : Expr) (js : List Nat) (env : List Sl) (r : Rp) (env' : List Sl) : Prop :=
  ∃ g : TG, (∀ X, Ok Γ L E X → PG X tg g) ∧ ∀ (H0 B H : Hp) (σ : L2.St) (v : V) (Q : L2.St → Hp → Prop), Sok H0 B H σ env → r.ok B v →
    (∀ σ', Sok H0 B H σ' env' → σ'.length = σ.length → (∀ i, i ∉ js → σ'[i]? = σ[i]?) → Q σ' H) → g v σ H Q
section
variable {Γ : Cg} {L : Lc} {E : Wc} {env : List Sl} {e a b c tg iter elt : Expr} {es : List Expr} {pos p : Pos} {r ra rb rc : Rp} {rs : List Rp} {α : Type} {xs : List α} {f h : α → Rp}
theorem atR {xs : List α} {f : α → Rp} {H : Hp} {vs : List V} {i : Nat} {x : α} {v : V} (o : Oks H (xs.map f) vs) (e : xs[i]? = some x) (e2 : vs[i]? = some v) : (f x).ok H v := by
  obtain ⟨r, h1, h2⟩ := o.getV e2
  rw [List.getElem?_map, e] at h1
  cases h1
  exact h2
theorem ri_list (ha : RE Γ L E e env (rL (xs.map f))) : RI Γ L E tg e env xs f := by
  obtain ⟨t, h1, h2⟩ := ha
  refine ⟨iList Γ.K t, fun X o => by have z := pi_list (tg := tg) (h1 X o); rw [o.K] at z; exact z, fun H0 B H σ R s q => h2 H0 B H σ _ s fun v B2 H2 g ⟨p, vs, e1, hp, ho⟩ => ?_⟩
  refine ⟨p, e1, ⟨vs, SqL.of (g.i _ _ hp)⟩, q _ B2 H2 g fun i B3 H3 s1 s2 => ⟨fun x hx => ?_, fun hi => ⟨vs, SqL.of (s2 _ _ (s1 _ _ hp)), by rw [ho.length, List.length_map, hi]; exact Nat.le_refl _⟩⟩⟩
  have hl : (xs.map f)[i]? = some (f x) := by rw [List.getElem?_map, hx]; rfl
  obtain ⟨v1, e2, k2⟩ := ho.get hl
  refine ⟨⟨vs, v1, SqL.of (s2 _ _ (s1 _ _ hp)), e2⟩, fun u H' ⟨e3, e4⟩ => ?_⟩
  subst e3
  have e5 := e4 vs (SqL.of (s2 _ _ (s1 _ _ hp)))
  rw [e2] at e5
  cases e5
  exact ⟨B3, Grow.refl s2, (f x).mono s1 k2⟩
theorem ri_tup (ha : RE Γ L E e env (rT (xs.map f))) : RI Γ L E tg e env xs f := by
  obtain ⟨t, h1, h2⟩ := ha
  refine ⟨iTup Γ.K t, fun X o => by have z := pi_tup (tg := tg) (h1 X o); rw [o.K] at z; exact z, fun H0 B H σ R s q => h2 H0 B H σ _ s fun v B2 H2 g ⟨p, vs, e1, hp, ho⟩ => ?_⟩
  refine ⟨p, e1, ⟨vs, SqT.of (g.i _ _ hp)⟩, q _ B2 H2 g fun i B3 H3 s1 s2 => ⟨fun x hx => ?_, fun hi => ⟨vs, SqT.of (s2 _ _ (s1 _ _ hp)), by rw [ho.length, List.length_map, hi]; exact Nat.le_refl _⟩⟩⟩
  have hl : (xs.map f)[i]? = some (f x) := by rw [List.getElem?_map, hx]; rfl
  obtain ⟨v1, e2, k2⟩ := ho.get hl
  refine ⟨⟨vs, v1, SqT.of (s2 _ _ (s1 _ _ hp)), e2⟩, fun u H' ⟨e3, e4⟩ => ?_⟩
  subst e3
  have e5 := e4 vs (SqT.of (s2 _ _ (s1 _ _ hp)))
  rw [e2] at e5
  cases e5
  exact ⟨B3, Grow.refl s2, (f x).mono s1 k2⟩
theorem range_at {n i x : Nat} (h : (List.range n)[i]? = some x) : i < n ∧ x = i := by
  obtain ⟨h1, h2⟩ := List.getElem?_eq_some_iff.mp h
  rw [List.length_range] at h1
  exact ⟨h1, by rw [← h2, List.getElem_range]⟩
theorem ri_range {n : Nat} (hn : n < 2 ^ 62) (hm : Γ.mg "range" = none) (ha : RE Γ L E a env (rI (n : Int))) (hg : gloB L "range" = true := by decide +kernel) (hs : ∀ en : Env, starEach [a] en = [(false, eval a en)] := by intro _; rfl) :
    RI Γ L E tg (.Call (.Name "range" p) [a] [] pos) env (List.range n) (fun k => rI (k : Int)) := by
  obtain ⟨t, h1, h2⟩ := ha
  refine ⟨iRng1 (tCons t tNil), fun X o => pi_range1 (o.gl hg) (by rw [o.mg]; exact hm) (pa_cons (h1 X o) pa_nil (hs _)) (hs _), fun H0 B H σ R s q => h2 H0 B H σ _ s fun v B2 H2 g k => ?_⟩
  have k : v = .int (n : Int) := k
  have n2 : ((n : Int)) < 2 ^ 62 := by
    have : ((n : Int)) < ((2 ^ 62 : Nat) : Int) := Int.ofNat_lt.mpr hn
    exact this
  refine ⟨(n : Int), by rw [k], by omega, n2, q _ B2 H2 g fun i B3 H3 s1 s2 => ⟨fun x hx => ?_, fun hi => ?_⟩⟩
  · obtain ⟨h3, h4⟩ := range_at hx
    refine ⟨by show i < Int.toNat _; rw [Int.toNat_natCast]; exact h3, fun u H' ⟨e3, e4⟩ => ?_⟩
    subst e3 h4
    refine ⟨B3, Grow.refl s2, ?_⟩
    show u = .int (x : Int)
    rw [e4, Int.zero_add]
  · show Int.toNat _ ≤ i
    rw [Int.toNat_natCast, hi, List.length_range]
    exact Nat.le_refl _
theorem ri_str {z : Str} (ha : RE Γ L E a env (rS z)) : RI Γ L E tg a env z.cps.toList (fun ch => rS ⟨#[ch]⟩) := by
  obtain ⟨t, h1, h2⟩ := ha
  refine ⟨iStr t, fun X o => pi_str (h1 X o), fun H0 B H σ R s q => h2 H0 B H σ _ s fun v B2 H2 g k => ⟨z, k, q _ B2 H2 g fun i B3 H3 s1 s2 => ⟨fun x hx => ?_, fun hi => ?_⟩⟩⟩
  · have hx' : z.cps[i]? = some x := by rw [← Array.getElem?_toList]; exact hx
    refine ⟨(Array.getElem?_eq_some_iff.mp hx').1, fun u H' ⟨e3, ch, e4, e5⟩ => ?_⟩
    subst e3
    rw [hx'] at e4
    cases e4
    exact ⟨B3, Grow.refl s2, e5⟩
  · show z.cps.size ≤ i
    rw [hi, Array.length_toList]
    exact Nat.le_refl _
theorem ri_enum {elts : List Expr} {kk : Nat} {tpos : Pos} (hm : Γ.mg "enumerate" = none) (ha : RE Γ L E a env (rL (xs.map f))) (hg : gloB L "enumerate" = true := by decide +kernel) (hs : ∀ en : Env, starEach [a] en = [(false, eval a en)] := by intro _; rfl) :
    RI Γ L E (.Tuple elts kk tpos) (.Call (.Name "enumerate" p) [a] [] pos) env xs.zipIdx (fun y => rT [rI (y.2 : Int), f y.1]) := by
  obtain ⟨t, h1, h2⟩ := ha
  refine ⟨iEnum Γ.K (tCons t tNil), fun X o => by have z := pi_enum (X := X) (elts := elts) (kk := kk) (tpos := tpos) (p := p) (pos := pos) (o.gl hg) (by rw [o.mg]; exact hm) (pa_cons (h1 X o) pa_nil (hs _)) (hs _); rw [o.K] at z; exact z, fun H0 B H σ R s q => h2 H0 B H σ _ s fun v B2 H2 g ⟨p, vs, e1, hp, ho⟩ => ?_⟩
  refine ⟨p, vs, by rw [e1], SqL.of (g.i _ _ hp), q _ B2 H2 g fun i B3 H3 s1 s2 => ⟨fun x hx => ?_, fun hi => ⟨vs, SqL.of (s2 _ _ (s1 _ _ hp)), by rw [ho.length, List.length_map, hi, List.length_zipIdx]; exact Nat.le_refl _⟩⟩⟩
  rw [List.getElem?_zipIdx] at hx
  cases hxi : xs[i]? with
  | none => rw [hxi] at hx; cases hx
  | some x0 =>
    rw [hxi] at hx
    have hx : (x0, 0 + i) = x := by simpa using hx
    subst hx
    have hl : (xs.map f)[i]? = some (f x0) := by rw [List.getElem?_map, hxi]; rfl
    obtain ⟨v1, e2, k2⟩ := ho.get hl
    refine ⟨⟨vs, v1, SqL.of (s2 _ _ (s1 _ _ hp)), e2⟩, fun u H' ⟨T, y, e3, e4, e5, e6⟩ => ?_⟩
    subst e3 e5
    have e7 := e6 vs (SqL.of (s2 _ _ (s1 _ _ hp)))
    rw [e2] at e7
    cases e7
    refine ⟨upd B3 T _, Grow.new s2 e4 _, T, _, rfl, upd_same, ?_, (f x0).mono (s1.trans (same_new (s2.free e4) _)) k2, trivial⟩
    show V.int _ = V.int _
    rw [Nat.zero_add]
/-! ### targets -/
theorem rg_name (j : Nat) {x : Str} (hb : stoB L j x = true := by decide +kernel) : RG Γ L E (.Name x pos) [j] env r (env.set j (.dat r)) := by
  obtain ⟨h1, h2, h3⟩ := stoB_ok hb
  refine ⟨gName j, fun X o => pg_name (by rw [o.N]; exact o.nd) (by rw [o.N]; exact h1) (by rw [o.sc]; exact h2) (by
    rcases h3 with h3 | h3
    · exact .inr (by rw [o.sc]; exact h3)
    · exact .inl (o.fn h3 x)), fun H0 B H σ v Q s k q => ?_⟩
  exact q _ (s.set k) (List.length_set) fun i hi => List.getElem?_set_ne (fun z => hi (by rw [z]; exact List.mem_singleton.mpr rfl))
def RGs (Γ : Cg) (L : Lc) (E : Wc) (tgs : List Expr) (js : List Nat) (env : List Sl) (rs : List Rp) (env' : List Sl) : Prop :=
  ∃ g : TGs, (∀ X, Ok Γ L E X → PGs X tgs g) ∧ ∀ (H0 B H : Hp) (σ : L2.St) (vs : List V) (Q : L2.St → Hp → Prop), Sok H0 B H σ env → Oks B rs vs →
    (∀ σ', Sok H0 B H σ' env' → σ'.length = σ.length → (∀ i, i ∉ js → σ'[i]? = σ[i]?) → Q σ' H) → g vs σ H Q
theorem rgs_nil : RGs Γ L E [] [] env [] env := ⟨gNil, fun X o => pgs_nil, fun H0 B H σ vs Q s k q => ⟨k.nil, q σ s rfl fun _ _ => rfl⟩⟩
theorem rgs_cons {tgs : List Expr} {js js2 : List Nat} {env1 env2 : List Sl} (h1 : RG Γ L E tg js env r env1) (h2 : RGs Γ L E tgs js2 env1 rs env2)
    (hs : ∀ en : Env, (assignEach (tg :: tgs) en).map (·.2) = assign tg en :: (assignEach tgs en).map (·.2) := by intro _; rfl) : RGs Γ L E (tg :: tgs) (js ++ js2) env (r :: rs) env2 := by
  obtain ⟨g, g1, g2⟩ := h1
  obtain ⟨u, u1, u2⟩ := h2
  refine ⟨gCons g u, fun X o => pgs_cons (g1 X o) (u1 X o) (hs _), fun H0 B H σ vs Q s k q => ?_⟩
  obtain ⟨v, ws, rfl, k1, k2⟩ := k.cons
  refine ⟨v, ws, rfl, g2 H0 B H σ v _ s k1 fun σ1 s1 l1 d1 => u2 H0 B H σ1 ws Q s1 k2 fun σ2 s2 l2 d2 => q σ2 s2 (l2.trans l1) fun i hi => ?_⟩
  rw [d2 i fun z => hi (List.mem_append_right _ z), d1 i fun z => hi (List.mem_append_left _ z)]
theorem rg_tup {tgs : List Expr} {js : List Nat} {env' : List Sl} {k : Nat} (h : RGs Γ L E tgs js env rs env') (hn : ∀ en : Env, (assignEach tgs en).length = rs.length := by intro _; rfl) (hst : ∀ en : Env, (assignEach tgs en).findIdx? (·.1) = none := by intro _; rfl) :
    RG Γ L E (.Tuple tgs k pos) js env (rT rs) env' := by
  obtain ⟨g, g1, g2⟩ := h
  refine ⟨gTup Γ.K rs.length g, fun X o => by have z := pg_tup (k := k) (pos := pos) (n := rs.length) o.calm (g1 X o) (hn _) (hst _); rw [o.K] at z; exact z, fun H0 B H σ v Q s ⟨p, vs, e1, hp, ho⟩ q => ?_⟩
  exact ⟨p, vs, e1, SqT.of (s.ex _ _ hp), ho.length, g2 H0 B H σ vs Q s ho q⟩
/-! ### comprehensions -/
def blkL (L : Lc) (scope : Scope) : Lc := ⟨L.N, relS scope L.sc, false⟩
theorem ok_blk {X : Cx} (o : Ok Γ L E X) (s : Shared) (H : Hp) (scope : Scope) (C : Addr) (cl : List (Str × Addr)) (fp : List Addr) : Ok Γ (blkL L scope) E.b (X.blk s H scope (compEnvC scope cl C X.env) fp) where
  prog := o.prog
  w := o.w
  K := o.K
  mg := o.mg
  base := o.base
  room := o.room
  N := o.N
  nd := o.nd
  sc := by
    show relS scope X.env.scope = relS scope L.sc
    rw [o.sc]
  calm := o.calm
  fn := fun h => nomatch (show false = true from h)
  own := PassesOwn.never
  takes := takes0
  top := fun h => nomatch (show false = true from h)
def wipeE (env : List Sl) : List Nat → List Sl
  | [] => env
  | v :: vs => (wipeE env vs).set v .no
theorem set_none_ok {H0 B H : Hp} {σ : L2.St} {env : List Sl} (s : Sok H0 B H σ env) (v : Nat) : Sok H0 B H (σ.set v none) (env.set v .no) := by
  refine ⟨s.ex, s.e0, by rw [List.length_set, List.length_set]; exact s.len, fun j x e => ?_, fun a b p ha hb => ?_⟩
  · by_cases hj : v = j
    · subst hj
      have hl : v < env.length := by
        have := (List.getElem?_eq_some_iff.mp e).1
        rwa [List.length_set] at this
      rw [List.getElem?_set_self hl] at e
      cases e
      cases ((σ.set v none)[v]?.join) <;> trivial
    · rw [List.getElem?_set_ne hj] at e ⊢
      exact s.sl j x e
  · have key : ∀ c, AccAt (σ.set v none) (env.set v .no) c p → AccAt σ env c p := fun c ⟨⟨x, hx, hxa⟩, hc⟩ => by
      by_cases hj : v = c
      · subst hj
        have hl : v < env.length := by
          have := (List.getElem?_eq_some_iff.mp hx).1
          rwa [List.length_set] at this
        rw [List.getElem?_set_self hl] at hx
        cases hx
        cases hxa
      · rw [List.getElem?_set_ne hj] at hx hc
        exact ⟨⟨x, hx, hxa⟩, hc⟩
    exact s.ap a b p (key a ha) (key b hb)
theorem Sok.wipe {H0 B H : Hp} {σ : L2.St} {env : List Sl} (s : Sok H0 B H σ env) : ∀ vs : List Nat, Sok H0 B H (L2.wipe σ vs) (wipeE env vs)
  | [] => s
  | v :: vs => set_none_ok (Sok.wipe s vs) v
theorem wipe_get (σ : L2.St) (i : Nat) : ∀ vs : List Nat, (L2.wipe σ vs)[i]? = if i ∈ vs then (if i < σ.length then some none else none) else σ[i]?
  | [] => by simp [L2.wipe]
  | v :: vs => by
    have ih := wipe_get σ i vs
    unfold L2.wipe
    by_cases h : v = i
    · subst h
      rw [if_pos (List.mem_cons_self)]
      rw [List.getElem?_set]
      simp [L2.wipe_length]
    · rw [List.getElem?_set_ne h, ih]
      have : (i ∈ v :: vs) ↔ i ∈ vs := by
        rw [List.mem_cons]
        exact ⟨fun z => z.resolve_left (fun q => h q.symm), .inr⟩
      by_cases h2 : i ∈ vs
      · rw [if_pos h2, if_pos (this.mpr h2)]
      · rw [if_neg h2, if_neg (fun z => h2 (this.mp z))]
theorem wipe_eq {σ σ2 : L2.St} {vs : List Nat} (hl : σ2.length = (L2.wipe σ vs).length) (h : ∀ i, i ∉ vs → σ2[i]? = (L2.wipe σ vs)[i]?) : L2.wipe σ2 vs = L2.wipe σ vs := by
  apply List.ext_getElem?
  intro i
  rw [wipe_get σ2 i vs, wipe_get σ i vs]
  rw [L2.wipe_length] at hl
  by_cases hi : i ∈ vs
  · rw [if_pos hi, if_pos hi, hl]
  · rw [if_neg hi, if_neg hi, h i hi, wipe_get σ i vs, if_neg hi]
/-- the tests of a clause -/
def RTs (Γ : Cg) (L : Lc) (E : Wc) (ifs : List Expr) (env : List Sl) (k : Bool) : Prop :=
  ∃ t : TT, (∀ X, Ok Γ L E X → PTs X ifs t) ∧ ∀ (H0 B H : Hp) (σ : L2.St) (Q : Bool → Hp → Prop), Sok H0 B H σ env → (∀ B2 H2, Grow B H B2 H2 → Q k H2) → t σ H Q
theorem rts_nil : RTs Γ L E [] env true := ⟨tYes, fun X o => pts_nil, fun H0 B H σ Q s q => q B H (Grow.refl s.ex)⟩
theorem rts_one {k : Bool} (h : RT Γ L E c env k) : RTs Γ L E [c] env k := by
  obtain ⟨t, h1, h2⟩ := h
  exact ⟨t, fun X o => pts_one (h1 X o), h2⟩
theorem lc_read {scope : Scope} {ifs : List Expr} {env' : α → List Sl} {q : α → Bool} {js : List Nat} (own : List (Str × Nat)) (hi : RI Γ L E tg iter env xs f)
    (hg : ∀ x ∈ xs, RG Γ (blkL L scope) E.b tg js (wipeE env (own.map (·.2))) (f x) (env' x))
    (ht : ∀ x ∈ xs, RTs Γ (blkL L scope) E.b ifs (env' x) (q x))
    (he : ∀ x ∈ xs, q x = true → RE Γ (blkL L scope) E.b elt (env' x) (h x)) (hz : xs.length < sizeLine)
    (hj : ∀ j ∈ js, j ∈ own.map (·.2)) :
    ∃ ti g tt te, (∀ X, Ok Γ L E X → PI X tg iter ti) ∧ (∀ X, Ok Γ (blkL L scope) E.b X → PG X tg g) ∧ (∀ X, Ok Γ (blkL L scope) E.b X → PTs X ifs tt) ∧ (∀ X, Ok Γ (blkL L scope) E.b X → PE X elt te) ∧
    ∀ (H0 B H : Hp) (σ : L2.St) (Q : VK), Sok H0 B H σ env → (∀ p vs B2 H2, Grow B H B2 H2 → H2 p = some (.lst vs) → B2 p = none → H p = none → Oks B2 ((xs.filter q).map h) vs → Q (.ref p) H2) → tLc ti g tt te (own.map (·.2)) σ H Q := by
  obtain ⟨ti, i1, i2⟩ := hi
  -- the readings, joined over the items
  refine ⟨ti, fun v σ H Q => ∃ x, ∃ hx : x ∈ xs, (hg x hx).choose v σ H Q, fun σ H Q => ∃ x, ∃ hx : x ∈ xs, (ht x hx).choose σ H Q, fun σ H Q => ∃ x, ∃ hx : x ∈ xs, ∃ hq : q x = true, (he x hx hq).choose σ H Q, i1, ?_, ?_, ?_, fun H0 B H σ Q s Qd => ?_⟩
  · exact fun X o => ⟨fun pins s1 σ1 H1 v u Q1 I1 r1 ⟨x, hx, z⟩ => ((hg x hx).choose_spec.1 X o).run pins s1 σ1 H1 v u Q1 I1 r1 z⟩
  · exact fun X o => ⟨fun pins s1 σ1 H1 Q1 I1 ⟨x, hx, z⟩ => ((ht x hx).choose_spec.1 X o).run pins s1 σ1 H1 Q1 I1 z⟩
  · exact fun X o => ⟨fun pins s1 σ1 H1 Q1 I1 ⟨x, hx, hq, z⟩ => ((he x hx hq).choose_spec.1 X o).run pins s1 σ1 H1 Q1 I1 z⟩
  refine i2 H0 B H σ _ s fun J B1 H1 g T D hD => ?_
  have s1 := s.grow g
  have hB1 : B1 D = none := s1.ex.free hD
  refine ⟨fun i m H' => m = xs.length - i ∧ i ≤ xs.length ∧ ∃ Bi vs, Grow B1 H1 Bi H' ∧ Bi D = none ∧ H' D = some (.lst vs) ∧ Oks Bi (((xs.take i).filter q).map h) vs, ⟨xs.length, rfl, Nat.zero_le _, B1, [], ?_, hB1, upd_same, trivial⟩, fun i m H' ⟨hm, hi, Bi, vs, gi, bd, hd, ho⟩ => ?_⟩
  · exact Grow.stay s1.ex (same_new hD _)
  by_cases hil : i = xs.length
  · left
    refine ⟨(T i Bi H' gi.b gi.i).2 hil, ?_⟩
    subst hil
    rw [List.take_length] at ho
    exact Qd D vs Bi H' (g.trans gi) hd bd (g.h.free hD) ho
  · right
    have hlt : i < xs.length := by omega
    have hxi : xs[i]? = some xs[i] := List.getElem?_eq_getElem hlt
    have hmem : xs[i] ∈ xs := List.getElem_mem hlt
    obtain ⟨go, yl⟩ := (T i Bi H' gi.b gi.i).1 _ hxi
    refine ⟨go, fun H5 => ∃ B5 vs5, Grow B1 H1 B5 H5 ∧ B5 D = none ∧ H5 D = some (.lst vs5) ∧ Oks B5 (((xs.take (i + 1)).filter q).map h) vs5, fun H5 ⟨B5, vs5, a1, a2, a3, a4⟩ => ⟨xs.length - (i + 1), by omega, rfl, by omega, B5, vs5, a1, a2, a3, a4⟩, fun v H2 y => ?_⟩
    obtain ⟨B2, g2, k2⟩ := yl v H2 y
    have s2 : Sok H0 B2 H2 σ env := (s1.grow gi).grow g2
    have hl2 : vs.length < sizeLine := by
      have z := ho.length
      rw [List.length_map] at z
      have z2 := List.length_filter_le q (xs.take i)
      have z3 := List.length_take_le i xs
      omega
    have tk : xs.take (i + 1) = xs.take i ++ [xs[i]] := by rw [List.take_succ, hxi]; rfl
    refine ⟨xs[i], hmem, (hg _ hmem).choose_spec.2 H0 B2 H2 _ v _ (s2.wipe _) k2 fun σ2 s3 l3 d3 => ⟨wipe_eq l3 fun j hj' => d3 j fun z => hj' (hj j z), ?_⟩⟩
    refine ⟨xs[i], hmem, (ht _ hmem).choose_spec.2 H0 B2 H2 σ2 _ s3 fun B3 H3 g3 => ?_⟩
    have b3 : B3 D = none := (g2.trans g3).acc hd bd
    have d3 : H3 D = some (.lst vs) := g3.h _ _ (g2.h _ _ hd)
    cases hq : q xs[i] with
    | true =>
      rw [if_pos rfl]
      refine ⟨xs[i], hmem, hq, (he _ hmem hq).choose_spec.2 H0 B3 H3 σ2 _ (s3.grow g3) fun u B4 H4 g4 k4 => ?_⟩
      have d4 : H4 D = some (.lst vs) := g4.h _ _ d3
      have b4 : B4 D = none := g4.acc d3 b3
      have gg := ((gi.trans g2).trans g3).trans g4
      refine ⟨vs, d4, hl2, B4, vs ++ [u], ⟨gg.b, ?_, ?_, gg.f⟩, b4, upd_same, ?_⟩
      · intro a o z
        rw [upd_ne (ne_of_none z b4)]
        exact gg.i _ _ z
      · intro a o z
        rw [upd_ne (ne_of_none z hD)]
        exact gg.h _ _ z
      · rw [tk, List.filter_append, List.filter_cons, if_pos hq, List.map_append]
        exact (ho.mono ((g2.b.trans g3.b).trans g4.b)).append ⟨k4, trivial⟩
    | false =>
      rw [if_neg Bool.false_ne_true]
      have gg := (gi.trans g2).trans g3
      refine ⟨B3, vs, gg, b3, d3, ?_⟩
      rw [tk, List.filter_append, List.filter_cons, if_neg (by rw [hq]; decide), List.filter_nil, List.append_nil]
      exact ho.mono (g2.b.trans g3.b)
theorem rf_lc0 {scope : Scope} {ifs : List Expr} {env' : α → List Sl} {q : α → Bool} {js : List Nat} (own : List (Str × Nat)) (hi : RI Γ L E tg iter env xs f)
    (hg : ∀ x ∈ xs, RG Γ (blkL L scope) E.b tg js (wipeE env (own.map (·.2))) (f x) (env' x))
    (ht : ∀ x ∈ xs, RTs Γ (blkL L scope) E.b ifs (env' x) (q x))
    (he : ∀ x ∈ xs, q x = true → RE Γ (blkL L scope) E.b elt (env' x) (h x)) (hz : xs.length < sizeLine)
    (hj : ∀ j ∈ js, j ∈ own.map (·.2)) (hok : blkC L.N L.sc scope own = true) (hf : ∀ (en : Env) x, foldedSetIterable iter en x = pure x) :
    RF Γ L E (.ListComp elt [⟨tg, iter, ifs, 0⟩] scope pos) env ((xs.filter q).map h) := by
  obtain ⟨ti, g, tt, te, i1, i2, i3, i4, i5⟩ := lc_read own hi hg ht he hz hj
  exact ⟨_, fun X o => pe_lc o.calm (by rw [o.N]; exact o.nd) (i1 X o) (blkOk_by (by rw [o.N, o.sc]; exact hok)) (fun s H C cl fp => i2 _ (ok_blk o s H scope C cl fp)) (fun s H C cl fp => i3 _ (ok_blk o s H scope C cl fp)) (fun s H C cl fp => i4 _ (ok_blk o s H scope C cl fp)) (hf _), i5⟩
theorem filter_true (xs : List α) : xs.filter (fun _ => true) = xs := List.filter_eq_self.mpr fun _ _ => rfl
/-- [elt for tg in iter] -/
theorem rf_lc {scope : Scope} {env' : α → List Sl} {js : List Nat} (own : List (Str × Nat)) (hi : RI Γ L E tg iter env xs f)
    (hg : ∀ x ∈ xs, RG Γ (blkL L scope) E.b tg js (wipeE env (own.map (·.2))) (f x) (env' x))
    (he : ∀ x ∈ xs, RE Γ (blkL L scope) E.b elt (env' x) (h x)) (hz : xs.length < sizeLine)
    (hj : ∀ j ∈ js, j ∈ own.map (·.2) := by decide) (hok : blkC L.N L.sc scope own = true := by decide +kernel) (hf : ∀ (en : Env) x, foldedSetIterable iter en x = pure x := by intro _ _; rfl) :
    RF Γ L E (.ListComp elt [⟨tg, iter, [], 0⟩] scope pos) env (xs.map h) := by
  have z := rf_lc0 (pos := pos) (q := fun _ => true) own hi hg (fun _ _ => rts_nil) (fun x hx _ => he x hx) hz hj hok hf
  rw [filter_true] at z
  exact z
/-- [elt for tg in iter if c] -/
theorem rf_lcf {scope : Scope} {env' : α → List Sl} {q : α → Bool} {js : List Nat} (own : List (Str × Nat)) (hi : RI Γ L E tg iter env xs f)
    (hg : ∀ x ∈ xs, RG Γ (blkL L scope) E.b tg js (wipeE env (own.map (·.2))) (f x) (env' x))
    (ht : ∀ x ∈ xs, RT Γ (blkL L scope) E.b c (env' x) (q x))
    (he : ∀ x ∈ xs, q x = true → RE Γ (blkL L scope) E.b elt (env' x) (h x)) (hz : xs.length < sizeLine)
    (hj : ∀ j ∈ js, j ∈ own.map (·.2) := by decide) (hok : blkC L.N L.sc scope own = true := by decide +kernel) (hf : ∀ (en : Env) x, foldedSetIterable iter en x = pure x := by intro _ _; rfl) :
    RF Γ L E (.ListComp elt [⟨tg, iter, [c], 0⟩] scope pos) env ((xs.filter q).map h) :=
  rf_lc0 own hi hg (fun x hx => rts_one (ht x hx)) he hz hj hok hf
end
end Rl
/-! text RL6 -/
set_option Elab.async false
set_option linter.all false
set_option maxRecDepth 100000
set_option maxHeartbeats 2000000
namespace Rl
open PySem PySem.Spec PyProof.Rows L2
section
variable {Γ : Cg} {L : Lc} {E : Wc} {env : List Sl} {e a b c tg iter elt : Expr} {es : List Expr} {pos p : Pos} {r ra rb rc : Rp} {rs : List Rp}
/-! ### in -/
theorem inV_strs (s : Str) : ∀ ss : List Str, inV (.str s) (ss.map V.str) = decide (s ∈ ss)
  | [] => rfl
  | x :: r => by
    have ih := inV_strs s r
    unfold inV at ih ⊢
    rw [List.map_cons, List.any_cons, ih]
    show (x == s || decide (s ∈ r)) = decide (s ∈ x :: r)
    by_cases h : x = s
    · subst h; simp
    · have h2 : (x == s) = false := by simpa using h
      rw [h2, Bool.false_or]
      have : (s ∈ x :: r) ↔ s ∈ r := by
        rw [List.mem_cons]
        exact ⟨fun z => z.resolve_left (fun q => h q.symm), .inr⟩
      exact decide_eq_decide.mpr this.symm
theorem flat_strs : ∀ ss : List Str, (ss.map V.str).all flatV = true
  | [] => rfl
  | _ :: r => by rw [List.map_cons, List.all_cons, flat_strs r]; rfl
/-- x in (a, b, ..) of texts -/
theorem rt_inT {s : Str} {ss : List Str} (ha : RE Γ L E a env (rS s)) (hb : RE Γ L E b env (rT (ss.map rS))) (hm : behindInMarks .In b = false := by rfl) : RT Γ L E (.Compare a [.In] [b] pos) env (decide (s ∈ ss)) := by
  refine rt_cmp (r2 := rIn Γ.K false) (rb := rT (ss.map rS)) (fun X o => by have z := op_in_seq (X := X); rw [o.K] at z; exact z) hm (fun B H u v Q s1 hx ⟨p, vs, hy, hp, ho⟩ q => ?_) ha hb
  have hx : u = .str s := hx
  have ev : vs = ss.map V.str := Oks.eqs (fun _ _ q => q) ho
  subst hx hy ev
  refine ⟨p, ss.map V.str, rfl, .inr (SqT.of (s1 _ _ hp)), rfl, flat_strs ss, ?_⟩
  rw [if_neg Bool.false_ne_true, inV_strs]
  exact q _ B H (Grow.refl s1) rfl
theorem rt_niT {s : Str} {ss : List Str} (ha : RE Γ L E a env (rS s)) (hb : RE Γ L E b env (rT (ss.map rS))) (hm : behindInMarks .NotIn b = false := by rfl) : RT Γ L E (.Compare a [.NotIn] [b] pos) env (!decide (s ∈ ss)) := by
  refine rt_cmp (r2 := rIn Γ.K true) (rb := rT (ss.map rS)) (fun X o => by have z := op_notIn_seq (X := X); rw [o.K] at z; exact z) hm (fun B H u v Q s1 hx ⟨p, vs, hy, hp, ho⟩ q => ?_) ha hb
  have hx : u = .str s := hx
  have ev : vs = ss.map V.str := Oks.eqs (fun _ _ q => q) ho
  subst hx hy ev
  refine ⟨p, ss.map V.str, rfl, .inr (SqT.of (s1 _ _ hp)), rfl, flat_strs ss, ?_⟩
  rw [if_pos rfl, inV_strs]
  exact q _ B H (Grow.refl s1) rfl
theorem re_inT {s : Str} {ss : List Str} (ha : RE Γ L E a env (rS s)) (hb : RE Γ L E b env (rT (ss.map rS))) (hm : behindInMarks .In b = false := by rfl) : RE Γ L E (.Compare a [.In] [b] pos) env (rB (decide (s ∈ ss))) := by
  refine re_cmp (r2 := rIn Γ.K false) (rb := rT (ss.map rS)) (fun X o => by have z := op_in_seq (X := X); rw [o.K] at z; exact z) hm (fun B H u v Q s1 hx ⟨p, vs, hy, hp, ho⟩ q => ?_) ha hb
  have hx : u = .str s := hx
  have ev : vs = ss.map V.str := Oks.eqs (fun _ _ q => q) ho
  subst hx hy ev
  refine ⟨p, ss.map V.str, rfl, .inr (SqT.of (s1 _ _ hp)), rfl, flat_strs ss, ?_⟩
  rw [if_neg Bool.false_ne_true, inV_strs]
  exact q _ B H (Grow.refl s1) rfl
/-- x in a tuple of texts of the module -/
theorem rt_inK {s x : Str} {wa : Addr} {ss : List Str} (hm1 : Γ.mg x = some (.ref wa)) (hS : ∀ H, SqT Γ.K H wa (ss.map V.str)) (ha : RE Γ L E a env (rS s)) (hg : gloB L x = true := by decide +kernel) : RT Γ L E (.Compare a [.In] [.Name x p] pos) env (decide (s ∈ ss)) := by
  refine rt_cmp (r2 := rIn Γ.K false) (rb := rV (.ref wa)) (fun X o => by have z := op_in_seq (X := X); rw [o.K] at z; exact z) rfl (fun B H u v Q s1 hx hy q => ?_) ha (re_glob hm1 rfl hg)
  have hx : u = .str s := hx
  have hy : v = .ref wa := hy
  subst hx hy
  refine ⟨wa, ss.map V.str, rfl, .inr (hS H), rfl, flat_strs ss, ?_⟩
  rw [if_neg Bool.false_ne_true, inV_strs]
  exact q _ B H (Grow.refl s1) rfl
/-- x not in a list of texts -/
theorem re_niL {s : Str} {ss : List Str} (ha : RE Γ L E a env (rS s)) (hb : RPl Γ L E b env (ss.map rS)) (hm : behindInMarks .NotIn b = false := by rfl) : RE Γ L E (.Compare a [.NotIn] [b] pos) env (rB (!decide (s ∈ ss))) := by
  obtain ⟨ta, a1, a2⟩ := ha
  obtain ⟨tb, b1, b2⟩ := hb
  refine ⟨tOp (rIn Γ.K true) ta tb, fun X o => by have z := op_notIn_seq (X := X); rw [o.K] at z; exact pe_cmpR z (a1 X o) (b1 X o) hm, fun H0 B H σ Q s1 q => a2 H0 B H σ _ s1 fun x B2 H2 g k => b2 H0 B2 H2 σ _ (s1.grow g) fun p vs B3 H3 g2 k1 k2 => ?_⟩
  have k : x = .str s := k
  have ev : vs = ss.map V.str := Oks.eqs (fun _ _ q => q) k2
  subst k ev
  refine ⟨p, ss.map V.str, rfl, .inl k1, rfl, flat_strs ss, ?_⟩
  rw [if_pos rfl, inV_strs]
  exact q _ B3 H3 (g.trans g2) rfl
/-- a sign in a text -/
theorem rt_inC {ch : Nat} {z : Str} (ha : RE Γ L E a env (rS ⟨#[ch]⟩)) (hb : RE Γ L E b env (rS z)) (hm : behindInMarks .In b = false := by rfl) : RT Γ L E (.Compare a [.In] [b] pos) env (decide (ch ∈ z.cps.toList)) :=
  rt_cmp (fun X o => op_in_sign) hm (fun B H u v Q s hx hy q => ⟨ch, z, hx, hy, q _ B H (Grow.refl s) rfl⟩) ha hb
theorem rt_niC {ch : Nat} {z : Str} (ha : RE Γ L E a env (rS ⟨#[ch]⟩)) (hb : RE Γ L E b env (rS z)) (hm : behindInMarks .NotIn b = false := by rfl) : RT Γ L E (.Compare a [.NotIn] [b] pos) env (!decide (ch ∈ z.cps.toList)) :=
  rt_cmp (fun X o => op_notIn_sign) hm (fun B H u v Q s hx hy q => ⟨ch, z, hx, hy, q _ B H (Grow.refl s) rfl⟩) ha hb
/-! ### dicts -/
def lookR (kvs : List (Key × Rp)) (k : Key) : Option Rp := (kvs.find? fun kv => decide (kv.1 = k)).map (·.2)
theorem lookR_none {k : Key} : ∀ {kvs : List (Key × Rp)} {ws : List (Key × V)}, ws.map Prod.fst = kvs.map Prod.fst → lookR kvs k = none → valV ws k = none
  | [], [], _, _ => rfl
  | [], _ :: _, h, _ => by simp at h
  | _ :: _, [], h, _ => by simp at h
  | (g, q) :: fs, (g', v) :: ws, h, e => by
    have h0 : g' = g ∧ ws.map Prod.fst = fs.map Prod.fst := by simpa using h
    obtain ⟨rfl, h1⟩ := h0
    by_cases hk : g' = k
    · subst hk
      unfold lookR at e
      rw [List.find?_cons_of_pos (by simp)] at e
      cases e
    · rw [valV_neg (p := (g', v)) hk]
      unfold lookR at e
      rw [List.find?_cons_of_neg (by simpa using hk)] at e
      exact lookR_none (kvs := fs) h1 e
theorem lookR_some {B : Hp} {k : Key} {r : Rp} : ∀ {kvs : List (Key × Rp)} {ws : List (Key × V)}, ws.map Prod.fst = kvs.map Prod.fst → Oks B (kvs.map Prod.snd) (ws.map Prod.snd) → lookR kvs k = some r → ∃ v, valV ws k = some v ∧ r.ok B v
  | [], [], _, _, e => by cases e
  | [], _ :: _, h, _, _ => by simp at h
  | _ :: _, [], h, _, _ => by simp at h
  | (g, q) :: fs, (g', v) :: ws, h, o, e => by
    have h0 : g' = g ∧ ws.map Prod.fst = fs.map Prod.fst := by simpa using h
    obtain ⟨rfl, h1⟩ := h0
    by_cases hk : g' = k
    · subst hk
      unfold lookR at e
      rw [List.find?_cons_of_pos (by simp)] at e
      have e' : q = r := by simpa using e
      subst e'
      exact ⟨v, valV_pos (p := (g', v)) rfl, o.1⟩
    · rw [valV_neg (p := (g', v)) hk]
      unfold lookR at e
      rw [List.find?_cons_of_neg (by simpa using hk)] at e
      exact lookR_some (kvs := fs) h1 o.2 e
theorem lookR_is {B : Hp} {k : Key} {kvs : List (Key × Rp)} {ws : List (Key × V)} (h : ws.map Prod.fst = kvs.map Prod.fst) (o : Oks B (kvs.map Prod.snd) (ws.map Prod.snd)) : (valV ws k).isSome = (lookR kvs k).isSome := by
  cases e : lookR kvs k with
  | none => rw [lookR_none (kvs := kvs) h e]; rfl
  | some r => obtain ⟨v, e2, _⟩ := lookR_some h o e; rw [e2]; rfl
theorem rt_inD {k : Key} {kvs : List (Key × Rp)} (ha : RE Γ L E a env (rV (kV k))) (hb : RPd Γ L E b env kvs) (hm : behindInMarks .In b = false := by rfl) : RT Γ L E (.Compare a [.In] [b] pos) env (lookR kvs k).isSome := by
  obtain ⟨ta, a1, a2⟩ := ha
  obtain ⟨tb, b1, b2⟩ := hb
  refine ⟨tB (tDIn ta tb), fun X o => pt_cmp (pc_din o.hu (a1 X o) (b1 X o)) hm, fun H0 B H σ Q s1 q => a2 H0 B H σ _ s1 fun x B2 H2 g hk => b2 H0 B2 H2 σ _ (s1.grow g) fun p ws B3 H3 g2 k1 k2 k3 => ?_⟩
  have hk : x = kV k := hk
  subst hk
  refine ⟨p, _, rfl, DGet.k k1, _, rfl, ?_⟩
  rw [lookR_is k2 k3]
  exact q B3 H3 (g.trans g2)
theorem rt_niD {k : Key} {kvs : List (Key × Rp)} (ha : RE Γ L E a env (rV (kV k))) (hb : RPd Γ L E b env kvs) (hm : behindInMarks .NotIn b = false := by rfl) : RT Γ L E (.Compare a [.NotIn] [b] pos) env (!(lookR kvs k).isSome) := by
  obtain ⟨ta, a1, a2⟩ := ha
  obtain ⟨tb, b1, b2⟩ := hb
  refine ⟨tB (tDNotIn ta tb), fun X o => pt_cmp (pc_dnotin o.hu (a1 X o) (b1 X o)) hm, fun H0 B H σ Q s1 q => a2 H0 B H σ _ s1 fun x B2 H2 g hk => b2 H0 B2 H2 σ _ (s1.grow g) fun p ws B3 H3 g2 k1 k2 k3 => ?_⟩
  have hk : x = kV k := hk
  subst hk
  refine ⟨p, _, rfl, DGet.k k1, _, rfl, ?_⟩
  rw [lookR_is k2 k3]
  exact q B3 H3 (g.trans g2)
theorem re_ixD {k : Key} {kvs : List (Key × Rp)} (h : lookR kvs k = some r) (ha : RPd Γ L E a env kvs) (hb : RE Γ L E b env (rV (kV k))) (hs : NoSl b := by intro _ _; rfl) : RE Γ L E (.Subscript a b pos) env r := by
  obtain ⟨ta, a1, a2⟩ := ha
  obtain ⟨tb, b1, b2⟩ := hb
  refine ⟨tDGet ta tb, fun X o => pe_dget o.hu (a1 X o) (b1 X o) hs, fun H0 B H σ Q s1 q => a2 H0 B H σ _ s1 fun p ws B2 H2 g k1 k2 k3 => b2 H0 B2 H2 σ _ (s1.grow g) fun x B3 H3 g2 hk => ?_⟩
  have hk : x = kV k := hk
  subst hk
  obtain ⟨v, e, o⟩ := lookR_some k2 k3 h
  refine ⟨p, v, rfl, ?_, q v B3 H3 (g.trans g2) (r.mono g2.b o)⟩
  rw [← e]
  exact DGet.k (g2.h _ _ k1)
/-- d.get(k, x) of ints -/
theorem re_getD {k : Key} {kvs : List (Key × Rp)} {rd : Rp} (hr : r = (lookR kvs k).getD rd) (ha : RPd Γ L E a env kvs) (hb : RE Γ L E b env (rV (kV k))) (hc : RE Γ L E c env rd) {apos cpos : Pos}
    (hM : ∀ X : Cx, M2 X a "get" apos b c cpos := by intro _; exact ⟨rfl, rfl, rfl, rfl⟩) : RE Γ L E (.Call (.Attribute a "get" apos) [b, c] [] cpos) env r := by
  obtain ⟨ta, a1, a2⟩ := ha
  obtain ⟨tb, b1, b2⟩ := hb
  obtain ⟨tc, c1, c2⟩ := hc
  refine ⟨tDGet2 ta tb tc, fun X o => pe_dget2 o.hu (a1 X o) (b1 X o) (c1 X o) (hM X), fun H0 B H σ Q s1 q => a2 H0 B H σ _ s1 fun p ws B2 H2 g k1 k2 k3 => ⟨p, rfl, .inl ⟨ws, .inl k1⟩, b2 H0 B2 H2 σ _ (s1.grow g) fun x B3 H3 g2 hk => c2 H0 B3 H3 σ _ ((s1.grow g).grow g2) fun y B4 H4 g3 hy => ?_⟩⟩
  have hk : x = kV k := hk
  subst hk
  refine ⟨_, DGet.k ((g2.h.trans g3.h) _ _ k1), ?_⟩
  cases e : lookR kvs k with
  | none =>
    rw [lookR_none (kvs := kvs) k2 e]
    rw [e] at hr
    subst hr
    exact q y B4 H4 ((g.trans g2).trans g3) hy
  | some r0 =>
    obtain ⟨v, e2, o⟩ := lookR_some k2 k3 e
    rw [e2]
    rw [e] at hr
    have hr : r = r0 := hr
    subst hr
    exact q v B4 H4 ((g.trans g2).trans g3) (r.mono (g2.b.trans g3.b) o)
theorem rfd_new : RFd Γ L E (.Dict [] [] pos) env [] :=
  ⟨tDNewK, fun X o => pe_dnewK, fun H0 B H σ Q s q => fun p hp => q p [] B _ (Grow.stay s.ex (same_new hp _)) upd_same (s.ex.free hp) hp rfl trivial⟩
/-! ### methods of texts -/
theorem re_partition {z y : Str} {apos cpos : Pos} (h1 : (y.length == 0) = false) (h2 : z.length ≤ sizeLine) (ha : RE Γ L E a env (rS z)) (hb : RE Γ L E b env (rS y)) (hs : ∀ en : Env, starEach [b] en = [(false, eval b en)] := by intro _; rfl) (hbase : ∀ en : Env, attributeBase a "partition" en (eval a en) = eval a en := by intro _; rfl) (hline : (apos.endLine == cpos.line) = true := by rfl) :
    RE Γ L E (.Call (.Attribute a "partition" apos) [b] [] cpos) env (rT [rS (Txt.partition z y).1, rS (Txt.partition z y).2.1, rS (Txt.partition z y).2.2]) := by
  obtain ⟨ta, a1, a2⟩ := ha
  obtain ⟨tb, b1, b2⟩ := hb
  refine ⟨_, fun X o => pe_partition (a1 X o) (b1 X o) (hs _) (hbase _) hline, fun H0 B H σ Q s1 q => a2 H0 B H σ _ s1 fun x B2 H2 g hx => ?_⟩
  have hx : x = .str z := hx
  subst hx
  refine ⟨⟨z, rfl⟩, b2 H0 B2 H2 σ _ (s1.grow g) fun w B3 H3 g2 hw => ?_⟩
  have hw : w = .str y := hw
  subst hw
  exact ⟨z, y, rfl, rfl, h1, h2, fun p hp => q _ (upd B3 p _) _ ((g.trans g2).trans (Grow.new g2.i hp _)) ⟨p, _, rfl, upd_same, rfl, rfl, rfl, trivial⟩⟩
theorem rf_split {z y : Str} {apos cpos : Pos} (h1 : (y.length == 0) = false) (h2 : z.length + 2 ≤ sizeLine) (ha : RE Γ L E a env (rS z)) (hb : RE Γ L E b env (rS y)) (hs : ∀ en : Env, starEach [b] en = [(false, eval b en)] := by intro _; rfl) (hbase : ∀ en : Env, attributeBase a "split" en (eval a en) = eval a en := by intro _; rfl) (hline : (apos.endLine == cpos.line) = true := by rfl) :
    RF Γ L E (.Call (.Attribute a "split" apos) [b] [] cpos) env ((Txt.split z y).map rS) := by
  obtain ⟨ta, a1, a2⟩ := ha
  obtain ⟨tb, b1, b2⟩ := hb
  refine ⟨_, fun X o => pe_split (a1 X o) (b1 X o) (hs _) (hbase _) hline, fun H0 B H σ Q s1 q => a2 H0 B H σ _ s1 fun x B2 H2 g hx => ?_⟩
  have hx : x = .str z := hx
  subst hx
  refine ⟨⟨z, rfl⟩, b2 H0 B2 H2 σ _ (s1.grow g) fun w B3 H3 g2 hw => ?_⟩
  have hw : w = .str y := hw
  subst hw
  exact ⟨z, y, rfl, rfl, h1, h2, fun p hp => q p _ B3 _ ((g.trans g2).trans (Grow.stay g2.i (same_new hp _))) upd_same (g2.i.free hp) ((g.trans g2).h.free hp) (Oks.of (fun _ => rfl) _)⟩
theorem re_join {y : Str} {ys : List Str} {apos cpos : Pos} (h1 : (ys.map (·.length)).sum + ys.length * y.length ≤ 16777216) (ha : RE Γ L E a env (rS y)) (hb : RE Γ L E b env (rL (ys.map rS))) (hs : ∀ en : Env, starEach [b] en = [(false, eval b en)] := by intro _; rfl) (hbase : ∀ en : Env, attributeBase a "join" en (eval a en) = eval a en := by intro _; rfl) (hline : (apos.endLine == cpos.line) = true := by rfl) :
    RE Γ L E (.Call (.Attribute a "join" apos) [b] [] cpos) env (rS (Txt.join y ys)) := by
  obtain ⟨ta, a1, a2⟩ := ha
  obtain ⟨tb, b1, b2⟩ := hb
  refine ⟨tM1 (fun x xs H Q => ∃ a p, ∃ ys : List Str, x = .str a ∧ xs = [.ref p] ∧ (SqL Γ.K H p (ys.map V.str) ∨ SqT Γ.K H p (ys.map V.str)) ∧
      (ys.map (·.length)).sum + ys.length * a.length ≤ 16777216 ∧ Q (.str (Txt.join a ys)) H) ta tb, fun X o => by have z := pe_join (apos := apos) (pos := cpos) (a1 X o) (b1 X o) (hs _) (hbase _) hline; rw [o.K] at z; exact z, fun H0 B H σ Q s1 q => a2 H0 B H σ _ s1 fun x B2 H2 g hx => ?_⟩
  have hx : x = .str y := hx
  subst hx
  refine ⟨⟨y, rfl⟩, b2 H0 B2 H2 σ _ (s1.grow g) fun w B3 H3 g2 ⟨p, vs, hw, hp, ho⟩ => ?_⟩
  have ev : vs = ys.map V.str := Oks.eqs (fun _ _ q => q) ho
  subst hw ev
  exact ⟨y, p, ys, rfl, rfl, .inl (SqL.of (g2.i _ _ hp)), h1, q _ B3 H3 (g.trans g2) rfl⟩
theorem re_lstrip {z y : Str} {apos cpos : Pos} (h2 : z.length ≤ sizeLine) (ha : RE Γ L E a env (rS z)) (hb : RE Γ L E b env (rS y)) (hs : ∀ en : Env, starEach [b] en = [(false, eval b en)] := by intro _; rfl) (hbase : ∀ en : Env, attributeBase a "lstrip" en (eval a en) = eval a en := by intro _; rfl) (hline : (apos.endLine == cpos.line) = true := by rfl) :
    RE Γ L E (.Call (.Attribute a "lstrip" apos) [b] [] cpos) env (rS (Txt.lstripChars z y)) := by
  obtain ⟨ta, a1, a2⟩ := ha
  obtain ⟨tb, b1, b2⟩ := hb
  refine ⟨_, fun X o => pe_m1 PySem.F.slot_str_lstrip PySem.F.type_str_lstrip mt_lstripChars (a1 X o) (b1 X o) (hs _) (hbase _) hline, fun H0 B H σ Q s1 q => a2 H0 B H σ _ s1 fun x B2 H2 g hx => ?_⟩
  have hx : x = .str z := hx
  subst hx
  refine ⟨⟨z, rfl⟩, b2 H0 B2 H2 σ _ (s1.grow g) fun w B3 H3 g2 hw => ?_⟩
  have hw : w = .str y := hw
  subst hw
  exact ⟨z, y, rfl, rfl, h2, q _ B3 H3 (g.trans g2) rfl⟩
end

/-! ### statements -/
inductive Out where
  | nx (env : List Sl)
  | ret (r : Rp)
  | err (c : XC)
  | ct (env : List Sl)
def OutOk (o : Out) (E : Wc) (H0 B0 : Hp) (D : Ends) : Prop := match o with
  | .nx env => ∀ σ B H, Sok H0 B H σ env → Grow B0 H0 B H → D.nx σ H
  | .ret r => ∀ v B H, Grow B0 H0 B H → r.ok B v → D.rt v H
  | .err c => ∀ d B H, Grow B0 H0 B H → c.ok H d → E.xk c.cls d H
  | .ct env => ∀ σ B H, Sok H0 B H σ env → Grow B0 H0 B H → D.ct σ H
def R1 (Γ : Cg) (L : Lc) (E : Wc) (s : Stmt) (env : List Sl) (o : Out) : Prop :=
  ∃ t : TS, (∀ X, Ok Γ L E X → PS X s t) ∧ ∀ (H0 B0 B H : Hp) (σ : L2.St) (D : Ends), Sok H0 B H σ env → Grow B0 H0 B H → OutOk o E H0 B0 D → t D σ H
def RS (Γ : Cg) (L : Lc) (E : Wc) (s : List Stmt) (env : List Sl) (o : Out) : Prop :=
  ∃ t : TS, (∀ X, Ok Γ L E X → PSs X s t) ∧ ∀ (H0 B0 B H : Hp) (σ : L2.St) (D : Ends), Sok H0 B H σ env → Grow B0 H0 B H → OutOk o E H0 B0 D → t D σ H
/-- what is no next statement -/
def Out.end_ : Out → Bool
  | .nx _ => false
  | _ => true
theorem Grow.mut {B0 H0 B H : Hp} (g : Grow B0 H0 B H) {p : Addr} {o : HO} (hB : B p = none) (hH : H0 p = none) : Grow B0 H0 B (upd H p o) :=
  ⟨g.b, fun a u z => by rw [upd_ne (ne_of_none z hB)]; exact g.i _ _ z, fun a u z => by rw [upd_ne (ne_of_none z hH)]; exact g.h _ _ z, g.f⟩
section
variable {Γ : Cg} {L : Lc} {E : Wc} {env env1 env2 : List Sl} {e a b c tg iter elt : Expr} {es : List Expr} {pos p : Pos} {r ra rb rc : Rp} {rs : List Rp} {s : Stmt} {rest ss : List Stmt} {o : Out}
theorem R1.weak (h : R1 Γ L E s env2 o) (l : EnvLe env env2) : R1 Γ L E s env o := by
  obtain ⟨t, h1, h2⟩ := h
  exact ⟨t, h1, fun H0 B0 B H σ D k g q => h2 H0 B0 B H σ D (k.weak l) g q⟩
theorem RS.weak (l : EnvLe env env2) (h : RS Γ L E ss env2 o) : RS Γ L E ss env o := by
  obtain ⟨t, h1, h2⟩ := h
  exact ⟨t, h1, fun H0 B0 B H σ D k g q => h2 H0 B0 B H σ D (k.weak l) g q⟩
theorem rs_nil : RS Γ L E [] env (.nx env) := ⟨tNext, fun X o => pss_nil, fun H0 B0 B H σ D k g q => q σ B H k g⟩
theorem rs_nilw (l : EnvLe env env1) : RS Γ L E [] env (.nx env1) := ⟨tNext, fun X o => pss_nil, fun H0 B0 B H σ D k g q => q σ B H (k.weak l) g⟩
theorem rs_cons (h : R1 Γ L E s env (.nx env1)) (hr : RS Γ L E rest env1 o) : RS Γ L E (s :: rest) env o := by
  obtain ⟨t, h1, h2⟩ := h
  obtain ⟨u, r1, r2⟩ := hr
  exact ⟨tSeq t u, fun X k => pss_cons (h1 X k) (r1 X k), fun H0 B0 B H σ D k g q => h2 H0 B0 B H σ _ k g fun σ2 B2 H2 k2 g2 => r2 H0 B0 B2 H2 σ2 D k2 g2 q⟩
theorem rs_one (h : R1 Γ L E s env o) : RS Γ L E [s] env o := by
  obtain ⟨t, h1, h2⟩ := h
  exact ⟨t, fun X k => pss_one (h1 X k), h2⟩
/-- it ends here -/
theorem rs_stop (h : R1 Γ L E s env o) (ho : o.end_ = true := by rfl) : RS Γ L E (s :: rest) env o := by
  obtain ⟨t, h1, h2⟩ := h
  refine ⟨tSeq t fun _ _ _ => False, fun X k => pss_cons (h1 X k) (no_ps X _), fun H0 B0 B H σ D k g q => h2 H0 B0 B H σ _ k g ?_⟩
  cases o with
  | nx _ => cases ho
  | ret r => exact q
  | err c => exact q
  | ct e => exact q
theorem r1_ret (h : RE Γ L E e env r) : R1 Γ L E (.Return (some e) pos) env (.ret r) := by
  obtain ⟨t, h1, h2⟩ := h
  exact ⟨tRet t, fun X k => ps_ret (h1 X k), fun H0 B0 B H σ D k g q => h2 H0 B H σ _ k fun v B2 H2 g2 o => q v B2 H2 (g.trans g2) o⟩
/-- return x, x the def's own list | dict -/
theorem r1_retL (i : Nat) {x : Str} (hb : varB L i x = true := by decide +kernel) (he : env[i]? = some (.aL rs) := by rfl) : R1 Γ L E (.Return (some (.Name x p)) pos) env (.ret (rL rs)) := by
  obtain ⟨h1, h2, h3, h4⟩ := varB_ok hb
  refine ⟨tRet (tVar i), fun X k => ps_ret (pe_var (by rw [k.N]; exact h1) (by rw [k.sc]; exact h2) h3 h4), fun H0 B0 B H σ D k g q => ?_⟩
  obtain ⟨p, vs, e1, e2, e3, e4, e5⟩ := k.accL he
  exact ⟨_, e1, q _ (upd B p (.lst vs)) H (g.take e2 e3 e4) ⟨p, vs, rfl, upd_same, e5.mono (same_new e3 _)⟩⟩
theorem r1_retD (i : Nat) {x : Str} {kvs : List (Key × Rp)} (hb : varB L i x = true := by decide +kernel) (he : env[i]? = some (.aD kvs) := by rfl) : R1 Γ L E (.Return (some (.Name x p)) pos) env (.ret (rD kvs)) := by
  obtain ⟨h1, h2, h3, h4⟩ := varB_ok hb
  refine ⟨tRet (tVar i), fun X k => ps_ret (pe_var (by rw [k.N]; exact h1) (by rw [k.sc]; exact h2) h3 h4), fun H0 B0 B H σ D k g q => ?_⟩
  obtain ⟨p, vs, e1, e2, e3, e4, e6, e5⟩ := k.accD he
  exact ⟨_, e1, q _ (upd B p (.dK vs)) H (g.take e2 e3 e4) ⟨p, vs, rfl, upd_same, e6, e5.mono (same_new e3 _)⟩⟩
/-- an own list is from here on sure -/
theorem RS.freeze (i : Nat) (he : env[i]? = some (.aL rs)) (h : RS Γ L E ss (env.set i (.dat (rL rs))) o) : RS Γ L E ss env o := by
  obtain ⟨t, h1, h2⟩ := h
  refine ⟨t, h1, fun H0 B0 B H σ D k g q => ?_⟩
  obtain ⟨p, vs, e1, e2, e3, e4, e5⟩ := k.accL he
  have g2 : Grow B0 H0 (upd B p (.lst vs)) H := g.take e2 e3 e4
  refine h2 H0 B0 _ H σ D ⟨g2.i, k.e0, by rw [List.length_set]; exact k.len, fun j x z => ?_, fun m n q hm hn => ?_⟩ g2 q
  · by_cases hj : i = j
    · subst hj
      rw [List.getElem?_set_self (List.getElem?_eq_some_iff.mp he).1] at z
      cases z
      rw [e1]
      exact ⟨p, vs, rfl, upd_same, e5.mono (same_new e3 _)⟩
    · rw [List.getElem?_set_ne hj] at z
      have y := k.sl j x z
      cases x with
      | no => cases σ[j]?.join <;> trivial
      | dat r =>
        cases w : σ[j]?.join with
        | none => rw [w] at y; exact y.elim
        | some u => rw [w] at y; exact r.mono (same_new e3 _) y
      | aL rs =>
        cases w : σ[j]?.join with
        | none => rw [w] at y; exact y.elim
        | some u =>
          rw [w] at y
          obtain ⟨p2, vs2, rfl, y2, y3, y4, y5⟩ := y
          have ne : p2 ≠ p := fun z2 => hj (k.ap i j p ⟨⟨_, he, rfl⟩, e1⟩ ⟨⟨_, z, rfl⟩, by rw [join_of w, z2]⟩)
          exact ⟨p2, vs2, rfl, y2, by rw [upd_ne ne]; exact y3, y4, y5.mono (same_new e3 _)⟩
      | aD rs =>
        cases w : σ[j]?.join with
        | none => rw [w] at y; exact y.elim
        | some u =>
          rw [w] at y
          obtain ⟨p2, vs2, rfl, y2, y3, y4, y6, y5⟩ := y
          have ne : p2 ≠ p := fun z2 => hj (k.ap i j p ⟨⟨_, he, rfl⟩, e1⟩ ⟨⟨_, z, rfl⟩, by rw [join_of w, z2]⟩)
          exact ⟨p2, vs2, rfl, y2, by rw [upd_ne ne]; exact y3, y4, y6, y5.mono (same_new e3 _)⟩
  · have key : ∀ c, AccAt σ (env.set i (.dat (rL rs))) c q → AccAt σ env c q := fun c ⟨⟨x, hx, hxa⟩, hc⟩ => by
      by_cases hj : i = c
      · subst hj
        rw [List.getElem?_set_self (List.getElem?_eq_some_iff.mp he).1] at hx
        cases hx
        cases hxa
      · rw [List.getElem?_set_ne hj] at hx
        exact ⟨⟨x, hx, hxa⟩, hc⟩
    exact k.ap m n q (key m hm) (key n hn)
theorem RS.freezeD (i : Nat) {kvs : List (Key × Rp)} (he : env[i]? = some (.aD kvs)) (h : RS Γ L E ss (env.set i (.dat (rD kvs))) o) : RS Γ L E ss env o := by
  obtain ⟨t, h1, h2⟩ := h
  refine ⟨t, h1, fun H0 B0 B H σ D k g q => ?_⟩
  obtain ⟨p, vs, e1, e2, e3, e4, e7, e5⟩ := k.accD he
  have g2 : Grow B0 H0 (upd B p (.dK vs)) H := g.take e2 e3 e4
  refine h2 H0 B0 _ H σ D ⟨g2.i, k.e0, by rw [List.length_set]; exact k.len, fun j x z => ?_, fun m n q hm hn => ?_⟩ g2 q
  · by_cases hj : i = j
    · subst hj
      rw [List.getElem?_set_self (List.getElem?_eq_some_iff.mp he).1] at z
      cases z
      rw [e1]
      exact ⟨p, vs, rfl, upd_same, e7, e5.mono (same_new e3 _)⟩
    · rw [List.getElem?_set_ne hj] at z
      have y := k.sl j x z
      cases x with
      | no => cases σ[j]?.join <;> trivial
      | dat r =>
        cases w : σ[j]?.join with
        | none => rw [w] at y; exact y.elim
        | some u => rw [w] at y; exact r.mono (same_new e3 _) y
      | aL rs =>
        cases w : σ[j]?.join with
        | none => rw [w] at y; exact y.elim
        | some u =>
          rw [w] at y
          obtain ⟨p2, vs2, rfl, y2, y3, y4, y5⟩ := y
          have ne : p2 ≠ p := fun z2 => hj (k.ap i j p ⟨⟨_, he, rfl⟩, e1⟩ ⟨⟨_, z, rfl⟩, by rw [join_of w, z2]⟩)
          exact ⟨p2, vs2, rfl, y2, by rw [upd_ne ne]; exact y3, y4, y5.mono (same_new e3 _)⟩
      | aD rs =>
        cases w : σ[j]?.join with
        | none => rw [w] at y; exact y.elim
        | some u =>
          rw [w] at y
          obtain ⟨p2, vs2, rfl, y2, y3, y4, y6, y5⟩ := y
          have ne : p2 ≠ p := fun z2 => hj (k.ap i j p ⟨⟨_, he, rfl⟩, e1⟩ ⟨⟨_, z, rfl⟩, by rw [join_of w, z2]⟩)
          exact ⟨p2, vs2, rfl, y2, by rw [upd_ne ne]; exact y3, y4, y6, y5.mono (same_new e3 _)⟩
  · have key : ∀ c, AccAt σ (env.set i (.dat (rD kvs))) c q → AccAt σ env c q := fun c ⟨⟨x, hx, hxa⟩, hc⟩ => by
      by_cases hj : i = c
      · subst hj
        rw [List.getElem?_set_self (List.getElem?_eq_some_iff.mp he).1] at hx
        cases hx
        cases hxa
      · rw [List.getElem?_set_ne hj] at hx
        exact ⟨⟨x, hx, hxa⟩, hc⟩
    exact k.ap m n q (key m hm) (key n hn)
/-! stores -/
theorem r1_asg {js : List Nat} (he : RE Γ L E e env r) (hg : RG Γ L E tg js env r env1)
    (hs : ∀ en : Env, swapsWithSole [tg] e pos.line en = pure false := by intro _; rfl) (hw : ∀ en : Env, swappedStores [tg] e en = pure none := by intro _; rfl)
    (h1 : ∀ en : Env, (assignEach [tg] en).map (·.2) = [assign tg en] := by intro _; rfl) : R1 Γ L E (.Assign [tg] e pos) env (.nx env1) := by
  obtain ⟨t, e1, e2⟩ := he
  obtain ⟨g, g1, g2⟩ := hg
  exact ⟨tAsg t g, fun X k => ps_asg (e1 X k) (g1 X k) (hs _) (hw _) (h1 _), fun H0 B0 B H σ D k gr q => e2 H0 B H σ _ k fun v B2 H2 gr2 o => g2 H0 B2 H2 σ v _ (k.grow gr2) o fun σ' k' _ _ => q σ' B2 H2 k' (gr.trans gr2)⟩
/-- x = e -/
theorem r1_set (i : Nat) {x : Str} (he : RE Γ L E e env r) (hb : stoB L i x = true := by decide +kernel) (hs : ∀ en : Env, swapsWithSole [.Name x p] e pos.line en = pure false := by intro _; rfl) (hw : ∀ en : Env, swappedStores [.Name x p] e en = pure none := by intro _; rfl) :
    R1 Γ L E (.Assign [.Name x p] e pos) env (.nx (env.set i (.dat r))) := r1_asg he (rg_name i hb) hs hw
theorem Sok.own {H0 B H : Hp} {σ : L2.St} {env : List Sl} (s : Sok H0 B H σ env) {i : Nat} {p : Addr} {sl : Sl} (h : SlOk H0 B H (some (.ref p)) sl) (hp : ∀ j, AccAt σ env j p → False) : Sok H0 B H (σ.set i (some (.ref p))) (env.set i sl) := by
  refine ⟨s.ex, s.e0, by rw [List.length_set, List.length_set]; exact s.len, fun j x e => ?_, fun a b q ha hb => ?_⟩
  · by_cases hj : i = j
    · subst hj
      have hl : i < env.length := by
        have := (List.getElem?_eq_some_iff.mp e).1
        rwa [List.length_set] at this
      rw [List.getElem?_set_self hl] at e
      cases e
      rw [List.getElem?_set_self (by rw [s.len]; exact hl)]
      exact h
    · rw [List.getElem?_set_ne hj] at e ⊢
      exact s.sl j x e
  · have key : ∀ c, AccAt (σ.set i (some (.ref p))) (env.set i sl) c q → (c = i ∧ q = p) ∨ (c ≠ i ∧ AccAt σ env c q) := fun c ⟨⟨x, hx, hxa⟩, hc⟩ => by
      by_cases hj : i = c
      · subst hj
        have hl : i < env.length := by
          have := (List.getElem?_eq_some_iff.mp hx).1
          rwa [List.length_set] at this
        rw [List.getElem?_set_self (by rw [s.len]; exact hl)] at hc
        cases hc
        exact .inl ⟨rfl, rfl⟩
      · rw [List.getElem?_set_ne hj] at hx hc
        exact .inr ⟨fun z => hj z.symm, ⟨x, hx, hxa⟩, hc⟩
    rcases key a ha with ⟨e1, e2⟩ | ⟨_, e1⟩
    · rcases key b hb with ⟨e3, e4⟩ | ⟨_, e3⟩
      · rw [e1, e3]
      · rw [e2] at e3; exact (hp b e3).elim
    · rcases key b hb with ⟨e3, e4⟩ | ⟨_, e3⟩
      · rw [e4] at e1; exact (hp a e1).elim
      · exact s.ap a b q e1 e3
theorem Sok.accNe {H0 B H : Hp} {σ : L2.St} {env : List Sl} (s : Sok H0 B H σ env) {p : Addr} (h : H p = none) : ∀ j, AccAt σ env j p → False := fun j ⟨⟨x, hx, hxa⟩, hj⟩ => by
  cases x with
  | no => cases hxa
  | dat r => cases hxa
  | aL rs =>
    obtain ⟨p2, vs, e1, e2, _⟩ := s.accL hx
    rw [hj] at e1
    cases e1
    rw [h] at e2
    cases e2
  | aD rs =>
    obtain ⟨p2, vs, e1, e2, _⟩ := s.accD hx
    rw [hj] at e1
    cases e1
    rw [h] at e2
    cases e2
/-- x = a new list, from here on the def's own -/
theorem r1_own (i : Nat) {x : Str} (he : RF Γ L E e env rs) (hb : stoB L i x = true := by decide +kernel) (hs : ∀ en : Env, en.scope = L.sc → swapsWith e (some (.Name x p)) pos.line en = pure false := by intro _ _; rfl) :
    R1 Γ L E (.Assign [.Name x p] e pos) env (.nx (env.set i (.aL rs))) := by
  obtain ⟨t, e1, e2⟩ := he
  obtain ⟨h1, h2, h3⟩ := stoB_ok hb
  refine ⟨tAsg t (gName i), fun X k => ps_set (by rw [k.N]; exact k.nd) (by rw [k.N]; exact h1) (by rw [k.sc]; exact h2) (e1 X k) (hs _ k.sc) (by
    rcases h3 with h3 | h3
    · exact .inr (by rw [k.sc]; exact h3)
    · exact .inl (k.fn h3 x)), fun H0 B0 B H σ D k g q => e2 H0 B H σ _ k fun p vs B2 H2 g2 a1 a2 a3 a4 => ?_⟩
  exact q _ B2 H2 ((k.grow g2).own ⟨p, vs, rfl, a1, a2, k.e0.free a3, a4⟩ fun j hj => k.accNe a3 j hj) (g.trans g2)
theorem r1_ownD (i : Nat) {x : Str} {kvs : List (Key × Rp)} (he : RFd Γ L E e env kvs) (hb : stoB L i x = true := by decide +kernel) (hs : ∀ en : Env, en.scope = L.sc → swapsWith e (some (.Name x p)) pos.line en = pure false := by intro _ _; rfl) :
    R1 Γ L E (.Assign [.Name x p] e pos) env (.nx (env.set i (.aD kvs))) := by
  obtain ⟨t, e1, e2⟩ := he
  obtain ⟨h1, h2, h3⟩ := stoB_ok hb
  refine ⟨tAsg t (gName i), fun X k => ps_set (by rw [k.N]; exact k.nd) (by rw [k.N]; exact h1) (by rw [k.sc]; exact h2) (e1 X k) (hs _ k.sc) (by
    rcases h3 with h3 | h3
    · exact .inr (by rw [k.sc]; exact h3)
    · exact .inl (k.fn h3 x)), fun H0 B0 B H σ D k g q => e2 H0 B H σ _ k fun p vs B2 H2 g2 a1 a2 a3 a4 a5 => ?_⟩
  exact q _ B2 H2 ((k.grow g2).own ⟨p, vs, rfl, a1, a2, k.e0.free a3, a4, a5⟩ fun j hj => k.accNe a3 j hj) (g.trans g2)
/-- x = [..], a comprehension on one line, x a plain local: kept sure (dat) or the def's own (aL) -/
theorem r1_setlc {α : Type} {xs : List α} {f h : α → Rp} {scope : Scope} {ifs : List Expr} {env' : α → List Sl} {q : α → Bool} {js : List Nat} (i : Nat) {x : Str} (own : List (Str × Nat)) (hi : RI Γ L E tg iter env xs f)
    (hg : ∀ x ∈ xs, RG Γ (blkL L scope) E.b tg js (wipeE env (own.map (·.2))) (f x) (env' x))
    (ht : ∀ x ∈ xs, RTs Γ (blkL L scope) E.b ifs (env' x) (q x))
    (he : ∀ x ∈ xs, q x = true → RE Γ (blkL L scope) E.b elt (env' x) (h x)) (hz : xs.length < sizeLine)
    (hl : decide (L.N[i]? = some x ∧ L.sc.names.lookup x = some .local ∧ (scope.names.any fun (n, k) => n == x && (k == .local || k == .cell)) = false ∧ L.sc.kind = .function) = true := by decide +kernel)
    (hline : (p.line == pos.line) = true := by rfl)
    (hj : ∀ j ∈ js, j ∈ own.map (·.2) := by decide) (hok : blkC L.N L.sc scope own = true := by decide +kernel) (hf : ∀ (en : Env) x, foldedSetIterable iter en x = pure x := by intro _ _; rfl) {spos : Pos} :
    R1 Γ L E (.Assign [.Name x p] (.ListComp elt [⟨tg, iter, ifs, 0⟩] scope pos) spos) env (.nx (env.set i (.aL ((xs.filter q).map h)))) := by
  obtain ⟨ti, g, tt, te, i1, i2, i3, i4, i5⟩ := lc_read own hi hg ht he hz hj
  obtain ⟨l1, l2, l3, l4⟩ := of_decide_eq_true hl
  refine ⟨_, fun X o => ps_setLc (i := i) o.calm (by rw [o.N]; exact o.nd) (by rw [o.N]; exact l1) (by rw [o.sc]; exact l2) (sw_true (by rw [o.sc]; exact l4) (by rw [o.sc]; exact l2) hline l3) (i1 X o) (blkOk_by (by rw [o.N, o.sc]; exact hok)) (fun s H C cl fp => i2 _ (ok_blk o s H scope C cl fp)) (fun s H C cl fp => i3 _ (ok_blk o s H scope C cl fp)) (fun s H C cl fp => i4 _ (ok_blk o s H scope C cl fp)) (hf _),
    fun H0 B0 B H σ D k gr q => i5 H0 B H σ _ k fun p vs B2 H2 g2 a1 a2 a3 a4 => ?_⟩
  exact q _ B2 H2 ((k.grow g2).own ⟨p, vs, rfl, a1, a2, k.e0.free a3, a4⟩ fun j hj => k.accNe a3 j hj) (gr.trans g2)
/-- the slot of an own list behind a change of it -/
theorem Sok.chL {H0 B H : Hp} {σ : L2.St} {env : List Sl} {i : Nat} {q : Addr} {vs : List V} (s : Sok H0 B H σ env) (he : env[i]? = some (.aL rs)) (hq : σ[i]? = some (some (.ref q))) {rs2 : List Rp} (ho : Oks B rs2 vs) : Sok H0 B (upd H q (.lst vs)) σ (env.set i (.aL rs2)) := by
  obtain ⟨p2, vs2, e1, e2, e3, e4, e5⟩ := s.accL he
  rw [hq] at e1
  cases e1
  refine ⟨fun a o z => by rw [upd_ne (ne_of_none z e3)]; exact s.ex _ _ z, fun a o z => by rw [upd_ne (ne_of_none z e4)]; exact s.e0 _ _ z, by rw [List.length_set]; exact s.len, fun j x z => ?_, fun m n c hm hn => ?_⟩
  · by_cases hj : i = j
    · subst hj
      rw [List.getElem?_set_self (List.getElem?_eq_some_iff.mp he).1] at z
      cases z
      rw [hq]
      exact ⟨q, vs, rfl, upd_same, e3, e4, ho⟩
    · rw [List.getElem?_set_ne hj] at z
      have y := s.sl j x z
      cases x with
      | no => cases σ[j]?.join <;> trivial
      | dat r => exact (by
          cases w : σ[j]?.join with
          | none => rw [w] at y; exact y.elim
          | some u => rw [w] at y; exact y)
      | aL rs =>
        cases w : σ[j]?.join with
        | none => rw [w] at y; exact y.elim
        | some u =>
          rw [w] at y
          obtain ⟨p2, vs2, rfl, y2, y3, y4, y5⟩ := y
          have ne : p2 ≠ q := fun z2 => hj (s.ap i j q ⟨⟨_, he, rfl⟩, hq⟩ ⟨⟨_, z, rfl⟩, by rw [join_of w, z2]⟩)
          exact ⟨p2, vs2, rfl, by rw [upd_ne ne]; exact y2, y3, y4, y5⟩
      | aD rs =>
        cases w : σ[j]?.join with
        | none => rw [w] at y; exact y.elim
        | some u =>
          rw [w] at y
          obtain ⟨p2, vs2, rfl, y2, y3, y4, y6, y5⟩ := y
          have ne : p2 ≠ q := fun z2 => hj (s.ap i j q ⟨⟨_, he, rfl⟩, hq⟩ ⟨⟨_, z, rfl⟩, by rw [join_of w, z2]⟩)
          exact ⟨p2, vs2, rfl, by rw [upd_ne ne]; exact y2, y3, y4, y6, y5⟩
  · have key : ∀ d, AccAt σ (env.set i (.aL rs2)) d c → AccAt σ env d c := fun d ⟨⟨x, hx, hxa⟩, hc⟩ => by
      by_cases hj : i = d
      · subst hj
        exact ⟨⟨_, he, rfl⟩, hc⟩
      · rw [List.getElem?_set_ne hj] at hx
        exact ⟨⟨x, hx, hxa⟩, hc⟩
    exact s.ap m n c (key m hm) (key n hn)
theorem Sok.chD {H0 B H : Hp} {σ : L2.St} {env : List Sl} {i : Nat} {q : Addr} {kvs kvs2 : List (Key × Rp)} {ws : List (Key × V)} (s : Sok H0 B H σ env) (he : env[i]? = some (.aD kvs)) (hq : σ[i]? = some (some (.ref q))) (hk : ws.map Prod.fst = kvs2.map Prod.fst) (ho : Oks B (kvs2.map Prod.snd) (ws.map Prod.snd)) : Sok H0 B (upd H q (.dK ws)) σ (env.set i (.aD kvs2)) := by
  obtain ⟨p2, vs2, e1, e2, e3, e4, e6, e5⟩ := s.accD he
  rw [hq] at e1
  cases e1
  refine ⟨fun a o z => by rw [upd_ne (ne_of_none z e3)]; exact s.ex _ _ z, fun a o z => by rw [upd_ne (ne_of_none z e4)]; exact s.e0 _ _ z, by rw [List.length_set]; exact s.len, fun j x z => ?_, fun m n c hm hn => ?_⟩
  · by_cases hj : i = j
    · subst hj
      rw [List.getElem?_set_self (List.getElem?_eq_some_iff.mp he).1] at z
      cases z
      rw [hq]
      exact ⟨q, ws, rfl, upd_same, e3, e4, hk, ho⟩
    · rw [List.getElem?_set_ne hj] at z
      have y := s.sl j x z
      cases x with
      | no => cases σ[j]?.join <;> trivial
      | dat r => exact (by
          cases w : σ[j]?.join with
          | none => rw [w] at y; exact y.elim
          | some u => rw [w] at y; exact y)
      | aL rs =>
        cases w : σ[j]?.join with
        | none => rw [w] at y; exact y.elim
        | some u =>
          rw [w] at y
          obtain ⟨p2, vs2, rfl, y2, y3, y4, y5⟩ := y
          have ne : p2 ≠ q := fun z2 => hj (s.ap i j q ⟨⟨_, he, rfl⟩, hq⟩ ⟨⟨_, z, rfl⟩, by rw [join_of w, z2]⟩)
          exact ⟨p2, vs2, rfl, by rw [upd_ne ne]; exact y2, y3, y4, y5⟩
      | aD rs =>
        cases w : σ[j]?.join with
        | none => rw [w] at y; exact y.elim
        | some u =>
          rw [w] at y
          obtain ⟨p2, vs2, rfl, y2, y3, y4, y6, y5⟩ := y
          have ne : p2 ≠ q := fun z2 => hj (s.ap i j q ⟨⟨_, he, rfl⟩, hq⟩ ⟨⟨_, z, rfl⟩, by rw [join_of w, z2]⟩)
          exact ⟨p2, vs2, rfl, by rw [upd_ne ne]; exact y2, y3, y4, y6, y5⟩
  · have key : ∀ d, AccAt σ (env.set i (.aD kvs2)) d c → AccAt σ env d c := fun d ⟨⟨x, hx, hxa⟩, hc⟩ => by
      by_cases hj : i = d
      · subst hj
        exact ⟨⟨_, he, rfl⟩, hc⟩
      · rw [List.getElem?_set_ne hj] at hx
        exact ⟨⟨x, hx, hxa⟩, hc⟩
    exact s.ap m n c (key m hm) (key n hn)
end
end Rl
/-! text RL7 -/
set_option Elab.async false
set_option linter.all false
set_option maxRecDepth 100000
set_option maxHeartbeats 2000000
namespace Rl
open PySem PySem.Spec PyProof.Rows L2
theorem Grow.at0 {B H0 H : Hp} (i : Same B H) (h : Same H0 H) : Grow B H0 B H := ⟨Same.refl _, i, h, fun _ q => .inl q⟩
theorem Grow.trans0 {B0 H0 B2 H2 B4 H4 : Hp} (x : Grow B0 H0 B2 H2) (y : Grow B2 H0 B4 H4) : Grow B0 H0 B4 H4 :=
  ⟨x.b.trans y.b, y.i, y.h, fun a q => by
    rcases y.f a q with z | z
    · exact x.f a z
    · exact .inr z⟩
section
variable {Γ : Cg} {L : Lc} {E : Wc} {env env1 env2 : List Sl} {e a b c tg iter elt : Expr} {es : List Expr} {pos p pos' apos : Pos} {r ra rb rc : Rp} {rs : List Rp} {s : Stmt} {rest ss A Bs : List Stmt} {o : Out}
/-! ### changes of one's own lists and dicts -/
theorem own_var (i : Nat) {x : Str} (hb : varB L i x = true) {X : Cx} (k : Ok Γ L E X) : PE X (.Name x p) (tVar i) := by
  obtain ⟨h1, h2, h3, h4⟩ := varB_ok hb
  exact pe_var (by rw [k.N]; exact h1) (by rw [k.sc]; exact h2) h3 h4
/-- x.append(e) -/
theorem r1_append (i : Nat) {x : Str} {cpos : Pos} (h : RE Γ L E e env r) (hz : rs.length < 16777216) (hi : env[i]? = some (.aL rs) := by rfl) (hb : varB L i x = true := by decide +kernel) (hs : ∀ en : Env, starEach [e] en = (false, eval e en) :: starEach [] en := by intro _; rfl) (hline : (apos.endLine == cpos.line) = true := by rfl) :
    R1 Γ L E (.Expr (.Call (.Attribute (.Name x p) "append" apos) [e] [] cpos) pos) env (.nx (env.set i (.aL (rs ++ [r])))) := by
  obtain ⟨t, e1, e2⟩ := h
  refine ⟨tDrop (tBM Γ.K "list" rAppend (tVar i) (tCons t tNil)), fun X k => ps_expr (by have z := pe_bm (X := X) (cpos := cpos) (apos := apos) PySem.F.plainAttrs_list PySem.F.slot_list_append PySem.F.type_list_append mt_append (own_var (p := p) i hb k) (pa_cons (e1 X k) pa_nil (hs _)) rfl (by rw [hs]; rfl) hline (hs _) rfl; rw [k.K] at z; exact z), fun H0 B0 B H σ D k g q => ?_⟩
  obtain ⟨l, vs, a1, a2, a3, a4, a5⟩ := k.accL hi
  refine ⟨_, a1, .inl ⟨rfl, vs, SqL.of a2⟩, e2 H0 B H σ _ k fun v B2 H2 g2 o => ?_⟩
  have k2 := k.grow g2
  obtain ⟨l', vs', b1, b2, b3, b4, b5⟩ := k2.accL hi
  rw [a1] at b1
  cases b1
  refine ⟨l, vs', v, rfl, rfl, b2, by rw [b5.length]; show _ < sizeLine; rw [sizeLine_eq]; exact hz, ?_⟩
  exact q σ B2 _ (k2.chL hi a1 (b5.snoc o)) ((g.trans g2).mut b3 b4)
/-- x.extend(e), e a new list -/
theorem r1_extend (i : Nat) {x : Str} {cpos : Pos} {qs : List Rp} (h : RE Γ L E e env (rL qs)) (hz : rs.length + qs.length ≤ 16777216) (hi : env[i]? = some (.aL rs) := by rfl) (hb : varB L i x = true := by decide +kernel) (hs : ∀ en : Env, starEach [e] en = (false, eval e en) :: starEach [] en := by intro _; rfl) (hline : (apos.endLine == cpos.line) = true := by rfl) :
    R1 Γ L E (.Expr (.Call (.Attribute (.Name x p) "extend" apos) [e] [] cpos) pos) env (.nx (env.set i (.aL (rs ++ qs)))) := by
  obtain ⟨t, e1, e2⟩ := h
  refine ⟨tDrop (tBM Γ.K "list" rExtend (tVar i) (tCons t tNil)), fun X k => ps_expr (by have z := pe_bm (X := X) (cpos := cpos) (apos := apos) PySem.F.plainAttrs_list PySem.F.slot_list_extend PySem.F.type_list_extend mt_extend (own_var (p := p) i hb k) (pa_cons (e1 X k) pa_nil (hs _)) rfl (by rw [hs]; rfl) hline (hs _) rfl; rw [k.K] at z; exact z), fun H0 B0 B H σ D k g q => ?_⟩
  obtain ⟨l, vs, a1, a2, a3, a4, a5⟩ := k.accL hi
  refine ⟨_, a1, .inl ⟨rfl, vs, SqL.of a2⟩, e2 H0 B H σ _ k fun v B2 H2 g2 ⟨n, ws, hv, hn, ho⟩ => ?_⟩
  subst hv
  have k2 := k.grow g2
  obtain ⟨l', vs', b1, b2, b3, b4, b5⟩ := k2.accL hi
  rw [a1] at b1
  cases b1
  refine ⟨l, n, vs', ws, rfl, rfl, b2, g2.i _ _ hn, by rw [b5.length, ho.length, sizeLine_eq]; exact hz, ?_⟩
  exact q σ B2 _ (k2.chL hi a1 (b5.append ho)) ((g.trans g2).mut b3 b4)
/-- x[b] = e, x one's own list -/
theorem r1_setL (i : Nat) {x : Str} {n : Int} {j : Nat} (he : RE Γ L E e env r) (hb : RE Γ L E b env (rI n)) (hj : ixN rs.length n = some j) (hi : env[i]? = some (.aL rs) := by rfl) (hx : varB L i x = true := by decide +kernel)
    (hs : ∀ en : Env, swapsWithSole [.Subscript (.Name x p) b pos'] e pos.line en = pure false := by intro _; rfl) (hw : ∀ en : Env, swappedStores [.Subscript (.Name x p) b pos'] e en = pure none := by intro _; rfl)
    (h1 : ∀ en : Env, (assignEach [.Subscript (.Name x p) b pos'] en).map (·.2) = [assign (.Subscript (.Name x p) b pos') en] := by intro _; rfl)
    (ha : ∀ (en : Env) v, assign (.Subscript (.Name x p) b pos') en v = (do
      let ov ← holding [v] (eval (.Name x p) en)
      let iv ← holding [v, ov] (eval b en)
      standAt pos'
      holding [v, ov, iv] (setItem ov iv v)
      release [v, ov, iv] []) := by intro _ _; rfl) :
    R1 Γ L E (.Assign [.Subscript (.Name x p) b pos'] e pos) env (.nx (env.set i (.aL (rs.set j r)))) := by
  obtain ⟨t, e1, e2⟩ := he
  obtain ⟨u, b1, b2⟩ := hb
  refine ⟨tAsg t (gSub (tVar i) u rSetL), fun X k => ps_asg (e1 X k) (pg_sub (own_var i hx k) (b1 X k) set_list (ha _)) (hs _) (hw _) (h1 _), fun H0 B0 B H σ D k g q => e2 H0 B H σ _ k fun v B2 H2 g2 o => ?_⟩
  have k2 := k.grow g2
  obtain ⟨l, vs, a1, a2, a3, a4, a5⟩ := k2.accL hi
  refine ⟨_, a1, b2 H0 B2 H2 σ _ k2 fun w B3 H3 g3 hw => ?_⟩
  have k3 := k2.grow g3
  have hw : w = .int n := hw
  subst hw
  obtain ⟨l', vs', c1, c2, c3, c4, c5⟩ := k3.accL hi
  rw [a1] at c1
  cases c1
  refine ⟨l, vs', n, j, rfl, rfl, c2, by rw [c5.length]; exact hj, ?_⟩
  exact q σ B3 _ (k3.chL hi a1 (c5.set j (r.mono g3.b o))) (((g.trans g2).trans g3).mut c3 c4)
def putR (kvs : List (Key × Rp)) (k : Key) (r : Rp) : List (Key × Rp) :=
  if (kvs.any fun kv => decide (kv.1 = k)) = true then kvs.map (fun kv => if kv.1 = k then (kv.1, r) else kv) else kvs ++ [(k, r)]
theorem any_keys (k : Key) : ∀ {kvs : List (Key × Rp)} {ws : List (Key × V)}, ws.map Prod.fst = kvs.map Prod.fst → (ws.any fun kv => decide (kv.1 = k)) = (kvs.any fun kv => decide (kv.1 = k))
  | [], [], _ => rfl
  | [], _ :: _, h => by simp at h
  | _ :: _, [], h => by simp at h
  | (g, q) :: fs, (g', v) :: ws, h => by
    have h0 : g' = g ∧ ws.map Prod.fst = fs.map Prod.fst := by simpa using h
    obtain ⟨rfl, h1⟩ := h0
    rw [List.any_cons, List.any_cons, any_keys k h1]
theorem repl_keys (k : Key) (v : V) (r : Rp) {B : Hp} (hr : r.ok B v) : ∀ {kvs : List (Key × Rp)} {ws : List (Key × V)}, ws.map Prod.fst = kvs.map Prod.fst → Oks B (kvs.map Prod.snd) (ws.map Prod.snd) →
    (ws.map fun kv => if kv.1 = k then (kv.1, v) else kv).map Prod.fst = (kvs.map fun kv => if kv.1 = k then (kv.1, r) else kv).map Prod.fst ∧
      Oks B ((kvs.map fun kv => if kv.1 = k then (kv.1, r) else kv).map Prod.snd) ((ws.map fun kv => if kv.1 = k then (kv.1, v) else kv).map Prod.snd)
  | [], [], _, _ => ⟨rfl, trivial⟩
  | [], _ :: _, h, _ => by simp at h
  | _ :: _, [], h, _ => by simp at h
  | (g, q) :: fs, (g', u) :: ws, h, o => by
    have h0 : g' = g ∧ ws.map Prod.fst = fs.map Prod.fst := by simpa using h
    obtain ⟨rfl, h1⟩ := h0
    obtain ⟨i1, i2⟩ := repl_keys k v r hr h1 o.2
    by_cases hk : g' = k
    · simp only [List.map_cons, if_pos hk]
      exact ⟨by rw [i1], hr, i2⟩
    · simp only [List.map_cons, if_neg hk]
      exact ⟨by rw [i1], o.1, i2⟩
theorem put_ok {B : Hp} {kvs : List (Key × Rp)} {ws : List (Key × V)} {k : Key} {v : V} (h : ws.map Prod.fst = kvs.map Prod.fst) (o : Oks B (kvs.map Prod.snd) (ws.map Prod.snd)) (hr : r.ok B v) :
    (putK ws k v).map Prod.fst = (putR kvs k r).map Prod.fst ∧ Oks B ((putR kvs k r).map Prod.snd) ((putK ws k v).map Prod.snd) := by
  unfold putK putR
  rw [any_keys k h]
  cases e : (kvs.any fun kv => decide (kv.1 = k)) with
  | true =>
    rw [if_pos rfl, if_pos rfl]
    exact repl_keys k v r hr h o
  | false =>
    rw [if_neg Bool.false_ne_true, if_neg Bool.false_ne_true, List.map_append, List.map_append, List.map_append, List.map_append, h]
    exact ⟨rfl, o.append ⟨hr, trivial⟩⟩
theorem len_keys {kvs : List (Key × Rp)} {ws : List (Key × V)} (h : ws.map Prod.fst = kvs.map Prod.fst) : ws.length = kvs.length := by
  have := congrArg List.length h
  rwa [List.length_map, List.length_map] at this
/-- x[b] = e, x one's own dict -/
theorem r1_put (i : Nat) {x : Str} {k : Key} {kvs : List (Key × Rp)} (he : RE Γ L E e env r) (hb : RE Γ L E b env (rV (kV k))) (hz : kvs.length < 16777216) (hi : env[i]? = some (.aD kvs) := by rfl) (hx : varB L i x = true := by decide +kernel)
    (hs : ∀ en : Env, swapsWith e (some (.Subscript (.Name x p) b pos')) pos.line en = pure false := by intro _; rfl) :
    R1 Γ L E (.Assign [.Subscript (.Name x p) b pos'] e pos) env (.nx (env.set i (.aD (putR kvs k r)))) := by
  obtain ⟨t, e1, e2⟩ := he
  obtain ⟨u, b1, b2⟩ := hb
  refine ⟨sDPut (tVar i) u t, fun X o => ps_dput o.hu (own_var i hx o) (b1 X o) (e1 X o) (hs _), fun H0 B0 B H σ D s1 g q => e2 H0 B H σ _ s1 fun v B2 H2 g2 o => ?_⟩
  have k2 := s1.grow g2
  obtain ⟨l, ws, a1, a2, a3, a4, a6, a5⟩ := k2.accD hi
  refine ⟨_, a1, b2 H0 B2 H2 σ _ k2 fun w B3 H3 g3 hw => ?_⟩
  have k3 := k2.grow g3
  have hw : w = kV k := hw
  subst hw
  obtain ⟨l', ws', c1, c2, c3, c4, c6, c5⟩ := k3.accD hi
  rw [a1] at c1
  cases c1
  obtain ⟨z1, z2⟩ := put_ok (k := k) c6 c5 (r.mono g3.b o)
  refine ⟨l, _, rfl, DPut.k c2 (by rw [len_keys c6, sizeLine_eq]; exact hz), ?_⟩
  exact q σ B3 _ (k3.chD hi a1 z1 z2) (((g.trans g2).trans g3).mut c3 c4)
/-- x.setdefault(b, c) -/
theorem r1_setdefault (i : Nat) {x : Str} {k : Key} {kvs : List (Key × Rp)} {cpos : Pos} (hb : RE Γ L E b env (rV (kV k))) (hc : RE Γ L E c env r) (hz : kvs.length < 16777216) (hi : env[i]? = some (.aD kvs) := by rfl) (hx : varB L i x = true := by decide +kernel)
    (hM : ∀ X : Cx, M2 X (.Name x p) "setdefault" apos b c cpos := by intro _; exact ⟨rfl, rfl, rfl, rfl⟩) :
    R1 Γ L E (.Expr (.Call (.Attribute (.Name x p) "setdefault" apos) [b, c] [] cpos) pos) env (.nx (env.set i (.aD (if (lookR kvs k).isSome then kvs else kvs ++ [(k, r)])))) := by
  obtain ⟨t, b1, b2⟩ := hb
  obtain ⟨u, c1, c2⟩ := hc
  refine ⟨tDrop (tDSetd (tVar i) t u), fun X o => ps_expr (pe_dsetd (own_var i hx o) (b1 X o) (c1 X o) (hM X)), fun H0 B0 B H σ D s1 g q => ?_⟩
  obtain ⟨l, ws, a1, a2, a3, a4, a6, a5⟩ := s1.accD hi
  refine ⟨_, a1, l, rfl, .inl ⟨ws, .inl a2⟩, b2 H0 B H σ _ s1 fun v B2 H2 g2 hv => c2 H0 B2 H2 σ _ (s1.grow g2) fun w B3 H3 g3 hw => ?_⟩
  have hv : v = kV k := hv
  subst hv
  have k3 := (s1.grow g2).grow g3
  obtain ⟨l', ws', d1, d2, d3, d4, d6, d5⟩ := k3.accD hi
  rw [a1] at d1
  cases d1
  refine ⟨ws', k, d2, rfl, by rw [len_keys d6, sizeLine_eq]; exact hz, fun v0 hv0 => ?_, fun hn => ?_⟩
  · have z := lookR_is (k := k) d6 d5
    rw [hv0] at z
    have q2 := q σ B3 H3
    rw [← z] at q2
    have e3 : env.set i (.aD kvs) = env := by
      apply List.ext_getElem?
      intro j
      by_cases hj : i = j
      · subst hj; rw [List.getElem?_set_self (List.getElem?_eq_some_iff.mp hi).1, hi]
      · rw [List.getElem?_set_ne hj]
    refine q2 ?_ ((g.trans g2).trans g3)
    show Sok H0 B3 H3 σ (env.set i (.aD (if true = true then kvs else _)))
    rw [if_pos rfl, e3]
    exact k3
  · have z := lookR_is (k := k) d6 d5
    rw [hn] at z
    have q2 := q σ B3 (upd H3 l (.dK (putK ws' k w)))
    rw [← z] at q2
    refine q2 ?_ (((g.trans g2).trans g3).mut d3 d4)
    show Sok H0 B3 _ σ (env.set i (.aD (if false = true then kvs else _)))
    rw [if_neg Bool.false_ne_true, putK_new w hn]
    refine k3.chD hi a1 ?_ ?_
    · rw [List.map_append, List.map_append, d6]; rfl
    · rw [List.map_append, List.map_append]; exact d5.append ⟨hw, trivial⟩
/-- x += e of ints -/
theorem r1_aug (i : Nat) {x : Str} {n m : Int} (he : RE Γ L E e env (rI m)) (hi : env[i]? = some (.dat (rI n)) := by rfl) (hb : stoB L i x = true := by decide +kernel) : R1 Γ L E (.AugAssign (.Name x p) .Add e pos) env (.nx (env.set i (.dat (rI (n + m))))) := by
  obtain ⟨t, e1, e2⟩ := he
  obtain ⟨h1, h2, h3⟩ := stoB_ok hb
  refine ⟨tAug i t (ipI fun i j => i + j), fun X k => ps_aug (by rw [k.N]; exact k.nd) (by rw [k.N]; exact h1) (by rw [k.sc]; exact h2) (e1 X k) ip_add (by
    rcases h3 with h3 | h3
    · exact .inr (by rw [k.sc]; exact h3)
    · exact .inl (k.fn h3 x)), fun H0 B0 B H σ D k g q => ?_⟩
  obtain ⟨v, a1, a2⟩ := k.dat hi
  have a2 : v = .int n := a2
  subst a2
  refine ⟨_, a1, e2 H0 B H σ _ k fun w B2 H2 g2 hw => ?_⟩
  have hw : w = .int m := hw
  subst hw
  exact ⟨n, m, rfl, rfl, q _ B2 H2 ((k.grow g2).set rfl) (g.trans g2)⟩
/-! ### if, expressions, continue, raises -/
theorem r1_if {k : Bool} (hc : RT Γ L E c env k) (h1 : k = true → RS Γ L E A env o) (h2 : k = false → RS Γ L E Bs env o) : R1 Γ L E (.If c A Bs pos) env o := by
  obtain ⟨t, c1, c2⟩ := hc
  cases k with
  | true =>
    obtain ⟨u, a1, a2⟩ := h1 rfl
    refine ⟨tIfS t u fun _ _ _ => False, fun X k => ps_if (c1 X k) (a1 X k) (no_ps X _), fun H0 B0 B H σ D k g q => c2 H0 B H σ _ k fun B2 H2 g2 => ?_⟩
    rw [if_pos rfl]
    exact a2 H0 B0 B2 H2 σ D (k.grow g2) (g.trans g2) q
  | false =>
    obtain ⟨u, a1, a2⟩ := h2 rfl
    refine ⟨tIfS t (fun _ _ _ => False) u, fun X k => ps_if (c1 X k) (no_ps X _) (a1 X k), fun H0 B0 B H σ D k g q => c2 H0 B H σ _ k fun B2 H2 g2 => ?_⟩
    rw [if_neg Bool.false_ne_true]
    exact a2 H0 B0 B2 H2 σ D (k.grow g2) (g.trans g2) q
theorem r1_expr (he : RE Γ L E e env r) (hs : ∀ en : Env, swapsWith e none pos.line en = pure false := by intro _; rfl) : R1 Γ L E (.Expr e pos) env (.nx env) := by
  obtain ⟨t, e1, e2⟩ := he
  exact ⟨tDrop t, fun X k => ps_expr (e1 X k) (hs _), fun H0 B0 B H σ D k g q => e2 H0 B H σ _ k fun v B2 H2 g2 _ => q σ B2 H2 (k.grow g2) (g.trans g2)⟩
theorem r1_ct : R1 Γ L E (.Continue pos) env (.ct env) := ⟨tCont, fun X k => ps_continue, fun H0 B0 B H σ D k g q => q σ B H k g⟩
/-- what raises -/
theorem r1_xexpr {k : XC} (he : RX Γ L E e env k) (hs : ∀ en : Env, swapsWith e none pos.line en = pure false := by intro _; rfl) : R1 Γ L E (.Expr e pos) env (.err k) := by
  obtain ⟨t, e1, e2⟩ := he
  exact ⟨tDrop t, fun X o => ps_expr (e1 X o) (hs _), fun H0 B0 B H σ D s g q => e2 H0 B H σ _ s fun d B2 H2 g2 o => q d B2 H2 (g.trans g2) o⟩
theorem r1_xret {k : XC} (he : RX Γ L E e env k) : R1 Γ L E (.Return (some e) pos) env (.err k) := by
  obtain ⟨t, e1, e2⟩ := he
  exact ⟨tRet t, fun X o => ps_ret (e1 X o), fun H0 B0 B H σ D s g q => e2 H0 B H σ _ s fun d B2 H2 g2 o => q d B2 H2 (g.trans g2) o⟩
theorem r1_xset {k : XC} {x : Str} (he : RX Γ L E e env k) (i : Nat) (hb : stoB L i x = true := by decide +kernel) (hs : ∀ en : Env, swapsWith e (some (.Name x p)) pos.line en = pure false := by intro _; rfl) : R1 Γ L E (.Assign [.Name x p] e pos) env (.err k) := by
  obtain ⟨t, e1, e2⟩ := he
  obtain ⟨h1, h2, h3⟩ := stoB_ok hb
  exact ⟨tAsg t (gName i), fun X k => ps_set (by rw [k.N]; exact k.nd) (by rw [k.N]; exact h1) (by rw [k.sc]; exact h2) (e1 X k) (hs _) (by
    rcases h3 with h3 | h3
    · exact .inr (by rw [k.sc]; exact h3)
    · exact .inl (k.fn h3 x)), fun H0 B0 B H σ D s g q => e2 H0 B H σ _ s fun d B2 H2 g2 o => q d B2 H2 (g.trans g2) o⟩
theorem r1_xif {k : XC} (hc : ∃ t : TT, (∀ X, Ok Γ L E X → PT X c t) ∧ ∀ (H0 B H : Hp) (σ : L2.St) (Q : Bool → Hp → Prop), Sok H0 B H σ env → (∀ d B2 H2, Grow B H B2 H2 → k.ok H2 d → E.xk k.cls d H2) → t σ H Q) : R1 Γ L E (.If c A Bs pos) env (.err k) := by
  obtain ⟨t, c1, c2⟩ := hc
  exact ⟨tIfS t (fun _ _ _ => False) fun _ _ _ => False, fun X o => ps_if (c1 X o) (no_ps X _) (no_ps X _), fun H0 B0 B H σ D s g q => c2 H0 B H σ _ s fun d B2 H2 g2 o => q d B2 H2 (g.trans g2) o⟩
/-- an argument raises: x(.., e, ..) by its place -/
def RXA (Γ : Cg) (L : Lc) (E : Wc) (es : List Expr) (env : List Sl) (k : XC) : Prop :=
  ∃ t : TA, (∀ X, Ok Γ L E X → PA X es t) ∧ ∀ (H0 B H : Hp) (σ : L2.St) (Q : List V → Hp → Prop), Sok H0 B H σ env → (∀ d B2 H2, Grow B H B2 H2 → k.ok H2 d → E.xk k.cls d H2) → t σ H Q
theorem no_pa (X : Cx) (es : List Expr) : PA X es (fun _ _ _ => False) := ⟨fun _ _ _ _ _ _ _ h => h.elim⟩
theorem rxa_here {k : XC} (he : RX Γ L E e env k) (hs : ∀ en : Env, starEach (e :: es) en = (false, eval e en) :: starEach es en := by intro _; rfl) : RXA Γ L E (e :: es) env k := by
  obtain ⟨t, e1, e2⟩ := he
  exact ⟨tCons t fun _ _ _ => False, fun X o => pa_cons (e1 X o) (no_pa X _) (hs _), fun H0 B H σ Q s q => e2 H0 B H σ _ s q⟩
theorem rxa_next {k : XC} (he : RE Γ L E e env r) (hr : RXA Γ L E es env k) (hs : ∀ en : Env, starEach (e :: es) en = (false, eval e en) :: starEach es en := by intro _; rfl) : RXA Γ L E (e :: es) env k := by
  obtain ⟨t, e1, e2⟩ := he
  obtain ⟨u, r1, r2⟩ := hr
  exact ⟨tCons t u, fun X o => pa_cons (e1 X o) (r1 X o) (hs _), fun H0 B H σ Q s q => e2 H0 B H σ _ s fun v B2 H2 g _ => r2 H0 B2 H2 σ _ (s.grow g) fun d B3 H3 g2 o => q d B3 H3 (g.trans g2) o⟩
theorem rx_argX {α : Type} {pre : α → Prop} {pf : α → List Rp} {res : α → Res} {j : Nat} {x : Str} {ps : List Str} {k : XC} (F : FnX Γ j x ps (SpX pre pf res)) (ha : RXA Γ L E (e :: es) env k) (hj : j ≤ E.k := by exact Nat.le_of_ble_eq_true rfl)
    (hg : gloB L x = true := by decide +kernel) (hs : ∀ en : Env, starEach (e :: es) en = (false, eval e en) :: starEach es en := by intro _; rfl) (hp : ∀ (q : Pos) (en : Env), (backTo q (starEach es en)).any (·.1) = false := by intro _ _; rfl) :
    RX Γ L E (.Call (.Name x p) (e :: es) [] pos) env k := by
  obtain ⟨t, h1, h2⟩ := ha
  exact ⟨tCall _ [] E.xk t, fun X o => pe_fnX F hj hg o (h1 X o) hs hp, fun H0 B H σ Q s q => h2 H0 B H σ _ s q⟩
theorem rx_arg0 {α : Type} {pre : α → Prop} {pf : α → List Rp} {res : α → Rp} {j : Nat} {x : Str} {ps : List Str} {k : XC} (F : Fn0 Γ j x ps (Sp0 pre pf res)) (ha : RXA Γ L E (e :: es) env k) (hj : j ≤ E.k := by exact Nat.le_of_ble_eq_true rfl)
    (hg : gloB L x = true := by decide +kernel) (hs : ∀ en : Env, starEach (e :: es) en = (false, eval e en) :: starEach es en := by intro _; rfl) (hp : ∀ (q : Pos) (en : Env), (backTo q (starEach es en)).any (·.1) = false := by intro _ _; rfl) :
    RX Γ L E (.Call (.Name x p) (e :: es) [] pos) env k := by
  obtain ⟨t, h1, h2⟩ := ha
  exact ⟨tCall _ [] E0 t, fun X o => pe_fn0 F hj hg o (h1 X o) hs hp, fun H0 B H σ Q s q => h2 H0 B H σ _ s q⟩
/-- a[b] where a raises -/
theorem rx_ix {k : XC} (ha : RX Γ L E a env k) (hs : PlainIx b := by intro _ _; rfl) : RX Γ L E (.Subscript a b pos) env k := by
  obtain ⟨t, h1, h2⟩ := ha
  exact ⟨tOp (rIxL Γ.K) t fun _ _ _ => False, fun X o => by have z := ix_list (X := X); rw [o.K] at z; exact pe_ix z (h1 X o) (no_pe X _) hs, fun H0 B H σ Q s q => h2 H0 B H σ _ s q⟩
theorem rx_fld {k : XC} {f : Str} (ha : RX Γ L E a env k) (hb : ∀ en : Env, attributeBase a f en (eval a en) = eval a en := by intro _; rfl) : RX Γ L E (.Attribute a f pos) env k := by
  obtain ⟨t, h1, h2⟩ := ha
  exact ⟨tFld Γ.K t f, fun X o => by have z := pe_fld (X := X) (f := f) (pos := pos) (h1 X o) (hb _); rw [o.K] at z; exact z, fun H0 B H σ Q s q => h2 H0 B H σ _ s q⟩
theorem rx_len {k : XC} (hm : Γ.mg "len" = none) (ha : RX Γ L E a env k) (hg : gloB L "len" = true := by decide +kernel) (hs : ∀ en : Env, starEach [a] en = (false, eval a en) :: starEach [] en := by intro _; rfl) : RX Γ L E (.Call (.Name "len" p) [a] [] pos) env k := by
  obtain ⟨t, h1, h2⟩ := ha
  exact ⟨tCB _ (tCons t tNil), fun X o => pe_callB call_len_str (o.gl hg) (by rw [o.mg]; exact hm) PySem.boot_len (pa_cons (h1 X o) pa_nil (hs _)) (by decide) (by decide) (hs _) rfl, fun H0 B H σ Q s q => h2 H0 B H σ _ s q⟩
/-- if a != b: .., where a raises -/
theorem xt_cmp {k : XC} {op : CmpOp} {r2 : R2} (ho : ∀ X, Ok Γ L E X → OpR X (compareOp op) r2) (hm : behindInMarks op b = false) (ha : RX Γ L E a env k) :
    ∃ t : TT, (∀ X, Ok Γ L E X → PT X (.Compare a [op] [b] pos) t) ∧ ∀ (H0 B H : Hp) (σ : L2.St) (Q : Bool → Hp → Prop), Sok H0 B H σ env → (∀ d B2 H2, Grow B H B2 H2 → k.ok H2 d → E.xk k.cls d H2) → t σ H Q := by
  obtain ⟨t, h1, h2⟩ := ha
  exact ⟨tTest (tOp r2 t fun _ _ _ => False), fun X o => pt_cmpR (ho X o) (h1 X o) (no_pe X _) hm, fun H0 B H σ Q s q => h2 H0 B H σ _ s q⟩
/-- x.append(e), e raises -/
theorem rx_append (i : Nat) {x : Str} {cpos : Pos} {k : XC} (h : RX Γ L E e env k) (hi : env[i]? = some (.aL rs) := by rfl) (hb : varB L i x = true := by decide +kernel) (hs : ∀ en : Env, starEach [e] en = (false, eval e en) :: starEach [] en := by intro _; rfl) (hline : (apos.endLine == cpos.line) = true := by rfl) :
    RX Γ L E (.Call (.Attribute (.Name x p) "append" apos) [e] [] cpos) env k := by
  obtain ⟨t, e1, e2⟩ := h
  refine ⟨tBM Γ.K "list" rAppend (tVar i) (tCons t tNil), fun X k => (by have z := pe_bm (X := X) (cpos := cpos) (apos := apos) PySem.F.plainAttrs_list PySem.F.slot_list_append PySem.F.type_list_append mt_append (own_var (p := p) i hb k) (pa_cons (e1 X k) pa_nil (hs _)) rfl (by rw [hs]; rfl) hline (hs _) rfl; rw [k.K] at z; exact z), fun H0 B H σ Q k q => ?_⟩
  obtain ⟨l, vs, a1, a2, a3, a4, a5⟩ := k.accL hi
  exact ⟨_, a1, .inl ⟨rfl, vs, SqL.of a2⟩, e2 H0 B H σ _ k q⟩
/-- an own exception class without __init__ -/
structure ExP (Γ : Cg) (x : Str) (C : Addr) : Prop where
  at_ : Γ.mg x = some (.ref C)
  ex : PySem.W.excIn Γ.K C He.veBase "ValueError.__new__" = true
  kp : PySem.W.keepIn Γ.K (.ref C) = true
  sub : PySem.W.subIn Γ.K (.ref C) (.type "BaseException") = some true
  ty : PySem.W.typeIn Γ.K (.ref C) = some (.type "type")
def xc0 (C : Addr) : XC := ⟨.ref C, fun _ d => d = none⟩
theorem r1_raise {x m : Str} {C : Addr} {j : Nat} {p2 : Pos} (P : ExP Γ x C) (hg : gloB L x = true := by decide +kernel) : R1 Γ L E (.Raise (some (.Call (.Name x p) [.Constant (.str m) j p2] [] pos')) none pos) env (.err (xc0 C)) := by
  refine ⟨fun D σ H => (fun (σ : L2.St) (H : Hp) (Q : XK) => Q (.ref C) none H) σ H fun cls d H' => (fun cls d _ H => E.xk cls d H) cls d σ H', fun X o => ps_raise o.calm o.takes (pmk_own PySem.F.excBase_ValueError (by rw [o.K]; exact P.ex) (by rw [o.mg]; exact P.at_) (by rw [o.K]; exact P.kp) (raises_own (by rw [o.K]; exact P.sub) (by rw [o.K]; exact P.ty)) (o.gl hg) (gloB_ok hg).2.1), fun H0 B0 B H σ D s g q => ?_⟩
  exact q none B H g rfl
/-! ### for -/
/-- the turns: from here over the rest xs to the outcome -/
inductive LoopR (Γ : Cg) (L : Lc) (E : Wc) (tg : Expr) (body : List Stmt) {α : Type} (f : α → Rp) : List α → List Sl → Out → Prop where
  | nil {env : List Sl} : LoopR Γ L E tg body f [] env (.nx env)
  | next {x : α} {xs : List α} {env env1 env2 env3 : List Sl} {js : List Nat} {o : Out} (hg : RG Γ L E tg js env (f x) env1) (hb : RS Γ L E body env1 (.nx env2)) (l : EnvLe env2 env3) (h : LoopR Γ L E tg body f xs env3 o) : LoopR Γ L E tg body f (x :: xs) env o
  | cont {x : α} {xs : List α} {env env1 env2 env3 : List Sl} {js : List Nat} {o : Out} (hg : RG Γ L E tg js env (f x) env1) (hb : RS Γ L E body env1 (.ct env2)) (l : EnvLe env2 env3) (h : LoopR Γ L E tg body f xs env3 o) : LoopR Γ L E tg body f (x :: xs) env o
  | ret {x : α} {xs : List α} {env env1 : List Sl} {js : List Nat} {r : Rp} (hg : RG Γ L E tg js env (f x) env1) (hb : RS Γ L E body env1 (.ret r)) : LoopR Γ L E tg body f (x :: xs) env (.ret r)
  | err {x : α} {xs : List α} {env env1 : List Sl} {js : List Nat} {k : XC} (hg : RG Γ L E tg js env (f x) env1) (hb : RS Γ L E body env1 (.err k)) : LoopR Γ L E tg body f (x :: xs) env (.err k)
theorem r1_for {α : Type} {xs : List α} {f : α → Rp} {body : List Stmt} (hi : RI Γ L E tg iter env xs f) (h : LoopR Γ L E tg body f xs env o) (hf : ∀ (en : Env) x, foldedSetIterable iter en x = pure x := by intro _ _; rfl) : R1 Γ L E (.For tg iter body [] pos) env o := by
  obtain ⟨ti, i1, i2⟩ := hi
  refine ⟨tFor ti (fun v σ H Q => ∃ (js : List Nat) (e1 : List Sl) (r : Rp) (e2 : List Sl) (hg : RG Γ L E tg js e1 r e2), hg.choose v σ H Q) (fun D σ H => ∃ (e1 : List Sl) (o : Out) (hb : RS Γ L E body e1 o), hb.choose D σ H),
    fun X k => ps_for k.own k.calm (i1 X k) ?_ ?_ (hf _), fun H0 B0 B H σ D s g q => i2 H0 B H σ _ s fun J B1 H1 g1 T => ?_⟩
  · exact ⟨fun pins s1 σ1 H1 v u Q1 I1 r1 ⟨js, e1, r, e2, hg, z⟩ => (hg.choose_spec.1 X k).run pins s1 σ1 H1 v u Q1 I1 r1 z⟩
  · exact ⟨fun pins s1 σ1 H1 D1 I1 ⟨e1, o, hb, z⟩ => (hb.choose_spec.1 X k).run pins s1 σ1 H1 D1 I1 z⟩
  refine ⟨fun i m σ' H' => m = xs.length - i ∧ i ≤ xs.length ∧ ∃ envi B', LoopR Γ L E tg body f (xs.drop i) envi o ∧ Sok H0 B' H' σ' envi ∧ Grow B0 H0 B' H' ∧ Same B1 B', ⟨xs.length, rfl, Nat.zero_le _, env, B1, by simpa using h, s.grow g1, g.trans g1, Same.refl _⟩, fun i m σ' H' ⟨hm, hi2, envi, B', hL, hS, hG, hB⟩ => ?_⟩
  have tt := T i B' H' hB hS.ex
  by_cases hil : i = xs.length
  · left
    refine ⟨tt.2 hil, ?_⟩
    subst hil
    rw [List.drop_length] at hL
    cases hL
    exact q σ' B' H' hS hG
  · right
    have hlt : i < xs.length := by omega
    have hxi : xs[i]? = some xs[i] := List.getElem?_eq_getElem hlt
    have hdr : xs.drop i = xs[i] :: xs.drop (i + 1) := List.drop_eq_getElem_cons hlt
    rw [hdr] at hL
    obtain ⟨go, yl⟩ := tt.1 _ hxi
    refine ⟨go, fun σ5 H5 => ∃ envi B5, LoopR Γ L E tg body f (xs.drop (i + 1)) envi o ∧ Sok H0 B5 H5 σ5 envi ∧ Grow B0 H0 B5 H5 ∧ Same B1 B5, fun σ5 H5 ⟨e5, B5, a1, a2, a3, a4⟩ => ⟨xs.length - (i + 1), by omega, rfl, by omega, e5, B5, a1, a2, a3, a4⟩, fun v H2 y => ?_⟩
    obtain ⟨B2, g2, k2⟩ := yl v H2 y
    have s2 : Sok H0 B2 H2 σ' envi := hS.grow g2
    have gg : Grow B0 H0 B2 H2 := hG.trans g2
    cases hL with
    | next hg hb l hl =>
      exact ⟨_, _, _, _, hg, hg.choose_spec.2 H0 B2 H2 σ' v _ s2 k2 fun σ3 s3 _ _ => ⟨_, _, hb, hb.choose_spec.2 H0 B2 B2 H2 σ3 _ s3 (Grow.at0 g2.i s2.e0) fun σ4 B4 H4 s4 g4 => ⟨_, B4, hl, s4.weak l, gg.trans0 g4, (hB.trans g2.b).trans g4.b⟩⟩⟩
    | cont hg hb l hl =>
      exact ⟨_, _, _, _, hg, hg.choose_spec.2 H0 B2 H2 σ' v _ s2 k2 fun σ3 s3 _ _ => ⟨_, _, hb, hb.choose_spec.2 H0 B2 B2 H2 σ3 _ s3 (Grow.at0 g2.i s2.e0) fun σ4 B4 H4 s4 g4 => ⟨_, B4, hl, s4.weak l, gg.trans0 g4, (hB.trans g2.b).trans g4.b⟩⟩⟩
    | ret hg hb =>
      exact ⟨_, _, _, _, hg, hg.choose_spec.2 H0 B2 H2 σ' v _ s2 k2 fun σ3 s3 _ _ => ⟨_, _, hb, hb.choose_spec.2 H0 B0 B2 H2 σ3 _ s3 gg q⟩⟩
    | err hg hb =>
      exact ⟨_, _, _, _, hg, hg.choose_spec.2 H0 B2 H2 σ' v _ s2 k2 fun σ3 s3 _ _ => ⟨_, _, hb, hb.choose_spec.2 H0 B0 B2 H2 σ3 _ s3 gg q⟩⟩
end
end Rl
/-! text RL8 -/
set_option Elab.async false
set_option linter.all false
set_option maxRecDepth 100000
set_option maxHeartbeats 2000000
namespace Rl
open PySem PySem.Spec PyProof.Rows L2
/-! ### defs -/
theorem oks_slots {H0 B H : Hp} : ∀ {rs : List Rp} {vs : List V}, Oks B rs vs → ∀ (n : Nat) (i : Nat) (s : Sl), (rs.map Sl.dat ++ List.replicate n Sl.no)[i]? = some s → SlOk H0 B H ((vs.map some ++ List.replicate n (none : Option V))[i]?.join) s
  | [], [], _, n, i, s, h => by
    have e : s = .no := by
      rw [List.map_nil, List.nil_append] at h
      exact (List.mem_replicate.mp (List.mem_of_getElem? h)).2
    subst e
    cases ((([] : List V).map some ++ List.replicate n (none : Option V))[i]?.join) <;> trivial
  | r :: rs, v :: vs, o, n, 0, s, h => by
    have e : Sl.dat r = s := by simpa using h
    subst e
    exact o.1
  | r :: rs, v :: vs, o, n, i + 1, s, h => oks_slots o.2 n i s (by simpa using h)
theorem sok_start {B H : Hp} {rs : List Rp} {vs : List V} {N : List Str} {n : Nat} (hB : Same B H) (o : Oks B rs vs) (hn : N.length - rs.length = n) : Sok H B H (L2.start N vs) (rs.map Sl.dat ++ List.replicate n Sl.no) := by
  have l := o.length
  subst hn
  refine ⟨hB, Same.refl _, ?_, ?_, ?_⟩
  · unfold L2.start
    rw [l]
    simp [l]
  · unfold L2.start
    rw [l]
    exact oks_slots o _
  · intro i j p ⟨⟨s, hs, ha⟩, _⟩
    exfalso
    rcases List.mem_append.mp (List.mem_of_getElem? hs) with z | z
    · obtain ⟨r, _, e⟩ := List.mem_map.mp z
      subst e
      cases ha
    · rw [(List.mem_replicate.mp z).2] at ha
      cases ha
def RetO (o : Out) (r : Res) : Prop := match o, r with
  | .ret a, .ok b => a = b
  | .nx _, .ok b => b = rN
  | .err c, .err d => c = d
  | _, _ => False
structure DefAt (Γ : Cg) (x : Str) (st : Stmt) (ps : List Str) : Prop where
  ex : ∃ (f : Addr) (fd : FuncData), Fun Γ.K x x st f fd ∧ Γ.mg x = some (.ref f) ∧ Binds Γ.K fd ps []
/-- what the slots hold at the entry -/
def envOf (L : Lc) (rs : List Rp) : List Sl := rs.map Sl.dat ++ List.replicate (L.N.length - rs.length) Sl.no
section
variable {Γ : Cg} {x : Str} {st : Stmt} {ps : List Str} {α : Type} {pre : α → Prop} {pf : α → List Rp}
/-- a def that raises nothing -/
theorem def0 {res : α → Rp} (k : Nat) (L : Lc) (D : DefAt Γ x st ps) (S : FnScope L.N ps (defScope st)) (hsc : L.sc = defScope st) (hdf : L.df = true) (hl : ∀ y, (pf y).length = ps.length)
    (hb : ∀ y, pre y → ∃ o, RetO o (.ok (res y)) ∧ RS Γ L ⟨E0, k⟩ (defBody st) (envOf L (pf y)) o) : Fn0 Γ (k + 1) x ps (Sp0 pre pf res) := by
  obtain ⟨f, fd, F, hm, hbd⟩ := D.ex
  refine ⟨f, fd, hm, F.kp, hbd, F.ok S (fun vs H Q E ⟨y, B, _, _, ho, _⟩ => by rw [ho.length, hl]) (fun cdv A outer s H vs Q E hr ⟨y, B, hy, hB, ho, q⟩ => ?_)⟩
  obtain ⟨o, hro, t, h1, h2⟩ := hb y hy
  refine ⟨t, h1 _ ⟨rfl, rfl, rfl, rfl, rfl, hr, rfl, S.nd, hsc.symm, rfl, fun _ _ => rfl, PassesOwn.never, takes0, fun _ => ⟨rfl, rfl⟩⟩, h2 H B B H _ _ (sok_start hB ho (by rfl)) (Grow.refl hB) ?_⟩
  cases o with
  | ret r =>
    have hro : r = res y := hro
    subst hro
    exact fun v B2 H2 g k => q v B2 H2 g k
  | nx e =>
    have hro : res y = rN := hro
    rw [hro] at q
    exact fun σ B2 H2 _ g => q _ B2 H2 g rfl
  | err c => exact hro.elim
  | ct e => exact hro.elim
/-- a def that may raise -/
theorem defX {res : α → Res} (k : Nat) (L : Lc) (D : DefAt Γ x st ps) (S : FnScope L.N ps (defScope st)) (hsc : L.sc = defScope st) (hdf : L.df = true) (hl : ∀ y, (pf y).length = ps.length)
    (hb : ∀ (E : XK) y, pre y → ∃ o, RetO o (res y) ∧ RS Γ L ⟨E, k⟩ (defBody st) (envOf L (pf y)) o) : FnX Γ (k + 1) x ps (SpX pre pf res) := by
  obtain ⟨f, fd, F, hm, hbd⟩ := D.ex
  refine ⟨f, fd, hm, F.kp, hbd, F.okX S (fun vs H Q E ⟨y, B, _, _, ho, _⟩ => by rw [ho.length, hl]) (fun cdv A outer s H vs Q E hr ⟨y, B, hy, hB, ho, q⟩ => ?_)⟩
  obtain ⟨o, hro, t, h1, h2⟩ := hb E y hy
  refine ⟨t, h1 _ ⟨rfl, rfl, rfl, rfl, rfl, hr, rfl, S.nd, hsc.symm, rfl, fun _ _ => rfl, passes_of rfl, takes_of rfl rfl rfl rfl, fun _ => ⟨rfl, rfl⟩⟩, h2 H B B H _ _ (sok_start hB ho (by rfl)) (Grow.refl hB) ?_⟩
  cases o with
  | ret r =>
    cases hres : res y with
    | ok b =>
      rw [hres] at hro q
      have hro : r = b := hro
      subst hro
      exact fun v B2 H2 g k => q v B2 H2 g k
    | err c => rw [hres] at hro; exact hro.elim
  | nx e =>
    cases hres : res y with
    | ok b =>
      rw [hres] at hro q
      have hro : b = rN := hro
      subst hro
      exact fun σ B2 H2 _ g => q _ B2 H2 g rfl
    | err c => rw [hres] at hro; exact hro.elim
  | err c =>
    cases hres : res y with
    | ok b => rw [hres] at hro; exact hro.elim
    | err d =>
      rw [hres] at hro q
      have hro : c = d := hro
      subst hro
      exact fun dd B2 H2 g k => q dd B2 H2 g k
  | ct e => exact (by cases hres : res y <;> rw [hres] at hro <;> exact hro.elim)
end
theorem FnF.mono {Γ : Cg} {C : CXT} {j k : Nat} {x : Str} {ps : List Str} {sp : Sp} (F : FnF Γ C j x ps sp) (h : j ≤ k) : FnF Γ C k x ps sp := by
  obtain ⟨f, fd, h1, h2, h3, h4⟩ := F.ex
  exact ⟨f, fd, h1, h2, h3, h4.mono h⟩
/-! ### while -/
section
variable {Γ : Cg} {L : Lc} {E : Wc} {env env1 env2 : List Sl} {c : Expr} {body : List Stmt} {pos : Pos}
inductive WhileR (Γ : Cg) (L : Lc) (E : Wc) (c : Expr) (body : List Stmt) : Nat → List Sl → List Sl → Prop where
  | stop {n : Nat} {env : List Sl} (h : RT Γ L E c env false) : WhileR Γ L E c body n env env
  | turn {n : Nat} {env env1 env2 env3 : List Sl} (h : RT Γ L E c env true) (hb : RS Γ L E body env (.nx env1)) (l : EnvLe env1 env2) (w : WhileR Γ L E c body n env2 env3) : WhileR Γ L E c body (n + 1) env env3
theorem r1_while {n : Nat} (h : WhileR Γ L E c body n env env1) : R1 Γ L E (.While c body [] pos) env (.nx env1) := by
  refine ⟨tWhile (fun σ H Q => ∃ (e : List Sl) (b : Bool) (hc : RT Γ L E c e b), hc.choose σ H Q) (fun D σ H => ∃ (e1 : List Sl) (o : Out) (hb : RS Γ L E body e1 o), hb.choose D σ H), fun X k => ps_while k.own ?_ ?_, fun H0 B0 B H σ D s g q => ?_⟩
  · exact ⟨fun pins s1 σ1 H1 Q1 I1 ⟨e, b, hc, z⟩ => (hc.choose_spec.1 X k).run pins s1 σ1 H1 Q1 I1 z⟩
  · exact ⟨fun pins s1 σ1 H1 D1 I1 ⟨e, o, hb, z⟩ => (hb.choose_spec.1 X k).run pins s1 σ1 H1 D1 I1 z⟩
  refine ⟨fun m σ' H' => ∃ e B', WhileR Γ L E c body m e env1 ∧ Sok H0 B' H' σ' e ∧ Grow B0 H0 B' H', ⟨n, env, B, h, s, g⟩, fun m σ' H' ⟨e, B', hw, hs, hg⟩ => ?_⟩
  cases hw with
  | stop hc =>
    exact ⟨_, _, hc, hc.choose_spec.2 H0 B' H' σ' _ hs fun B2 H2 g2 => by
      rw [if_neg Bool.false_ne_true]
      exact q σ' B2 H2 (hs.grow g2) (hg.trans g2)⟩
  | turn hc hb l w =>
    exact ⟨_, _, hc, hc.choose_spec.2 H0 B' H' σ' _ hs fun B2 H2 g2 => by
      rw [if_pos rfl]
      exact ⟨_, fun _ _ z => z, _, _, hb, hb.choose_spec.2 H0 B0 B2 H2 σ' _ (hs.grow g2) (hg.trans g2) fun σ3 B3 H3 s3 g3 => ⟨_, Nat.lt_succ_self _, _, B3, w, s3.weak l, g3⟩⟩⟩
end
end Rl
/-! text RL9 -/
set_option Elab.async false
set_option linter.all false
set_option maxRecDepth 100000
set_option maxHeartbeats 4000000
namespace Rl
open PySem PySem.Spec PyProof.Rows L2
section
variable {X : Cx}
/-! ### tuples whose object is known (it has no dict of its own) -/
def rTz (rs : List Rp) : Rp := ⟨fun H v => ∃ (p : Addr) (o : Obj) (vs : List V), v = .ref p ∧ H p = some (.frz o (.tup vs)) ∧ o.dict = none ∧ Oks H rs vs, fun e ⟨p, o, vs, h1, h2, h3, h4⟩ => ⟨p, o, vs, h1, e _ _ h2, h3, h4.mono e⟩⟩
def tTupZ (t : TA) : TE := fun σ H Q => t σ H fun xs H1 => xs.length ≤ sizeLine ∧ ∀ p o, H1 p = none → o.dict = none → Q (.ref p) (upd H1 p (.frz o (.tup xs)))
theorem pe_tupZ {es : List Expr} {t : TA} {pos : Pos} {x1} (h : PA X es t) : PE X (.Tuple es x1 pos) (tTupZ t) := by
  refine ⟨fun pins s σ H Q I hq => ?_⟩
  refine wpAny_Tuple_spliced (thn (h.run pos pins s σ H _ I hq) fun us s1 ⟨xs, H1, I1, r, z, q⟩ => ⟨by rw [← r.length]; exact z, ?_⟩)
  have hf : H1 s1.heap.objs.size = none := I1.hok.fresh (Nat.le_refl _)
  have I2 : Inv X pins σ (upd H1 s1.heap.objs.size (.frz { cls := .type "tuple", data := .seq us.toArray } (.tup xs))) { s1 with heap := s1.heap.push { cls := .type "tuple", data := .seq us.toArray } } :=
    I1.laid (t' := s1.toks) (fun b u e => Heap.get?_push_of_some _ e) (Nat.le_refl _) (show ObjOk X.prog X.w _ _ _ (.frz _ (.tup xs)) from ⟨Heap.get?_push_size _ rfl, z, us, r, ⟨_, Heap.get?_push_size _ rfl, rfl, _, rfl⟩⟩)
  exact ⟨.ref s1.heap.objs.size, _, I2, rfl, q _ _ hf rfl⟩
theorem call_tupleZ : CallR X (.type "tuple") (fun xs H Q => ∃ p ys, xs = [.ref p] ∧ SqL X.K H p ys ∧ ∀ l o, H l = none → o.dict = none → Q (.ref l) (upd H l (.frz o (.tup ys)))) := by
  intro pins s σ H xs us Q I r h
  obtain ⟨p, ys, rfl, hq, q⟩ := h
  obtain ⟨u, rfl, rx⟩ := vals1 r
  cases rx
  obtain ⟨its, r', pl, hz⟩ := I.list hq
  have hlen := r'.length
  refine call_tuple_list pl.isList (fun h' kp => ?_) (by simp only [List.size_toArray] <;> omega)
  have I1 : Inv X pins σ H { s with heap := h' } := I.kept (t' := s.toks) kp
  have I2 : Inv X pins σ (upd H h'.objs.size (.frz { cls := .type "tuple", data := .seq its.toArray } (.tup ys))) { s with heap := h'.push { cls := .type "tuple", data := .seq its.toArray } } :=
    I1.laid (t' := s.toks) (fun b o e => Heap.get?_push_of_some _ e) (Nat.le_refl _) (show ObjOk X.prog X.w _ _ _ (.frz _ (.tup ys)) from ⟨Heap.get?_push_size _ rfl, hz, its, r', IsTup.new _ _⟩)
  exact ⟨.ref h'.objs.size, _, I2, rfl, q _ _ (I1.hok.fresh (Nat.le_refl _)) rfl⟩
/-- dict(t), t a tuple of pairs -/
theorem call_dictT (hcalm : X.calm = true) : CallR X (.type "dict") (fun xs H Q => ∃ (a : Addr) (o : Obj) (ps : List Addr) (kvs : List (Key × V)), xs = [.ref a] ∧ H a = some (.frz o (.tup (ps.map V.ref))) ∧ o.dict = none ∧ Paired (fun p kv => SqT X.K H p [kV kv.1, kv.2]) ps kvs ∧
    ∀ p, H p = none → Q (.ref p) (upd H p (.dK (mergeK [] kvs)))) := by
  intro pins s σ H xs us Q I r q
  obtain ⟨a, o, ps, kvs, ex, hq, hod, hp, q⟩ := q
  subst ex
  obtain ⟨u, eu, rx⟩ := vals1 r
  subst eu
  cases rx
  obtain ⟨ho, hz, its, rv, ob, hob, hoc, n, hdat⟩ := I.hok a _ hq
  rw [ho] at hob
  cases hob
  have ei := refs_at rv
  subst ei
  rw [List.length_map] at hz
  obtain ⟨prs, rel, hl, hpr⟩ := pairs_of I hp
  have key : ∀ (j : Nat) (q : Key × Value), prs[j]? = some q → ∃ u : Value, ps[j]? = some (ps.getD j 0) ∧ IsTup s.heap (ps.getD j 0) #[u, q.2] ∧ keyIs q.1 u = true := fun j q' e => by
    obtain ⟨b, u, e1, e2, e3⟩ := hpr j q' e
    have eb : ps.getD j 0 = b := by rw [List.getD_eq_getElem?_getD, e1]; rfl
    exact ⟨u, by rw [eb]; exact e1, by rw [eb]; exact e2, e3⟩
  -- the pairs' own values
  let kv : Nat → Value × Value := fun j => match prs[j]? with
    | some q => (open Classical in if h : ∃ u : Value, IsTup s.heap (ps.getD j 0) #[u, q.2] ∧ keyIs q.1 u = true then (h.choose, q.2) else (.none, q.2))
    | none => (.none, .none)
  have kvp : ∀ (j : Nat) (q : Key × Value), prs[j]? = some q → IsTup s.heap (ps.getD j 0) #[(kv j).1, (kv j).2] ∧ keyIs q.1 (kv j).1 = true ∧ (kv j).2 = q.2 := fun j q e => by
    obtain ⟨u, _, e2, e3⟩ := key j q e
    have hex : ∃ u : Value, IsTup s.heap (ps.getD j 0) #[u, q.2] ∧ keyIs q.1 u = true := ⟨u, e2, e3⟩
    have ek : kv j = (hex.choose, q.2) := by
      show (match prs[j]? with | some q => _ | none => _) = _
      rw [e]
      exact dif_pos hex
    rw [ek]
    exact ⟨hex.choose_spec.1, hex.choose_spec.2, rfl⟩
  refine PySem.call_dict_pairs (knd := mixKind X.prog X.w) (kvs := prs) (PairArg.tuple a (ps.map Value.ref).toArray (fun j => ps.getD j 0) ((List.range prs.length).map kv)) (I.ok.hd hcalm) ⟨⟨o, n, ho, hoc, hod, hdat⟩, by simp [hl], fun j k v e => ?_⟩ ⟨by simp, fun j k v e => ?_⟩ (by simp [hl]; exact hz) fun h' tk hd' hk => ?_
  · have eq1 : ((List.range prs.length).map kv)[j]? = some (k, v) := e
    rw [List.getElem?_map] at eq1
    cases hj : (List.range prs.length)[j]? with
    | none => rw [hj] at eq1; cases eq1
    | some m =>
      rw [hj] at eq1
      obtain ⟨h1, h2⟩ := range_at hj
      subst h2
      have e' : kv m = (k, v) := Option.some.inj eq1
      have hpm : prs[m]? = some prs[m] := List.getElem?_eq_getElem h1
      obtain ⟨z1, z2, z3⟩ := kvp m _ hpm
      rw [e'] at z1
      refine ⟨?_, .inl ?_⟩
      · obtain ⟨u, e4, _⟩ := key m _ hpm
        show ((ps.map Value.ref).toArray)[m]? = _
        rw [List.getElem?_toArray, List.getElem?_map, e4]
        rfl
      · obtain ⟨o1, a1, a2, n1, a3⟩ := z1
        exact ⟨o1, a1, a2, n1, a3⟩
  · have eq1 : ((List.range prs.length).map kv)[j]? = some (k, v) := e
    rw [List.getElem?_map] at eq1
    cases hj : (List.range prs.length)[j]? with
    | none => rw [hj] at eq1; cases eq1
    | some m =>
      rw [hj] at eq1
      obtain ⟨h1, h2⟩ := range_at hj
      subst h2
      have e' : kv m = (k, v) := Option.some.inj eq1
      have hpm : prs[m]? = some prs[m] := List.getElem?_eq_getElem h1
      obtain ⟨z1, z2, z3⟩ := kvp m _ hpm
      rw [e'] at z2 z3
      refine ⟨prs[m].1, ?_, z2⟩
      rw [hpm]
      have z3 : v = prs[m].2 := z3
      rw [z3]
  · have hm : (s.heap.objs.size == sysModules) = false := beq_eq_false_iff_ne.mpr (Nat.ne_of_gt I.big)
    have hlen : (mergeK [] kvs).length ≤ sizeLine := by
      refine Nat.le_trans (length_mergeK kvs []) ?_
      rw [List.length_nil, Nat.zero_add, rel.length, hl]
      exact hz
    exact ⟨.ref s.heap.objs.size, upd H s.heap.objs.size (.dK (mergeK [] kvs)), I.laid (t' := tk) (fun b o' e => hk b o' (fun z => nomatch z) e) (Nat.le_refl _) (show ObjOk X.prog X.w _ _ _ (.dK (mergeK [] kvs)) from ⟨hlen, hm, merged [] prs, KV.merge rel .nil, hd'⟩), rfl, q _ (I.hok.fresh (Nat.le_refl _))⟩
end
section
variable {Γ : Cg} {L : Lc} {E : Wc} {env : List Sl} {e a b c tg iter : Expr} {es : List Expr} {pos p : Pos} {r : Rp} {rs : List Rp} {α : Type} {xs : List α} {f : α → Rp}
theorem re_tupZ {x1} (h : RA Γ L E es env rs) (hl : rs.length ≤ sizeLine := by exact Nat.le_of_ble_eq_true rfl) : RE Γ L E (.Tuple es x1 pos) env (rTz rs) := by
  obtain ⟨t, h1, h2⟩ := h
  exact ⟨tTupZ t, fun X o => pe_tupZ (h1 X o), fun H0 B H σ Q s q => h2 H0 B H σ _ s fun vs B2 H2 g k => ⟨by rw [k.length]; exact hl, fun p o hp ho =>
    q _ (upd B2 p (.frz o (.tup vs))) _ (g.trans (Grow.new g.i hp _)) ⟨p, o, vs, rfl, upd_same, ho, k.mono (same_new (g.i.free hp) _)⟩⟩⟩
theorem re_tupleZ (hm : Γ.mg "tuple" = none) (ha : RPl Γ L E e env rs) (hg : gloB L "tuple" = true := by decide +kernel) (hs : ∀ en : Env, starEach [e] en = (false, eval e en) :: starEach [] en := by intro _; rfl) : RE Γ L E (.Call (.Name "tuple" p) [e] [] pos) env (rTz rs) :=
  re_btyP (r1 := fun xs H Q => ∃ p ys, xs = [.ref p] ∧ SqL Γ.K H p ys ∧ ∀ l o, H l = none → o.dict = none → Q (.ref l) (upd H l (.frz o (.tup ys)))) hm (fun X o => by have z := call_tupleZ (X := X); rw [o.K] at z; exact z) (fun B H p vs Q s k1 k2 q =>
    ⟨p, vs, rfl, k1, fun l o hl ho => q _ (upd B l (.frz o (.tup vs))) _ (Grow.new s hl _) ⟨l, o, vs, rfl, upd_same, ho, k2.mono (same_new (s.free hl) _)⟩⟩) ha (by decide +kernel) hg hs
theorem ri_tupZ (ha : RE Γ L E e env (rTz (xs.map f))) : RI Γ L E tg e env xs f := by
  obtain ⟨t, h1, h2⟩ := ha
  refine ⟨iTup Γ.K t, fun X o => by have z := pi_tup (tg := tg) (h1 X o); rw [o.K] at z; exact z, fun H0 B H σ R s q => h2 H0 B H σ _ s fun v B2 H2 g ⟨p, ob, vs, e1, hp, _, ho⟩ => ?_⟩
  have sq : ∀ {H3 : Hp}, H3 p = some (.frz ob (.tup vs)) → SqT Γ.K H3 p vs := fun h => .inl (.inr ⟨ob, h⟩)
  refine ⟨p, e1, ⟨vs, sq (g.i _ _ hp)⟩, q _ B2 H2 g fun i B3 H3 s1 s2 => ⟨fun x hx => ?_, fun hi => ⟨vs, sq (s2 _ _ (s1 _ _ hp)), by rw [ho.length, List.length_map, hi]; exact Nat.le_refl _⟩⟩⟩
  have hl : (xs.map f)[i]? = some (f x) := by rw [List.getElem?_map, hx]; rfl
  obtain ⟨v1, e2, k2⟩ := ho.get hl
  refine ⟨⟨vs, v1, sq (s2 _ _ (s1 _ _ hp)), e2⟩, fun u H' ⟨e3, e4⟩ => ?_⟩
  subst e3
  have e5 := e4 vs (sq (s2 _ _ (s1 _ _ hp)))
  rw [e2] at e5
  cases e5
  exact ⟨B3, Grow.refl s2, (f x).mono s1 k2⟩
/-! ### dict(t) of pairs of ints -/
def rPr (x : Int × Int) : Rp := rT [rI x.1, rI x.2]
abbrev Row := List (Int × Int)
def rRow (x : Row) : Rp := rTz (x.map rPr)
def kvI (x : Row) : List (Key × Rp) := x.map fun q => (Sum.inl q.1, rI q.2)
theorem pairs_at {K : PySem.W.Frag} {B H : Hp} (hs : Same B H) : ∀ {x : Row} {vs : List V}, Oks B (x.map rPr) vs → ∃ ps : List Addr, vs = ps.map V.ref ∧ Paired (fun p (kv : Key × V) => SqT K H p [kV kv.1, kv.2]) ps (x.map fun q => (Sum.inl q.1, V.int q.2))
  | [], [], _ => ⟨[], rfl, .nil⟩
  | q :: x, v :: vs, ⟨⟨p, ws, h1, h2, h3⟩, h4⟩ => by
    obtain ⟨ps, e, hp⟩ := pairs_at (K := K) hs h4
    obtain ⟨u1, u2, rfl, k1, k2⟩ := h3.two
    have k1 : u1 = .int q.1 := k1
    have k2 : u2 = .int q.2 := k2
    subst h1 k1 k2
    exact ⟨p :: ps, by rw [e]; rfl, .cons (SqT.of (hs _ _ h2)) hp⟩
theorem merge_new : ∀ {kvs : List (Key × V)} (acc : List (Key × V)), (kvs.map Prod.fst).Nodup → (∀ k ∈ kvs.map Prod.fst, k ∉ acc.map Prod.fst) → mergeK acc kvs = acc ++ kvs
  | [], acc, _, _ => by simp [mergeK]
  | (k, v) :: r, acc, hn, hd => by
    have hn' : k ∉ r.map Prod.fst ∧ (r.map Prod.fst).Nodup := by simpa using hn
    have hk : valV acc k = none := by
      cases e : valV acc k with
      | none => rfl
      | some u =>
        exfalso
        refine hd k (by simp) ?_
        unfold valV at e
        cases f : acc.find? fun kv => decide (kv.1 = k) with
        | none => rw [f] at e; cases e
        | some q =>
          have h1 := List.find?_some f
          have h2 := List.mem_of_find?_eq_some f
          exact List.mem_map.mpr ⟨q, h2, of_decide_eq_true h1⟩
    show mergeK (putK acc k v) r = acc ++ (k, v) :: r
    have hd2 : ∀ j ∈ r.map Prod.fst, j ∉ (acc ++ [(k, v)]).map Prod.fst := fun j hj z => by
      rw [List.map_append, List.mem_append] at z
      rcases z with z | z
      · exact hd j (by rw [List.map_cons]; exact List.mem_cons_of_mem _ hj) z
      · have : j = k := by simpa using z
        subst this
        exact hn'.1 hj
    rw [putK_new v hk, merge_new (acc ++ [(k, v)]) hn'.2 hd2, List.append_assoc]
    rfl
theorem nodup_map {α β : Type} {f : α → β} (hf : ∀ a b, f a = f b → a = b) {l : List α} (h : l.Nodup) : (l.map f).Nodup := by
  unfold List.Nodup
  rw [List.pairwise_map]
  exact h.imp fun hne e => hne (hf _ _ e)
theorem rfd_dict {x : Row} (hn : (x.map Prod.fst).Nodup) (hm : Γ.mg "dict" = none) (ha : RE Γ L E e env (rRow x)) (hg : gloB L "dict" = true := by decide +kernel) (hs : ∀ en : Env, starEach [e] en = (false, eval e en) :: starEach [] en := by intro _; rfl) : RFd Γ L E (.Call (.Name "dict" p) [e] [] pos) env (kvI x) := by
  obtain ⟨t, h1, h2⟩ := ha
  refine ⟨tCB (fun xs H Q => ∃ (a : Addr) (o : Obj) (ps : List Addr) (kvs : List (Key × V)), xs = [.ref a] ∧ H a = some (.frz o (.tup (ps.map V.ref))) ∧ o.dict = none ∧ Paired (fun p kv => SqT Γ.K H p [kV kv.1, kv.2]) ps kvs ∧
    ∀ p, H p = none → Q (.ref p) (upd H p (.dK (mergeK [] kvs)))) (tCons t tNil), fun X o => by have z := call_dictT (X := X) o.calm; rw [o.K] at z; exact pe_callTy z (o.gl hg) (by rw [o.mg]; exact hm) (by decide +kernel) (pa_cons (h1 X o) pa_nil (hs _)) (by decide) (by decide) (hs _) rfl, fun H0 B H σ Q s q => h2 H0 B H σ _ s fun v B2 H2 g ⟨p, o, vs, e1, hp, hod, ho⟩ => ?_⟩
  obtain ⟨ps, e2, hpr⟩ := pairs_at (K := Γ.K) g.i ho
  subst e1 e2
  refine ⟨p, o, ps, _, rfl, g.i _ _ hp, hod, hpr, fun l hl => ?_⟩
  have ek : ∀ y : Row, (y.map fun q => ((Sum.inl q.1 : Key), V.int q.2)).map Prod.fst = (y.map Prod.fst).map Sum.inl := fun y => by rw [List.map_map, List.map_map]; rfl
  have em : mergeK [] (x.map fun q => (Sum.inl q.1, V.int q.2)) = x.map fun q => (Sum.inl q.1, V.int q.2) := by
    rw [merge_new []]
    · rfl
    · rw [ek]
      exact nodup_map (fun a b h => Sum.inl.inj h) hn
    · intro k _ z
      simp at z
  rw [em]
  refine q l _ B2 _ (g.trans (Grow.stay g.i (same_new hl _))) upd_same (g.i.free hl) (g.h.free hl) ?_ ?_
  · unfold kvI
    rw [List.map_map, List.map_map]
    rfl
  · unfold kvI
    rw [List.map_map, List.map_map]
    exact Oks.of (fun _ => rfl) x
end
end Rl
/-! text RL10 -/
set_option Elab.async false
set_option linter.all false
set_option maxRecDepth 100000
set_option maxHeartbeats 4000000
namespace Rl
open PySem PySem.Spec PyProof.Rows L2
open PySem.W (EachIs dataLe AllAlike Sortable)
section
variable {X : Cx}
theorem dpAll_len {K : PySem.W.Frag} {H : Hp} : ∀ {xs : List V} {ds : List PyData}, DpAll K H xs ds → xs.length = ds.length
  | _, _, .nil => rfl
  | _, _, .cons _ h => by rw [List.length_cons, List.length_cons, dpAll_len h]
theorem zip_snd {α β : Type} : ∀ {xs : List α} {ds : List β}, xs.length = ds.length → (xs.zip ds).map Prod.snd = ds
  | [], [], _ => rfl
  | x :: xs, d :: ds, h => by
    rw [List.zip_cons_cons, List.map_cons, zip_snd (by simpa using h)]
  | [], _ :: _, h => by simp at h
  | _ :: _, [], h => by simp at h
theorem zip_fst {α β : Type} : ∀ {xs : List α} {ds : List β}, xs.length = ds.length → (xs.zip ds).map Prod.fst = xs
  | [], [], _ => rfl
  | x :: xs, d :: ds, h => by
    rw [List.zip_cons_cons, List.map_cons, zip_fst (by simpa using h)]
  | [], _ :: _, h => by simp at h
  | _ :: _, [], h => by simp at h
theorem each_zip : ∀ {xs : List V} {us : List Value} {ds : List PyData}, Vals xs us → xs.length = ds.length → EachIs (fun (u : Value) (b : V × PyData) => RelV b.1 u) us (xs.zip ds)
  | _, _, [], .nil, _ => .nil
  | _, _, _ :: _, .cons r t, h => .cons r (each_zip t (by simpa using h))
  | _, _, _ :: _, .nil, h => by simp at h
  | _, _, [], .cons _ _, h => by simp at h
theorem vals_each : ∀ {us : List Value} {bs : List (V × PyData)}, EachIs (fun (u : Value) (b : V × PyData) => RelV b.1 u) us bs → Vals (bs.map Prod.fst) us
  | _, _, .nil => .nil
  | _, _, .cons r t => .cons r (vals_each t)
/-- sorted(xs), the items data of one kind -/
def rSortD (K : PySem.W.Frag) : List V → Hp → VK → Prop := fun vs H Q => ∃ (a : Addr) (xs : List V) (ds : List PyData), vs = [.ref a] ∧ SqL K H a xs ∧ DpAll K H xs ds ∧ AllAlike ds ∧ Sortable ds ∧ (∀ d ∈ ds, d.depth ≤ 20) ∧
  ∀ p, H p = none → Q (.ref p) (upd H p (.lst (((xs.zip ds).mergeSort (dataLe false Prod.snd)).map Prod.fst)))
theorem cr_sortD (hu : X.A.units + 64 < cLine) : CallR X (.builtin "sorted") (rSortD X.K) := by
  intro pins s σ H vs us Q I r h
  obtain ⟨a, xs, ds, rfl, hs, hd, hal, hk, hdep, q⟩ := h
  obtain rfl := Vals.ref1 r
  obtain ⟨its, rv, pl, hz⟩ := I.list hs
  have l1 := dpAll_len hd
  obtain ⟨as, hr⟩ := Dp.readsAll I ds xs its hd rv
  have er : EachIs (fun v (b : V × PyData) => ∃ as, Reads s.heap v b.2 as) its (xs.zip ds) := PySem.W.readsAll_each (bs := xs.zip ds) Prod.snd (by rw [zip_snd l1]; exact hr)
  refine PySem.W.sorted_data (bs := xs.zip ds) (enc := Prod.snd) pl.isList (each_zip rv l1) er (by rw [zip_snd l1]; exact hal) (by rw [zip_snd l1]; exact hk) ?_ ?_ fun out ho eo => ?_
  · rw [List.length_zip]; omega
  · intro b hb
    have : b.2 ∈ ds := by rw [← zip_snd l1]; exact List.mem_map.mpr ⟨b, hb, rfl⟩
    have := hdep _ this
    omega
  · obtain ⟨e, he⟩ := sortedAll_at s.heap its out.toArray
    have hv := vals_each eo
    have I2 : Inv X pins σ (upd H (s.heap.objs.size + 1) (.lst (((xs.zip ds).mergeSort (dataLe false Prod.snd)).map Prod.fst))) { s with heap := sortedAll s.heap its out.toArray } :=
      I.laid (t' := s.toks) (fun b o q => sortedAll_old q) (Nat.le_succ _) (show ObjOk X.prog X.w _ _ _ (.lst _) from ⟨by rw [List.length_map, List.length_mergeSort, List.length_zip]; omega, out, e, hv, he⟩)
    exact ⟨.ref (s.heap.objs.size + 1), _, I2, rfl, q _ (I.hok.fresh (Nat.le_succ _))⟩
/-! sorted(d.items()), a dict of ints -/
def leP (p q : Int × Int) : Bool := decide (p.1 < q.1 ∨ (p.1 = q.1 ∧ p.2 ≤ q.2))
def encP (p : Int × Int) : PyData := .tuple [.int p.1, .int p.2]
theorem leP_data : dataLe false (fun b : Addr × (Int × Int) => encP b.2) = fun p q => leP p.2 q.2 := PySem.W.dataLe_ii (fun b : Addr × (Int × Int) => b.2.1) (fun b => b.2.2)
def tItems (te : TE) : TE := fun σ H Q => te σ H fun x H1 => ∃ (d : Addr) (ns : List (Int × Int)), x = .ref d ∧ H1 d = some (.dK (ns.map fun q => (Sum.inl q.1, V.int q.2))) ∧ ∀ v, H1 v = none → Q (.ref v) (upd H1 v (.ext fun h => h.IsItemsView v d))
def rSortView : List V → Hp → VK → Prop := fun vs H Q => ∃ (v d : Addr) (ns : List (Int × Int)), vs = [.ref v] ∧ H v = some (.ext fun h => h.IsItemsView v d) ∧ H d = some (.dK (ns.map fun q => (Sum.inl q.1, V.int q.2))) ∧
      ∀ (H' : Hp) (p : Addr) (ts : List Addr), (∀ b o, H b = some o → H' b = some o) → H p = none → (∀ t ∈ ts, H t = none) → p ∉ ts → H' p = some (.lst (ts.map V.ref)) → Paired (fun (t : Addr) (q : Int × Int) => H' t = some (.tup [.int q.1, .int q.2])) ts (ns.mergeSort leP) → Q (.ref p) H'
theorem zip_map2 {α β γ : Type} (f : α → γ) : ∀ (xs : List α) (ys : List β), (xs.zip ys).map (fun b => f b.1) = ((xs.zip ys).map Prod.fst).map f := fun xs ys => by rw [List.map_map]; rfl
theorem paired_map {α β γ : Type} {F : α → γ → Prop} {l : List β} {f : β → α} {g : β → γ} (h : ∀ b ∈ l, F (f b) (g b)) : Paired F (l.map f) (l.map g) := by
  induction l with
  | nil => exact .nil
  | cons b r ih => exact .cons (h b List.mem_cons_self) (ih fun c hc => h c (List.mem_cons_of_mem _ hc))
theorem each_map1 {β : Type} {R : Value → β → Prop} {l : List β} {f : β → Value} (h : ∀ b ∈ l, R (f b) b) : EachIs R (l.map f) l := by
  induction l with
  | nil => exact .nil
  | cons b r ih => exact .cons (h b List.mem_cons_self) (ih fun c hc => h c (List.mem_cons_of_mem _ hc))
theorem each_refs {l : List (Addr × (Int × Int))} : ∀ {us : List Value}, EachIs (fun (u : Value) (b : Addr × (Int × Int)) => u = .ref b.1) us l → us = l.map fun b => Value.ref b.1 := by
  induction l with
  | nil => intro us h; cases h; rfl
  | cons b r ih => intro us h; cases h with | cons e t => rw [e, ih t]; rfl
theorem zip_mem {α β : Type} {xs : List α} {ys : List β} {b : α × β} (h : b ∈ xs.zip ys) : ∃ j : Nat, xs[j]? = some b.1 ∧ ys[j]? = some b.2 := by
  obtain ⟨j, hj⟩ := List.mem_iff_getElem?.mp h
  rw [List.getElem?_zip_eq_some] at hj
  exact ⟨j, hj⟩
theorem in1_units {A : Around} : A.in1.units = A.units + 1 := rfl
theorem cr_sortView (hu : X.A.units + 64 < cLine) (hc : X.calm = true) : CallR X (.builtin "sorted") rSortView := by
  intro pins s σ H vs us Q I r h
  obtain ⟨v, d, ns, rfl, hv, hd, q⟩ := h
  obtain rfl := Vals.ref1 r
  have view : s.heap.IsItemsView v d := (I.hok v _ hv).1
  obtain ⟨hz, hs0, vs', kv, hdo⟩ := I.hok d _ hd
  obtain ⟨es, ep, raw, hsz, hent⟩ := hdo.raw
  have lk : ns.length = vs'.length := by
    have := Paired.length kv
    rwa [List.length_map] at this
  rw [List.length_map] at hz
  refine DT.sortedI (es := es) (ep := ep) (I.ok.hd hc) view raw (by omega) fun h' tk as hk hlt hl hG => ?_
  have las : as.length = ns.length := by omega
  have nd : as.Nodup := List.Pairwise.imp (fun {a b} (h : a < b) => Nat.ne_of_lt h) hG.rise
  -- the pairs that were made
  have pr : ∀ b ∈ as.zip ns, ∃ (k x : Value), h'.get? b.1 = some { cls := .type "tuple", data := .seq #[k, x] } ∧ RelV (.int b.2.1) k ∧ RelV (.int b.2.2) x := fun b hb => by
    obtain ⟨j, e1, e2⟩ := zip_mem hb
    obtain ⟨en, e3, e4⟩ := hG.pairs j b.1 e1
    obtain ⟨hj, e3'⟩ := Array.getElem?_eq_some_iff.mp e3
    have e5 : (ns.map fun q => ((Sum.inl q.1 : Key), V.int q.2))[j]? = some (Sum.inl b.2.1, V.int b.2.2) := by rw [List.getElem?_map, e2]; rfl
    obtain ⟨⟨k0, x0⟩, g1, g2, g3⟩ := LiI.paired_get kv e5
    obtain ⟨k1, k2⟩ := hent j hj k0 x0 g1
    rw [e3'] at k1 k2
    have g2 : Sum.inl b.2.1 = k0 := g2
    have g3 : RelV (.int b.2.2) x0 := g3
    refine ⟨en.key, en.val, e4, ?_, by rw [k2]; exact g3⟩
    rw [← g2] at k1
    exact relV_key (k := Sum.inl b.2.1) k1
  generalize hB : h'.objs.size = B
  have hBn : B ∉ as := fun z => absurd (hB ▸ hG.there z) (Nat.lt_irrefl _)
  have ho : (h'.push { cls := .type "list", data := .seq (as.map Value.ref).toArray }).get? B = some (seqObj "list" (as.map Value.ref).toArray 0) := by
    rw [← hB]
    exact Heap.get?_push_size _ rfl
  have eas : as.map Value.ref = (as.zip ns).map fun b => Value.ref b.1 := by
    rw [zip_map2 Value.ref, zip_fst las]
  refine PySem.W.list_sort_data (s := { s with heap := h'.push { cls := .type "list", data := .seq (as.map Value.ref).toArray }, toks := tk }) (a := B) (n := 0) (bs := as.zip ns) (enc := fun b => encP b.2) (R := fun (u : Value) (b : Addr × (Int × Int)) => u = .ref b.1) ho ?_ ?_ (.of fun b b' => rfl) (.tuples fun b => ⟨_, _, rfl⟩) ?_ ?_ fun out hol eo => ?_
  · rw [eas]; exact each_map1 fun b _ => rfl
  · rw [eas]
    refine each_map1 fun b hb => ?_
    obtain ⟨k, x, e1, ⟨t1, rfl⟩, ⟨t2, rfl⟩⟩ := pr b hb
    exact ⟨_, Reads.tuple (Heap.get?_push_of_some _ e1) rfl rfl (.cons (.int _ _) (.cons (.int _ _) .nil)), by simp⟩
  · rw [List.length_zip]; omega
  · intro b _
    have : (encP b.2).depth ≤ 2 := Nat.le_of_ble_eq_true rfl
    rw [in1_units]
    omega
  have eout := each_refs eo
  rw [leP_data] at eout
  generalize hms : (as.zip ns).mergeSort (fun p q => leP p.2 q.2) = ms at eout
  have perm : ms.Perm (as.zip ns) := by rw [← hms]; exact List.mergeSort_perm _ _
  have esnd : ms.map Prod.snd = ns.mergeSort leP := by
    rw [← hms, PySem.W.sort_maps (s := leP) Prod.snd (fun _ _ _ _ => rfl), zip_snd las]
  have pts : (ms.map Prod.fst).Perm as := by
    have := perm.map Prod.fst
    rwa [zip_fst las] at this
  have hT : ∀ t, t ∈ ms.map Prod.fst ↔ t ∈ as := fun t => pts.mem_iff
  have ndt : (ms.map Prod.fst).Nodup := pts.nodup_iff.mpr nd
  obtain ⟨e3, he3⟩ := sortedHeap_at (out := out.toArray) ho
  generalize hh3 : sortedHeap (h'.push { cls := .type "list", data := .seq (as.map Value.ref).toArray }) B (as.map Value.ref) out.toArray = h3 at he3
  have old : ∀ b o, h'.get? b = some o → h3.get? b = some o := fun b o e => by
    rw [← hh3, sortedHeap_old (Nat.ne_of_lt (by rw [← hB]; exact Heap.lt_size e)) (by rw [Heap.size_push]; exact Nat.lt_succ_of_lt (Heap.lt_size e))]
    exact Heap.get?_push_of_some _ e
  have hk3 : ∀ b o, s.heap.get? b = some o → h3.get? b = some o := fun b o e => old b o (hk b o e)
  have lB : s.heap.objs.size < B := by rw [← hB]; exact hlt
  have newT : ∀ t ∈ ms.map Prod.fst, H t = none := fun t ht => I.hok.fresh (Nat.le_of_lt (hG.above t ((hT t).mp ht)))
  have newB : H B = none := I.hok.fresh (Nat.le_of_lt lB)
  have hBt : B ∉ ms.map Prod.fst := fun z => hBn ((hT B).mp z)
  generalize hkv : ms.map (fun b => ((Sum.inl b.2.1 : Key), V.int b.2.2)) = kvs
  have lkv : (ms.map Prod.fst).length = kvs.length := by rw [← hkv, List.length_map, List.length_map]
  have atP := LiI.putT_at (ms.map Prod.fst) kvs (upd H B (.lst ((ms.map Prod.fst).map V.ref))) lkv ndt
  have off : ∀ b, b ∉ ms.map Prod.fst → b ≠ B → LiI.putT (upd H B (.lst ((ms.map Prod.fst).map V.ref))) (ms.map Prod.fst) kvs b = H b := fun b h1 h2 => by rw [LiI.putT_off _ kvs _ h1, upd_ne h2]
  have low : ∀ b o, s.heap.get? b = some o → b ∉ ms.map Prod.fst ∧ b ≠ B := fun b o e => ⟨fun z => absurd (Heap.lt_size e) (Nat.not_lt.mpr (Nat.le_of_lt (hG.above b ((hT b).mp z)))), Nat.ne_of_lt (Nat.lt_trans (Heap.lt_size e) lB)⟩
  have kp : ∀ b u, H b = some u → (LiI.putT (upd H B (.lst ((ms.map Prod.fst).map V.ref))) (ms.map Prod.fst) kvs) b = some u := fun b u e => by
    rw [off b (fun z => by rw [newT b z] at e; cases e) (fun z => by rw [z, newB] at e; cases e)]
    exact e
  have eS : LiI.putT (upd H B (.lst ((ms.map Prod.fst).map V.ref))) (ms.map Prod.fst) kvs B = some (.lst ((ms.map Prod.fst).map V.ref)) := by rw [LiI.putT_off _ kvs _ hBt, upd_same]
  have J : Inv X pins σ (LiI.putT (upd H B (.lst ((ms.map Prod.fst).map V.ref))) (ms.map Prod.fst) kvs) { s with heap := h3, toks := tk } := by
    refine I.call' (ch := []) rfl ⟨fun b o q _ _ _ => hk3 b o q, fun b o q _ _ _ => ⟨o.slots, hk3 b o q⟩, fun b o q n _ => ?_, fun b o q _ => ⟨o, hk3 b o q⟩, fun b xs q => kp b _ q, fun b o u q => kp b _ q, fun b ps q => ⟨#[], by rw [kp b _ q]; simp⟩⟩ (fun b u q => ?_) I.bare fun b z => by simp at z
    · obtain ⟨z1, z2⟩ := low b o q
      rw [off b z1 z2]
      exact n
    · by_cases hb : b ∈ ms.map Prod.fst
      · obtain ⟨j, pk, f1, f2, f3⟩ := LiI.paired_ix atP hb
        rw [f3] at q
        cases q
        rw [← hkv, List.getElem?_map] at f2
        cases hmj : ms[j]? with
        | none => rw [hmj] at f2; cases f2
        | some mb =>
          rw [hmj] at f2
          have f2 : (Sum.inl mb.2.1, V.int mb.2.2) = pk := Option.some.inj f2
          rw [List.getElem?_map, hmj] at f1
          have f1 : mb.1 = b := Option.some.inj f1
          subst f1 f2
          obtain ⟨k, x, e1, rk, rx⟩ := pr mb (perm.mem_iff.mp (List.mem_of_getElem? hmj))
          exact ⟨by show 2 ≤ sizeLine; decide, [k, x], .cons rk (.cons rx .nil), ⟨_, old _ _ e1, rfl, _, rfl⟩⟩
      · by_cases hb2 : b = B
        · subst hb2
          rw [eS] at q
          cases q
          refine ⟨by rw [List.length_map, List.length_map, perm.length_eq, List.length_zip]; omega, out, e3, ?_, he3⟩
          rw [eout, List.map_map]
          have : ∀ l : List (Addr × (Int × Int)), Vals (l.map (V.ref ∘ Prod.fst)) (l.map fun b => Value.ref b.1) := fun l => by
            induction l with
            | nil => exact .nil
            | cons b r ih => exact .cons rfl ih
          exact this ms
        · rw [off b hb hb2] at q
          exact (I.hok b u q).stay (fun d v _ y => hk3 d v y) (fun d y => kp d _ y) fun d xs y => kp d _ y
  refine ⟨.ref B, _, J, rfl, q _ B (ms.map Prod.fst) kp newB newT hBt eS ?_⟩
  have e1 : ns.mergeSort leP = ms.map Prod.snd := esnd.symm
  rw [e1]
  refine paired_map fun b hb => ?_
  obtain ⟨j, hj⟩ := List.mem_iff_getElem?.mp hb
  have f1 : (ms.map Prod.fst)[j]? = some b.1 := by rw [List.getElem?_map, hj]; rfl
  obtain ⟨y, f2, f3⟩ := LiI.paired_get atP f1
  rw [← hkv, List.getElem?_map, hj] at f2
  have f2 : (Sum.inl b.2.1, V.int b.2.2) = y := Option.some.inj f2
  subst f2
  exact f3
theorem pe_sortItems {e : Expr} {te : TE} {p apos cpos pos : Pos} (hu : X.A.units + 64 < cLine) (hc : X.calm = true) (he : PE X e te) (hg : Gl X "sorted") (hm : X.mg "sorted" = none) (hv : bootBuiltins "sorted" = some (.builtin "sorted")) (hbase : attributeBase e "items" X.env (eval e X.env) = eval e X.env := by rfl) (hline : (apos.endLine == cpos.line) = true := by rfl)
    (hs : starEach [.Call (.Attribute e "items" apos) [] [] cpos] X.env = (false, eval (.Call (.Attribute e "items" apos) [] [] cpos) X.env) :: starEach [] X.env := by rfl) :
    PE X (.Call (.Name "sorted" p) [.Call (.Attribute e "items" apos) [] [] cpos] [] pos) (tCB rSortView (tCons (tItems te) tNil)) := by
  have hi : PE X (.Call (.Attribute e "items" apos) [] [] cpos) (tItems te) := by
    refine ⟨fun pins s σ H Q I hq => ?_⟩
    refine wpAny_Call_method (T := "dict") (id := "dict.items") hbase rfl hline F.plainAttrs_dict F.slot_dict_items F.type_dict_items (thn (he.run pins s σ H _ I hq) fun u s1 ⟨x, H1, I1, rx, d, ns, ex, hd, q⟩ => ?_)
    subst ex
    obtain rfl : u = Value.ref d := rx
    obtain ⟨hz, hs0, vs, kv, hdo⟩ := I1.hok d _ hd
    refine ⟨hdo.typeIs, hdo.mapOf.noDict, ?_⟩
    show wpAny _ _ (callWith cpos (.builtin "dict.items") [.ref d] [] []) _ X.xe s1
    refine method_meetsIn F.slot_dict_items F.entry_dict_items rfl (PySem.evalArgs_none ⟨rfl, hdo.typeIs, F.args_dict_items_1 _, _, meets_dict_items (mixKind X.prog X.w) d hs0, ⟨vs, hdo⟩, ?_⟩)
    have hf : H1 s1.heap.objs.size = none := I1.hok.fresh (Nat.le_refl _)
    have hview : (s1.heap.push { cls := .type "dict_items", data := .fields #[.ref d] }).IsItemsView s1.heap.objs.size d := ⟨_, Heap.get?_push_size _ rfl, rfl, rfl⟩
    have I2 : Inv X pins σ (upd H1 s1.heap.objs.size (.ext fun h => h.IsItemsView s1.heap.objs.size d)) { s1 with heap := s1.heap.push { cls := .type "dict_items", data := .fields #[.ref d] } } := by
      refine I1.laid (t' := s1.toks) (fun b o e => Heap.get?_push_of_some _ e) (Nat.le_refl _) ?_
      refine ⟨hview, ⟨_, Heap.get?_push_size _ rfl⟩, fun h1 h2 ⟨o, ho, r⟩ k => ⟨o, k o ho, r⟩⟩
    exact ⟨.ref s1.heap.objs.size, _, I2, rfl, q _ hf⟩
  exact pe_callB (cr_sortView hu hc) hg hm hv (pa_cons hi pa_nil hs) (by decide) (by decide) hs rfl
end
end Rl
/-! text RL11 -/
set_option Elab.async false
set_option linter.all false
set_option maxRecDepth 100000
set_option maxHeartbeats 4000000
namespace Rl
open PySem PySem.Spec PyProof.Rows L2
open PySem.W (EachIs dataLe AllAlike Sortable)
section
variable {Γ : Cg} {L : Lc} {E : Wc} {env : List Sl} {e a b c tg iter : Expr} {es : List Expr} {pos p : Pos} {r ra rb : Rp} {rs : List Rp} {α : Type} {xs : List α} {f : α → Rp}
/-! ### what is read as a datum -/
def RDt (K : PySem.W.Frag) (r : Rp) (d : PyData) : Prop := ∀ H v, r.ok H v → Dp K H v d
theorem rdt_int {K i} : RDt K (rI i) (.int i) := fun H v h => by
  have h : v = .int i := h
  subst h
  exact .int i
theorem rdt_str {K s} : RDt K (rS s) (.str s) := fun H v h => by
  have h : v = .str s := h
  subst h
  exact .str s
theorem rdt_bl {K s} : RDt K (rB s) (.bool s) := fun H v h => by
  have h : v = .bl s := h
  subst h
  exact .bl s
theorem dps {K : PySem.W.Frag} {H : Hp} {f : α → Rp} {g : α → PyData} (hd : ∀ x, RDt K (f x) (g x)) : ∀ {xs : List α} {vs : List V}, Oks H (xs.map f) vs → DpAll K H vs (xs.map g)
  | [], [], _ => .nil
  | x :: xs, v :: vs, h => .cons (hd x H v h.1) (dps hd h.2)
theorem rdt_L {K} {f : α → Rp} {g : α → PyData} (hd : ∀ x, RDt K (f x) (g x)) : RDt K (rL (xs.map f)) (.list (xs.map g)) := fun H v ⟨p, vs, e, h1, h2⟩ => by
  subst e
  exact .lst (SqL.of h1) (dps hd h2)
theorem rdt_T {K} {f : α → Rp} {g : α → PyData} (hd : ∀ x, RDt K (f x) (g x)) : RDt K (rT (xs.map f)) (.tuple (xs.map g)) := fun H v ⟨p, vs, e, h1, h2⟩ => by
  subst e
  exact .tup (SqT.of h1) (dps hd h2)
theorem rdt_Tz {K} {f : α → Rp} {g : α → PyData} (hd : ∀ x, RDt K (f x) (g x)) : RDt K (rTz (xs.map f)) (.tuple (xs.map g)) := fun H v ⟨p, o, vs, e, h1, _, h2⟩ => by
  subst e
  exact .tup (.inl (.inr ⟨o, h1⟩)) (dps hd h2)
theorem rdt_pr {K} {x : Int × Int} : RDt K (rPr x) (encP x) := fun H v ⟨p, vs, e, h1, h2⟩ => by
  obtain ⟨u, w, rfl, k1, k2⟩ := h2.two
  subst e
  exact .tup (SqT.of h1) (.cons (rdt_int H u k1) (.cons (rdt_int H w k2) .nil))
def encR (x : Row) : PyData := .tuple (x.map encP)
theorem rdt_row {K} {x : Row} : RDt K (rRow x) (encR x) := rdt_Tz fun _ => rdt_pr
/-- a tuple of three -/
theorem rdt_T3 {K} {r1 r2 r3 : Rp} {d1 d2 d3 : PyData} (h1 : RDt K r1 d1) (h2 : RDt K r2 d2) (h3 : RDt K r3 d3) : RDt K (rT [r1, r2, r3]) (.tuple [d1, d2, d3]) := fun H v ⟨p, vs, e, hp, ho⟩ => by
  obtain ⟨v1, vs, rfl, k1, ho⟩ := ho.cons
  obtain ⟨v2, v3, rfl, k2, k3⟩ := ho.two
  subst e
  exact .tup (SqT.of hp) (.cons (h1 _ _ k1) (.cons (h2 _ _ k2) (.cons (h3 _ _ k3) .nil)))
/-! ### == and != of data -/
theorem rt_eqD {da db : PyData} (ha : RE Γ L E a env ra) (hb : RE Γ L E b env rb) (h1 : RDt Γ.K ra da) (h2 : RDt Γ.K rb db) (s1 : SeqAt.shaped da = true) (s2 : SeqAt.shaped db = true) (hm : behindInMarks .Eq b = false := by rfl) :
    RT Γ L E (.Compare a [.Eq] [b] pos) env (PyData.eqv da db) :=
  rt_cmp (r2 := rEqD Γ.K) (fun X o => by have z := op_eqD (X := X) o.u64; rw [o.K] at z; exact z) hm (fun B H x y Q s k1 k2 q => ⟨da, db, h1 _ _ (ra.mono s k1), h2 _ _ (rb.mono s k2), s1, s2, q _ B H (Grow.refl s) rfl⟩) ha hb
theorem rt_neD {da db : PyData} (ha : RE Γ L E a env ra) (hb : RE Γ L E b env rb) (h1 : RDt Γ.K ra da) (h2 : RDt Γ.K rb db) (s1 : SeqAt.shaped da = true) (s2 : SeqAt.shaped db = true) (hm : behindInMarks .NotEq b = false := by rfl) :
    RT Γ L E (.Compare a [.NotEq] [b] pos) env (!PyData.eqv da db) :=
  rt_cmp (r2 := rNeD Γ.K) (fun X o => by have z := op_neD (X := X) o.u64; rw [o.K] at z; exact z) hm (fun B H x y Q s k1 k2 q => ⟨da, db, h1 _ _ (ra.mono s k1), h2 _ _ (rb.mono s k2), s1, s2, q _ B H (Grow.refl s) rfl⟩) ha hb
theorem re_eqD {da db : PyData} (ha : RE Γ L E a env ra) (hb : RE Γ L E b env rb) (h1 : RDt Γ.K ra da) (h2 : RDt Γ.K rb db) (s1 : SeqAt.shaped da = true) (s2 : SeqAt.shaped db = true) (hm : behindInMarks .Eq b = false := by rfl) :
    RE Γ L E (.Compare a [.Eq] [b] pos) env (rB (PyData.eqv da db)) :=
  re_cmp (r2 := rEqD Γ.K) (fun X o => by have z := op_eqD (X := X) o.u64; rw [o.K] at z; exact z) hm (fun B H x y Q s k1 k2 q => ⟨da, db, h1 _ _ (ra.mono s k1), h2 _ _ (rb.mono s k2), s1, s2, q _ B H (Grow.refl s) rfl⟩) ha hb
/-! ### xs.index(y), y a text -/
def idxS (ss : List Str) (s : Str) : Nat := ss.findIdx (fun x => x == s)
theorem eqv_str (x y : Str) : PyData.eqv (.str x) (.str y) = (x == y) := by simp only [PyData.eqv]
theorem idxS_at {ss : List Str} {s : Str} (h : s ∈ ss) : ss[idxS ss s]? = some s := by
  unfold idxS
  have hl : ss.findIdx (fun x => x == s) < ss.length := List.findIdx_lt_length_of_exists ⟨s, h, by simp⟩
  rw [List.getElem?_eq_getElem hl]
  have := List.findIdx_getElem (w := hl)
  simp only [beq_iff_eq] at this
  rw [this]
theorem re_indexS {ss : List Str} {s : Str} {apos cpos : Pos} (h : s ∈ ss) (ha : RPl Γ L E a env (ss.map rS)) (hb : RE Γ L E b env (rS s)) (hs : ∀ en : Env, starEach [b] en = (false, eval b en) :: starEach [] en := by intro _; rfl) (hbase : ∀ en : Env, attributeBase a "index" en (eval a en) = eval a en := by intro _; rfl) (hline : (apos.endLine == cpos.line) = true := by rfl) 
    (hfew : ∀ en : Env, ((backTo cpos (starEach [b] en)).all (fun x => !x.1) && (backToKw cpos (keywordEach [] en)).all (fun x => x.1.isSome)
      && decide (([b] : List Expr).length + ([] : List Keyword).length + (if ([] : List Keyword).isEmpty then 0 else 1) < 30)) = true := by intro _; rfl) :
    RE Γ L E (.Call (.Attribute a "index" apos) [b] [] cpos) env (rI (idxS ss s : Nat)) := by
  obtain ⟨ta, a1, a2⟩ := ha
  obtain ⟨tb, b1, b2⟩ := hb
  refine ⟨tBM Γ.K "list" (rIndex Γ.K) ta (tCons tb tNil), fun X o => by
    have z := pe_bm (X := X) (cpos := cpos) (apos := apos) PySem.F.plainAttrs_list PySem.F.slot_list_index PySem.F.type_list_index mt_index (a1 X o) (pa_cons (b1 X o) pa_nil (hs _)) (hbase _) (hfew _) hline (hs _) rfl
    rw [o.K] at z
    exact z, fun H0 B H σ Q s1 q => a2 H0 B H σ _ s1 fun p vs B2 H2 g k1 k2 => ?_⟩
  have ev : vs = ss.map V.str := Oks.eqs (fun _ _ q => q) k2
  subst ev
  refine ⟨.inl ⟨rfl, _, k1⟩, b2 H0 B2 H2 σ _ (s1.grow g) fun w B3 H3 g2 hw => ?_⟩
  have hw : w = .str s := hw
  subst hw
  refine ⟨p, ss.map V.str, .str s, idxS ss s, .str s, rfl, rfl, g2.h.seq k1, rfl, flat_strs ss, by rw [List.getElem?_map, idxS_at h]; rfl, by simp [eqV], fun m z' hm hz => ?_, q _ B3 H3 (g.trans g2) rfl⟩
  rw [List.getElem?_map] at hz
  cases e : ss[m]? with
  | none => rw [e] at hz; cases hz
  | some y =>
    rw [e] at hz
    cases hz
    obtain ⟨hl, e2⟩ := List.getElem?_eq_some_iff.mp e
    have := List.not_of_lt_findIdx hm
    simp only [e2] at this
    simpa [eqV] using this
end
/-! ### sorted -/
section
variable {Γ : Cg} {L : Lc} {E : Wc} {env : List Sl} {e a b c tg iter : Expr} {es : List Expr} {pos p : Pos} {r ra rb : Rp} {rs : List Rp}
theorem rf_sortItems {ns : Row} {apos cpos : Pos} (hm : Γ.mg "sorted" = none) (hd : RPd Γ L E e env (kvI ns)) (hg : gloB L "sorted" = true := by decide +kernel) (hbase : ∀ en : Env, attributeBase e "items" en (eval e en) = eval e en := by intro _; rfl) (hline : (apos.endLine == cpos.line) = true := by rfl)
    (hs : ∀ en : Env, starEach [.Call (.Attribute e "items" apos) [] [] cpos] en = (false, eval (.Call (.Attribute e "items" apos) [] [] cpos) en) :: starEach [] en := by intro _; rfl) :
    RF Γ L E (.Call (.Name "sorted" p) [.Call (.Attribute e "items" apos) [] [] cpos] [] pos) env ((ns.mergeSort leP).map rPr) := by
  obtain ⟨t, h1, h2⟩ := hd
  refine ⟨_, fun X o => pe_sortItems o.u64 o.calm (h1 X o) (o.gl hg) (by rw [o.mg]; exact hm) (by decide +kernel) (hbase _) hline (hs _), fun H0 B H σ Q s q => h2 H0 B H σ _ s fun d ws B2 H2 g k1 k2 k3 => ?_⟩
  have ew : ws = ns.map fun q => ((Sum.inl q.1 : Key), V.int q.2) := by
    unfold kvI at k2 k3
    rw [List.map_map] at k2 k3
    have e2 : ws.map Prod.snd = ns.map fun q => V.int q.2 := Oks.eqs (fun _ _ q => q) k3
    have key : ∀ (ws : List (Key × V)) (ns : Row), ws.map Prod.fst = ns.map (Prod.fst ∘ fun q => ((Sum.inl q.1 : Key), rI q.2)) → ws.map Prod.snd = ns.map (fun q => V.int q.2) → ws = ns.map fun q => ((Sum.inl q.1 : Key), V.int q.2) := by
      intro ws
      induction ws with
      | nil =>
        intro ns e1 _
        cases ns with
        | nil => rfl
        | cons _ _ => simp at e1
      | cons w ws ih =>
        intro ns e1 e2
        cases ns with
        | nil => simp at e1
        | cons n ns =>
          rw [List.map_cons, List.map_cons] at e1 e2
          obtain ⟨f1, f2⟩ := List.cons.inj e1
          obtain ⟨f3, f4⟩ := List.cons.inj e2
          rw [List.map_cons, ← ih ns f2 f4]
          congr 1
          cases w
          simp only [Function.comp] at f1 f3
          rw [f1, f3]
    exact key ws ns k2 e2
  subst ew
  refine ⟨d, ns, rfl, k1, fun v hv => ⟨v, d, ns, rfl, upd_same, by rw [upd_ne (ne_of_none k1 hv)]; exact k1, fun H' p ts kp hp hts hpt hP hT => ?_⟩⟩
  have up : ∀ {x : Addr}, upd H2 v (.ext fun h => h.IsItemsView v d) x = none → H2 x = none := fun hx => (upd_none hx).2
  have k4 : Same H2 H' := (same_new hv _).trans kp
  let B3 : Hp := fun x => if x ∈ ts then H' x else B2 x
  have in3 : ∀ {x : Addr}, x ∈ ts → B3 x = H' x := fun h => if_pos h
  have out3 : ∀ {x : Addr}, x ∉ ts → B3 x = B2 x := fun h => if_neg h
  have b3 : Same B2 B3 := fun x u e => by
    by_cases z : x ∈ ts
    · have := up (hts x z)
      rw [g.i _ _ e] at this
      cases this
    · rw [out3 z]; exact e
  have g3 : Grow B2 H2 B3 H' := ⟨b3, fun x u e => by
    by_cases z : x ∈ ts
    · rw [in3 z] at e; exact e
    · rw [out3 z] at e; exact k4 _ _ (g.i _ _ e), k4, fun x e => by
    by_cases z : x ∈ ts
    · exact .inr (up (hts x z))
    · rw [out3 z] at e; exact .inl e⟩
  refine q p (ts.map V.ref) B3 H' (g.trans g3) hP (by rw [out3 hpt]; exact g.i.free (up hp)) (g.h.free (up hp)) ?_
  have key : ∀ {ts' : List Addr} {ms : Row}, (∀ t ∈ ts', t ∈ ts) → Paired (fun (t : Addr) (q : Int × Int) => H' t = some (.tup [.int q.1, .int q.2])) ts' ms → Oks B3 (ms.map rPr) (ts'.map V.ref) := by
    intro ts' ms hh hp
    induction hp with
    | nil => trivial
    | cons h1 _ ih => exact ⟨⟨_, [.int _, .int _], rfl, by rw [in3 (hh _ List.mem_cons_self)]; exact h1, ⟨rfl, rfl, trivial⟩⟩, ih fun t ht => hh t (List.mem_cons_of_mem _ ht)⟩
  exact key (fun _ h => h) hT
/-- sorted(rows) -/
def leR : Row → Row → Bool := dataLe false encR
theorem encR_alike (x y : Row) : PySem.W.alike (encR x) (encR y) = true := by
  have : ∀ x y : Row, PySem.W.alikeAll (x.map encP) (y.map encP) = true := by
    intro x
    induction x with
    | nil => intro y; simp [PySem.W.alikeAll]
    | cons p x ih =>
      intro y
      cases y with
      | nil => simp [PySem.W.alikeAll]
      | cons q y => simp [PySem.W.alikeAll, PySem.W.alike, encP, ih y]
  simp only [encR, PySem.W.alike]
  exact this x y
theorem rf_sortRows {rows : List Row} (hne : ∀ x ∈ rows, x ≠ []) (hm : Γ.mg "sorted" = none) (ha : RPl Γ L E e env (rows.map rRow)) (hg : gloB L "sorted" = true := by decide +kernel) (hs : ∀ en : Env, starEach [e] en = (false, eval e en) :: starEach [] en := by intro _; rfl) :
    RF Γ L E (.Call (.Name "sorted" p) [e] [] pos) env ((rows.mergeSort leR).map rRow) := by
  obtain ⟨t, h1, h2⟩ := ha
  refine ⟨tCB (rSortD Γ.K) (tCons t tNil), fun X o => by have z := pe_callB (X := X) (pos := pos) (p := p) (cr_sortD o.u64) (o.gl hg) (by rw [o.mg]; exact hm) (by decide +kernel) (pa_cons (h1 X o) pa_nil (hs _)) (by decide) (by decide) (hs _) rfl; rw [o.K] at z; exact z, fun H0 B H σ Q s q => h2 H0 B H σ _ s fun p vs B2 H2 g k1 k2 => ?_⟩
  have hd : DpAll Γ.K H2 vs (rows.map encR) := dps (fun _ => rdt_row) (k2.mono g.i)
  refine ⟨p, vs, rows.map encR, rfl, k1, hd, .of encR_alike, .inl fun d hd => ?_, fun d hd => ?_, fun l hl => ?_⟩
  · obtain ⟨x, hx, rfl⟩ := List.mem_map.mp hd
    cases x with
    | nil => exact absurd rfl (hne [] hx)
    | cons q r => exact ⟨_, _, rfl⟩
  · obtain ⟨x, hx, rfl⟩ := List.mem_map.mp hd
    have : PyData.depthAll (x.map encP) ≤ 2 := by
      clear hx hd
      induction x with
      | nil => exact Nat.zero_le _
      | cons q r ih => 
        rw [List.map_cons, PyData.depthAll]
        exact Nat.max_le.mpr ⟨Nat.le_of_ble_eq_true rfl, ih⟩
    show (PyData.tuple (x.map encP)).depth ≤ 20
    rw [PyData.depth]
    omega
  · have hz : vs.zip (rows.map encR) = (vs.zip rows).map fun q => (q.1, encR q.2) := by
      rw [List.zip_map_right]
      rfl
    have e1 : ((vs.zip (rows.map encR)).mergeSort (dataLe false Prod.snd)).map Prod.fst = ((vs.zip rows).mergeSort fun p q => leR p.2 q.2).map Prod.fst := by
      rw [hz, ← PySem.W.sort_maps (s := dataLe false Prod.snd) (r := fun p q => leR p.2 q.2) (fun q : V × Row => (q.1, encR q.2)) (fun _ _ _ _ => rfl), List.map_map]
      rfl
    rw [e1]
    refine q l _ B2 _ (g.trans (Grow.stay g.i (same_new hl _))) upd_same (g.i.free hl) (g.h.free hl) ?_
    have lvs : vs.length = rows.length := by rw [k2.length, List.length_map]
    have perm := List.mergeSort_perm (vs.zip rows) fun p q => leR p.2 q.2
    have e2 : rows.mergeSort leR = ((vs.zip rows).mergeSort fun p q => leR p.2 q.2).map Prod.snd := by
      rw [PySem.W.sort_maps (s := leR) Prod.snd (fun _ _ _ _ => rfl), zip_snd lvs]
    rw [e2]
    have hall : ∀ q ∈ vs.zip rows, (rRow q.2).ok B2 q.1 := fun q hq => by
      obtain ⟨j, e3, e4⟩ := zip_mem hq
      have := k2.getV e3
      obtain ⟨r, e5, e6⟩ := this
      rw [List.getElem?_map, e4] at e5
      cases e5
      exact e6
    generalize hms : ((vs.zip rows).mergeSort fun p q => leR p.2 q.2) = ms at perm
    have hall2 : ∀ q ∈ ms, (rRow q.2).ok B2 q.1 := fun q hq => hall q (perm.mem_iff.mp hq)
    clear perm hms e2 e1 hz hall
    induction ms with
    | nil => trivial
    | cons m ms ih => exact ⟨hall2 m List.mem_cons_self, ih fun q hq => hall2 q (List.mem_cons_of_mem _ hq)⟩
end
end Rl
/-! text RL12 -/
set_option Elab.async false
set_option linter.all false
set_option maxRecDepth 100000
set_option maxHeartbeats 4000000
namespace Rl
open PySem PySem.Spec PyProof.Rows L2
section
variable {Γ : Cg} {L : Lc} {E : Wc} {env : List Sl} {tg iter : Expr} {body : List Stmt} {α β : Type} {xs : List α} {f : α → Rp}
/-! ### loops as folds -/
/-- one turn: on to the next, or the def's end -/
inductive Stp (β : Type) where
  | on (b : β)
  | out (r : Rp)
  | er (k : XC)
def Stp.run {α β : Type} (step : β → α → Stp β) : List α → β → Stp β
  | [], b => .on b
  | x :: xs, b => match step b x with
    | .on b' => Stp.run step xs b'
    | .out r => .out r
    | .er k => .er k
def Stp.o {β : Type} (S : β → List Sl) : Stp β → Out
  | .on b => .nx (S b)
  | .out r => .ret r
  | .er k => .err k
def TurnR (Γ : Cg) (L : Lc) (E : Wc) (tg : Expr) (body : List Stmt) (S : β → List Sl) (e : List Sl) (r : Rp) : Stp β → Prop
  | .on b => ∃ js e1 e2, RG Γ L E tg js e r e1 ∧ (RS Γ L E body e1 (.nx e2) ∨ RS Γ L E body e1 (.ct e2)) ∧ EnvLe e2 (S b)
  | .out q => ∃ js e1, RG Γ L E tg js e r e1 ∧ RS Γ L E body e1 (.ret q)
  | .er k => ∃ js e1, RG Γ L E tg js e r e1 ∧ RS Γ L E body e1 (.err k)
theorem TurnR.nx {S : β → List Sl} {e e1 e2 : List Sl} {r : Rp} {b : β} {js : List Nat} (hg : RG Γ L E tg js e r e1) (h : RS Γ L E body e1 (.nx e2)) (l : envLeB e2 (S b)) : TurnR Γ L E tg body S e r (.on b) := ⟨js, e1, e2, hg, .inl h, EnvLe.of l⟩
theorem TurnR.ct {S : β → List Sl} {e e1 e2 : List Sl} {r : Rp} {b : β} {js : List Nat} (hg : RG Γ L E tg js e r e1) (h : RS Γ L E body e1 (.ct e2)) (l : envLeB e2 (S b)) : TurnR Γ L E tg body S e r (.on b) := ⟨js, e1, e2, hg, .inr h, EnvLe.of l⟩
theorem TurnR.ret {S : β → List Sl} {e e1 : List Sl} {r q : Rp} {js : List Nat} (hg : RG Γ L E tg js e r e1) (h : RS Γ L E body e1 (.ret q)) : TurnR (β := β) Γ L E tg body S e r (.out q) := ⟨js, e1, hg, h⟩
theorem TurnR.err {S : β → List Sl} {e e1 : List Sl} {r : Rp} {k : XC} {js : List Nat} (hg : RG Γ L E tg js e r e1) (h : RS Γ L E body e1 (.err k)) : TurnR (β := β) Γ L E tg body S e r (.er k) := ⟨js, e1, hg, h⟩
theorem loop_run (S : β → List Sl) (step : β → α → Stp β) (I : Nat → β → Prop) (all : List α) : ∀ (xs : List α) (b : β) (n : Nat), all.drop n = xs → I n b → (∀ n b x, x ∈ all → all[n]? = some x → I n b → TurnR Γ L E tg body S (S b) (f x) (step b x) ∧ ∀ b', step b x = .on b' → I (n + 1) b') →
    LoopR Γ L E tg body f xs (S b) ((Stp.run step xs b).o S)
  | [], b, _, _, _, _ => .nil
  | x :: xs, b, n, hn, hi, h => by
    have hx : all[n]? = some x := by
      have e : (all.drop n)[0]? = some x := by rw [hn]; rfl
      rw [List.getElem?_drop] at e
      exact e
    have hd : all.drop (n + 1) = xs := by
      rw [← List.drop_drop, hn]
      rfl
    obtain ⟨h1, h2⟩ := h n b x (List.mem_of_getElem? hx) hx hi
    unfold Stp.run
    cases hs : step b x with
    | on b' =>
      rw [hs] at h1
      obtain ⟨js, e1, e2, hg, hb | hb, l⟩ := h1
      · exact .next hg hb l (loop_run S step I all xs b' (n + 1) hd (h2 b' hs) h)
      · exact .cont hg hb l (loop_run S step I all xs b' (n + 1) hd (h2 b' hs) h)
    | out r =>
      rw [hs] at h1
      obtain ⟨js, e1, hg, hb⟩ := h1
      exact .ret hg hb
    | er k =>
      rw [hs] at h1
      obtain ⟨js, e1, hg, hb⟩ := h1
      exact .err hg hb
/-- a for loop with turns that only go on -/
theorem r1_fold {pos : Pos} (S : β → List Sl) (step : β → α → β) (I : β → Prop) (b : β) (he : env = S b) (hb : I b) (hi : RI Γ L E tg iter env xs f) (h : ∀ b x, x ∈ xs → I b → TurnR Γ L E tg body S (S b) (f x) (.on (step b x)) ∧ I (step b x))
    (hf : ∀ (en : Env) x, foldedSetIterable iter en x = pure x := by intro _ _; rfl) : R1 Γ L E (.For tg iter body [] pos) env (.nx (S (xs.foldl step b))) := by
  subst he
  have key : ∀ (xs : List α) (b : β), Stp.run (fun b x => .on (step b x)) xs b = .on (xs.foldl step b) := by
    intro xs
    induction xs with
    | nil => intro b; rfl
    | cons x xs ih => intro b; exact ih _
  have := loop_run (Γ := Γ) (L := L) (E := E) (tg := tg) (body := body) (f := f) S (fun b x => .on (step b x)) (fun _ => I) xs xs b 0 rfl hb fun n b x hx _ hi => ⟨(h b x hx hi).1, fun b' e => by cases e; exact (h b x hx hi).2⟩
  rw [key] at this
  exact r1_for hi this hf
/-- the same, where each turn knows the turns behind it -/
theorem loop_foldP (S : β → List Sl) (step : β → α → β) (b0 : β) (all : List α) : ∀ (xs pre : List α), all = pre ++ xs → (∀ pre x suf, all = pre ++ x :: suf → TurnR Γ L E tg body S (S (pre.foldl step b0)) (f x) (.on (step (pre.foldl step b0) x))) →
    LoopR Γ L E tg body f xs (S (pre.foldl step b0)) (.nx (S (all.foldl step b0)))
  | [], pre, e, _ => by
    rw [List.append_nil] at e
    subst e
    exact .nil
  | x :: xs, pre, e, h => by
    have hx := h pre x xs e
    have hr := loop_foldP S step b0 all xs (pre ++ [x]) (by rw [e, List.append_assoc]; rfl) h
    rw [List.foldl_append] at hr
    obtain ⟨js, e1, e2, hg, hb | hb, l⟩ := hx
    · exact .next hg hb l hr
    · exact .cont hg hb l hr
theorem r1_foldP {pos : Pos} (S : β → List Sl) (step : β → α → β) (b : β) (he : env = S b) (hi : RI Γ L E tg iter env xs f) (h : ∀ pre x suf, xs = pre ++ x :: suf → TurnR Γ L E tg body S (S (pre.foldl step b)) (f x) (.on (step (pre.foldl step b) x)))
    (hf : ∀ (en : Env) x, foldedSetIterable iter en x = pure x := by intro _ _; rfl) : R1 Γ L E (.For tg iter body [] pos) env (.nx (S (xs.foldl step b))) := by
  subst he
  exact r1_for hi (loop_foldP S step b xs xs [] rfl h) hf
theorem run_optS (g : β → α → Option β) (k : XC) : ∀ (xs : List α) (b : β), Stp.run (fun b x => match g b x with | some b' => .on b' | none => .er k) xs b = match xs.foldlM g b with | some b' => .on b' | none => .er k
  | [], b => rfl
  | x :: xs, b => by
    unfold Stp.run
    rw [List.foldlM_cons]
    cases e : g b x with
    | none => simp [e]
    | some b' =>
      simp only [e]
      exact run_optS g k xs b'
/-- a for loop that may end the def -/
theorem r1_run {pos : Pos} (S : β → List Sl) (step : β → α → Stp β) (I : Nat → β → Prop) (b : β) {o : Out} (ho : o = (Stp.run step xs b).o S) (he : env = S b) (hb : I 0 b) (hi : RI Γ L E tg iter env xs f)
    (h : ∀ n b x, x ∈ xs → xs[n]? = some x → I n b → TurnR Γ L E tg body S (S b) (f x) (step b x) ∧ ∀ b', step b x = .on b' → I (n + 1) b') (hf : ∀ (en : Env) x, foldedSetIterable iter en x = pure x := by intro _ _; rfl) : R1 Γ L E (.For tg iter body [] pos) env o := by
  subst ho he
  exact r1_for hi (loop_run S step I xs xs b 0 rfl hb h) hf
/-- a for loop whose turns may raise k -/
theorem r1_foldM {pos : Pos} (S : β → List Sl) (g : β → α → Option β) (k : XC) (I : Nat → β → Prop) (b : β) {o : Out} (ho : o = match xs.foldlM g b with | some b' => .nx (S b') | none => .err k) (he : env = S b) (hb : I 0 b) (hi : RI Γ L E tg iter env xs f)
    (h1 : ∀ n b x b', x ∈ xs → xs[n]? = some x → I n b → g b x = some b' → TurnR Γ L E tg body S (S b) (f x) (.on b') ∧ I (n + 1) b') (h2 : ∀ n b x, x ∈ xs → xs[n]? = some x → I n b → g b x = none → TurnR Γ L E tg body S (S b) (f x) (.er k)) (hf : ∀ (en : Env) x, foldedSetIterable iter en x = pure x := by intro _ _; rfl) : R1 Γ L E (.For tg iter body [] pos) env o := by
  subst ho
  refine r1_run S (fun b x => match g b x with | some b' => .on b' | none => .er k) I b ?_ he hb hi (fun n b x hx hn hI => ?_) hf
  · rw [run_optS]
    cases xs.foldlM g b <;> rfl
  · cases e : g b x with
    | none => exact ⟨h2 n b x hx hn hI e, fun b' h => by cases h⟩
    | some b1 => exact ⟨(h1 n b x b1 hx hn hI e).1, fun b' h => by cases h; exact (h1 n b x _ hx hn hI e).2⟩
theorem foldM_inv {g : β → α → Option β} {I : Nat → β → Prop} (all : List α) : ∀ (xs : List α) (b b' : β) (n : Nat), all.drop n = xs → n ≤ all.length → I n b → (∀ n b x b', x ∈ all → all[n]? = some x → I n b → g b x = some b' → I (n + 1) b') → xs.foldlM g b = some b' → I all.length b'
  | [], b, b', n, hn, hle, hb, _, e => by
    cases e
    have hn : n = all.length := by
      have := congrArg List.length hn
      rw [List.length_drop] at this
      have this : all.length - n = 0 := this
      omega
    subst hn
    exact hb
  | x :: xs, b, b', n, hn, hle, hb, h, e => by
    have hx : all[n]? = some x := by
      have e : (all.drop n)[0]? = some x := by rw [hn]; rfl
      rw [List.getElem?_drop] at e
      exact e
    have hd : all.drop (n + 1) = xs := by
      rw [← List.drop_drop, hn]
      rfl
    have hl := (List.getElem?_eq_some_iff.mp hx).1
    rw [List.foldlM_cons] at e
    cases e1 : g b x with
    | none => rw [e1] at e; cases e
    | some b1 =>
      rw [e1] at e
      exact foldM_inv all xs b1 b' (n + 1) hd (by omega) (h n b x b1 (List.mem_of_getElem? hx) hx hb e1) h e
def Out.opt {β : Type} (o2 : β → Out) (k : XC) : Option β → Out
  | some b => o2 b
  | none => .err k
theorem rs_foldM {pos : Pos} {rest : List Stmt} (S : β → List Sl) (g : β → α → Option β) (k : XC) (I : Nat → β → Prop) (b : β) (o2 : β → Out) (he : env = S b) (hb : I 0 b) (hi : RI Γ L E tg iter env xs f)
    (h1 : ∀ n b x b', x ∈ xs → xs[n]? = some x → I n b → g b x = some b' → TurnR Γ L E tg body S (S b) (f x) (.on b') ∧ I (n + 1) b') (h2 : ∀ n b x, x ∈ xs → xs[n]? = some x → I n b → g b x = none → TurnR Γ L E tg body S (S b) (f x) (.er k))
    (hr : ∀ b', xs.foldlM g b = some b' → I xs.length b' → RS Γ L E rest (S b') (o2 b')) (hf : ∀ (en : Env) x, foldedSetIterable iter en x = pure x := by intro _ _; rfl) :
    RS Γ L E (.For tg iter body [] pos :: rest) env (Out.opt o2 k (xs.foldlM g b)) := by
  cases e : xs.foldlM g b with
  | none => exact rs_stop (r1_foldM S g k I b (o := .err k) (by rw [e]) he hb hi h1 h2 hf)
  | some b' => exact rs_cons (r1_foldM S g k I b (o := .nx (S b')) (by rw [e]) he hb hi h1 h2 hf) (hr b' e (foldM_inv xs xs b b' 0 rfl (Nat.zero_le _) hb (fun n b x b' hx hn hI hg => (h1 n b x b' hx hn hI hg).2) e))
theorem run_optR (g : β → α → Option β) (r : Rp) : ∀ (xs : List α) (b : β), Stp.run (fun b x => match g b x with | some b' => .on b' | none => .out r) xs b = match xs.foldlM g b with | some b' => .on b' | none => .out r
  | [], b => rfl
  | x :: xs, b => by
    unfold Stp.run
    rw [List.foldlM_cons]
    cases e : g b x with
    | none => simp [e]
    | some b' =>
      simp only [e]
      exact run_optR g r xs b'
def Out.optR {β : Type} (o2 : β → Out) (r : Rp) : Option β → Out
  | some b => o2 b
  | none => .ret r
/-- a for loop whose turns may return r -/
theorem rs_foldR {pos : Pos} {rest : List Stmt} (S : β → List Sl) (g : β → α → Option β) (r : Rp) (I : Nat → β → Prop) (b : β) (o2 : β → Out) (he : env = S b) (hb : I 0 b) (hi : RI Γ L E tg iter env xs f)
    (h1 : ∀ n b x b', x ∈ xs → xs[n]? = some x → I n b → g b x = some b' → TurnR Γ L E tg body S (S b) (f x) (.on b') ∧ I (n + 1) b') (h2 : ∀ n b x, x ∈ xs → xs[n]? = some x → I n b → g b x = none → TurnR Γ L E tg body S (S b) (f x) (.out r))
    (hr : ∀ b', xs.foldlM g b = some b' → I xs.length b' → RS Γ L E rest (S b') (o2 b')) (hf : ∀ (en : Env) x, foldedSetIterable iter en x = pure x := by intro _ _; rfl) :
    RS Γ L E (.For tg iter body [] pos :: rest) env (Out.optR o2 r (xs.foldlM g b)) := by
  have key : R1 Γ L E (.For tg iter body [] pos) env ((match xs.foldlM g b with | some b' => Stp.on b' | none => .out r).o S) := by
    refine r1_run S (fun b x => match g b x with | some b' => .on b' | none => .out r) I b (by rw [run_optR]) he hb hi (fun n b x hx hn hI => ?_) hf
    cases e : g b x with
    | none => exact ⟨h2 n b x hx hn hI e, fun b' h => by cases h⟩
    | some b1 => exact ⟨(h1 n b x b1 hx hn hI e).1, fun b' h => by cases h; exact (h1 n b x _ hx hn hI e).2⟩
  cases e : xs.foldlM g b with
  | none =>
    rw [e] at key
    exact rs_stop key
  | some b' =>
    rw [e] at key
    exact rs_cons key (hr b' e (foldM_inv xs xs b b' 0 rfl (Nat.zero_le _) hb (fun n b x b' hx hn hI hg => (h1 n b x b' hx hn hI hg).2) e))
def Out.fnd {α : Type} (o2 : Out) (g : α → Rp) : Option α → Out
  | some x => .ret (g x)
  | none => o2
def fndS (q : α → Bool) (g : α → Rp) : Unit → α → Stp Unit := fun _ x => if q x then .out (g x) else .on ()
theorem run_fnd (q : α → Bool) (g : α → Rp) : ∀ xs : List α, Stp.run (fndS q g) xs () = match xs.find? q with | some x => .out (g x) | none => .on ()
  | [] => rfl
  | x :: xs => by
    unfold Stp.run fndS
    rw [List.find?_cons]
    cases h : q x with
    | true => rfl
    | false => exact run_fnd q g xs
/-- an own int or None -/
def rOI : Option Int → Rp
  | none => rN
  | some i => rI i
theorem cut_tail {α : Type} (xs : List α) : cutR xs (some 1) none = xs.tail := by
  unfold cutR
  cases xs with
  | nil => rfl
  | cons x xs =>
    show List.take _ (List.drop (HT.sIx (xs.length + 1) 0 (some 1)) (x :: xs)) = xs
    have e : HT.sIx (xs.length + 1) 0 (some 1) = 1 := by
      unfold HT.sIx
      simp
      try omega
    rw [List.length_cons, e]
    show List.take (HT.sIx (xs.length + 1) (xs.length + 1) none - 1) xs = xs
    have e2 : HT.sIx (xs.length + 1) (xs.length + 1) none = xs.length + 1 := by
      unfold HT.sIx
      simp
    rw [e2]
    exact List.take_of_length_le (by omega)
/-- a for loop that looks whether all are so: with what is not so the def ends -/
def allS (q : α → Bool) (e : Stp Unit) : Unit → α → Stp Unit := fun _ x => if q x then .on () else e
theorem run_allS {q : α → Bool} {e : Stp Unit} (he : ∀ b, e ≠ .on b) : ∀ xs : List α, Stp.run (allS q e) xs () = if xs.all q then .on () else e
  | [] => rfl
  | x :: xs => by
    unfold Stp.run allS
    cases h : q x with
    | true =>
      rw [if_pos rfl, List.all_cons, h, Bool.true_and]
      exact run_allS he xs
    | false =>
      rw [if_neg Bool.false_ne_true, List.all_cons, h, Bool.false_and, if_neg Bool.false_ne_true]
      cases e with
      | on b => exact absurd rfl (he b)
      | out r => rfl
      | er k => rfl
theorem r1_allNx {pos : Pos} (q : α → Bool) (hq : xs.all q = true) (hi : RI Γ L E tg iter env xs f)
    (h : ∀ x, x ∈ xs → q x = true → TurnR Γ L E tg body (fun _ : Unit => env) env (f x) (.on ())) (hf : ∀ (en : Env) x, foldedSetIterable iter en x = pure x := by intro _ _; rfl) : R1 Γ L E (.For tg iter body [] pos) env (.nx env) :=
  r1_fold (fun _ : Unit => env) (fun _ _ => ()) (fun _ => True) () rfl trivial hi (fun _ x hx _ => ⟨h x hx (List.all_eq_true.mp hq x hx), trivial⟩) hf
theorem r1_allRet {pos : Pos} (q : α → Bool) (r : Rp) (hq : xs.all q = false) (hi : RI Γ L E tg iter env xs f)
    (h1 : ∀ x, x ∈ xs → q x = true → TurnR Γ L E tg body (fun _ : Unit => env) env (f x) (.on ())) (h2 : ∀ x, x ∈ xs → q x = false → TurnR Γ L E tg body (fun _ : Unit => env) env (f x) (.out r)) (hf : ∀ (en : Env) x, foldedSetIterable iter en x = pure x := by intro _ _; rfl) : R1 Γ L E (.For tg iter body [] pos) env (.ret r) := by
  refine r1_run (fun _ : Unit => env) (allS q (.out r)) (fun _ _ => True) () ?_ rfl trivial hi (fun _ _ x hx _ _ => ⟨?_, fun _ _ => trivial⟩) hf
  · rw [run_allS (fun b => by intro h; cases h), hq]
    rfl
  · unfold allS
    cases hqx : q x with
    | true => exact h1 x hx hqx
    | false => exact h2 x hx hqx
theorem r1_allErr {pos : Pos} (q : α → Bool) (k : XC) (hq : xs.all q = false) (hi : RI Γ L E tg iter env xs f)
    (h1 : ∀ x, x ∈ xs → q x = true → TurnR Γ L E tg body (fun _ : Unit => env) env (f x) (.on ())) (h2 : ∀ x, x ∈ xs → q x = false → TurnR Γ L E tg body (fun _ : Unit => env) env (f x) (.er k)) (hf : ∀ (en : Env) x, foldedSetIterable iter en x = pure x := by intro _ _; rfl) : R1 Γ L E (.For tg iter body [] pos) env (.err k) := by
  refine r1_run (fun _ : Unit => env) (allS q (.er k)) (fun _ _ => True) () ?_ rfl trivial hi (fun _ _ x hx _ _ => ⟨?_, fun _ _ => trivial⟩) hf
  · rw [run_allS (fun b => by intro h; cases h), hq]
    rfl
  · unfold allS
    cases hqx : q x with
    | true => exact h1 x hx hqx
    | false => exact h2 x hx hqx
/-- one turn of a look over all -/
def LookT (Γ : Cg) (L : Lc) (E : Wc) (tg : Expr) (body : List Stmt) (env : List Sl) (r : Rp) (q : Bool) (o : Out) : Prop := ∃ js e1 e2, RG Γ L E tg js env r e1 ∧ RS Γ L E body e1 (if q then .nx e2 else o) ∧ EnvLe e2 env
theorem LookT.of {r : Rp} {q : Bool} {o : Out} {js : List Nat} {e1 e2 : List Sl} (hg : RG Γ L E tg js env r e1) (hb : RS Γ L E body e1 (if q then .nx e2 else o)) (l : envLeB e2 env) : LookT Γ L E tg body env r q o := ⟨js, e1, e2, hg, hb, EnvLe.of l⟩
def Out.stops : Out → Bool
  | .ret _ => true
  | .err _ => true
  | _ => false
theorem rs_look {pos : Pos} {rest : List Stmt} {o o2 : Out} (q : α → Bool) (hi : RI Γ L E tg iter env xs f) (h : ∀ x, x ∈ xs → LookT Γ L E tg body env (f x) (q x) o) (hr : xs.all q = true → RS Γ L E rest env o2) (ho : o.stops = true := by rfl)
    (hf : ∀ (en : Env) x, foldedSetIterable iter en x = pure x := by intro _ _; rfl) : RS Γ L E (.For tg iter body [] pos :: rest) env (if xs.all q then o2 else o) := by
  have good : ∀ x, x ∈ xs → q x = true → TurnR Γ L E tg body (fun _ : Unit => env) env (f x) (.on ()) := fun x hx hq => by
    obtain ⟨js, e1, e2, hg, hb, l⟩ := h x hx
    rw [hq, if_pos rfl] at hb
    exact ⟨js, e1, e2, hg, .inl hb, l⟩
  cases ha : xs.all q with
  | true =>
    rw [if_pos rfl]
    exact rs_cons (r1_allNx q ha hi good hf) (hr ha)
  | false =>
    rw [if_neg Bool.false_ne_true]
    cases o with
    | ret r =>
      exact rs_stop (r1_allRet q r ha hi good (fun x hx hq => by
        obtain ⟨js, e1, e2, hg, hb, l⟩ := h x hx
        rw [hq, if_neg Bool.false_ne_true] at hb
        exact ⟨js, e1, hg, hb⟩) hf)
    | err k =>
      exact rs_stop (r1_allErr q k ha hi good (fun x hx hq => by
        obtain ⟨js, e1, e2, hg, hb, l⟩ := h x hx
        rw [hq, if_neg Bool.false_ne_true] at hb
        exact ⟨js, e1, hg, hb⟩) hf)
    | nx e => cases ho
    | ct e => cases ho
/-- if c: (the end) -/
theorem rs_guard {c : Expr} {A : List Stmt} {pos : Pos} {q : Bool} {o : Out} (hc : RT Γ L E c env (!q)) (h : q = false → RS Γ L E A env o) : RS Γ L E [.If c A [] pos] env (if q then .nx env else o) := by
  cases q with
  | true => exact rs_one (r1_if hc (fun h => by cases h) fun _ => rs_nil)
  | false => exact rs_one (r1_if hc (fun _ => h rfl) fun h => by cases h)
theorem rs_ifEnd {c : Expr} {A rest : List Stmt} {pos : Pos} {q : Bool} {o o2 : Out} (hc : RT Γ L E c env q) (h : q = true → RS Γ L E A env o) (h2 : q = false → RS Γ L E rest env o2) (ho : o.end_ = true := by rfl) : RS Γ L E (.If c A [] pos :: rest) env (if q then o else o2) := by
  cases q with
  | true => exact rs_stop (r1_if hc (fun _ => h rfl) (fun h => by cases h)) ho
  | false => exact rs_cons (r1_if (o := .nx env) hc (fun h => by cases h) fun _ => rs_nil) (h2 rfl)
theorem RT.eq {c : Expr} {k l : Bool} (h : RT Γ L E c env k) (e : k = l) : RT Γ L E c env l := e ▸ h
theorem RS.eq {ss : List Stmt} {o o2 : Out} (h : RS Γ L E ss env o) (e : o = o2) : RS Γ L E ss env o2 := e ▸ h
/-- a for loop that returns at the first that is so -/
theorem rs_find {pos : Pos} {rest : List Stmt} {o2 : Out} (q : α → Bool) (g : α → Rp) (hi : RI Γ L E tg iter env xs f) (h : ∀ x, x ∈ xs → LookT Γ L E tg body env (f x) (!q x) (.ret (g x))) (hr : xs.find? q = none → RS Γ L E rest env o2)
    (hf : ∀ (en : Env) x, foldedSetIterable iter en x = pure x := by intro _ _; rfl) : RS Γ L E (.For tg iter body [] pos :: rest) env (Out.fnd o2 g (xs.find? q)) := by
  have key : R1 Γ L E (.For tg iter body [] pos) env ((match xs.find? q with | some x => Stp.out (g x) | none => .on ()).o fun _ : Unit => env) := by
    refine r1_run (fun _ : Unit => env) (fndS q g) (fun _ _ => True) () (by rw [run_fnd]) rfl trivial hi (fun _ _ x hx _ _ => ⟨?_, fun _ _ => trivial⟩) hf
    obtain ⟨js, e1, e2, hg, hb, l⟩ := h x hx
    unfold fndS
    cases hq : q x with
    | true =>
      rw [hq] at hb
      exact ⟨js, e1, hg, hb⟩
    | false =>
      rw [hq] at hb
      exact ⟨js, e1, e2, hg, .inl hb, l⟩
  cases e : xs.find? q with
  | none =>
    rw [e] at key
    exact rs_cons key (hr e)
  | some x =>
    rw [e] at key
    exact rs_stop key
theorem sw_cell {elt : Expr} {gs : List Comprehension} {scope : Scope} {pos py : Pos} {y : Str} {l : Nat} {L : Lc} (h : decide (L.sc.names.lookup y = some .cell) = true) : ∀ en : Env, en.scope = L.sc → swapsWith (.ListComp elt gs scope pos) (some (.Name y py)) l en = pure false := fun en he => by
  have ky : en.kindOf y = some .cell := by
    unfold Env.kindOf
    rw [he]
    exact of_decide_eq_true h
  unfold swapsWith
  simp only [ky]
  cases en.blockKind <;> rfl
end
end Rl
/-! text RL13 -/
set_option Elab.async false
set_option linter.all false
set_option maxRecDepth 100000
set_option maxHeartbeats 4000000
namespace Rl
open PySem PySem.Spec PyProof.Rows L2
/-! ### a dict that is locked (a loop goes over it) -/
def rDz (kvs : List (Key × Rp)) : Rp := ⟨fun H v => ∃ (p : Addr) (o : Obj) (ws : List (Key × V)), v = .ref p ∧ H p = some (.frz o (.dK ws)) ∧ ws.map Prod.fst = kvs.map Prod.fst ∧ Oks H (kvs.map Prod.snd) (ws.map Prod.snd), fun e ⟨p, o, ws, h1, h2, h3, h4⟩ => ⟨p, o, ws, h1, e _ _ h2, h3, h4.mono e⟩⟩
section
variable {Γ : Cg} {L : Lc} {E : Wc} {env env1 env2 : List Sl} {e a b c tg iter : Expr} {es : List Expr} {pos p : Pos} {r ra rb : Rp} {rs : List Rp} {o : Out} {s : Stmt} {rest ss body : List Stmt}
theorem re_ixDz {k : Key} {kvs : List (Key × Rp)} (h : lookR kvs k = some r) (ha : RE Γ L E a env (rDz kvs)) (hb : RE Γ L E b env (rV (kV k))) (hs : NoSl b := by intro _ _; rfl) : RE Γ L E (.Subscript a b pos) env r := by
  obtain ⟨ta, a1, a2⟩ := ha
  obtain ⟨tb, b1, b2⟩ := hb
  refine ⟨tDGet ta tb, fun X o => pe_dget o.hu (a1 X o) (b1 X o) hs, fun H0 B H σ Q s1 q => a2 H0 B H σ _ s1 fun u B2 H2 g ⟨p, ob, ws, k0, k1, k2, k3⟩ => b2 H0 B2 H2 σ _ (s1.grow g) fun x B3 H3 g2 hk => ?_⟩
  have hk : x = kV k := hk
  subst hk
  obtain ⟨v, e, o⟩ := lookR_some k2 k3 h
  refine ⟨p, v, k0, ?_, q v B3 H3 (g.trans g2) (r.mono g2.b o)⟩
  rw [← e]
  exact .inl ⟨ws, k, .inr ⟨ob, g2.h _ _ (g.i _ _ k1)⟩, rfl, rfl⟩
theorem ri_keysZ {kvs : List (Key × Rp)} (ha : RE Γ L E e env (rDz kvs)) : RI Γ L E tg e env kvs (fun kv => rV (kV kv.1)) := by
  obtain ⟨t, h1, h2⟩ := ha
  refine ⟨iKeys t, fun X o => pi_keys (h1 X o), fun H0 B H σ R s q => h2 H0 B H σ _ s fun v B2 H2 g ⟨p, ob, ws, e1, hp, hk, ho⟩ => ?_⟩
  refine ⟨p, ob, e1, .inl ⟨ws, g.i _ _ hp, q _ B2 H2 g fun i B3 H3 s1 s2 => ⟨fun x hx => ?_, fun hi => ⟨s2 _ _ (s1 _ _ hp), ?_⟩⟩⟩⟩
  · have hl : i < ws.length := by
      have := congrArg List.length hk
      rw [List.length_map, List.length_map] at this
      rw [this]
      exact (List.getElem?_eq_some_iff.mp hx).1
    refine ⟨⟨s2 _ _ (s1 _ _ hp), hl⟩, fun u H' ⟨e3, k, v, e4, e5⟩ => ?_⟩
    subst e3
    refine ⟨B3, Grow.refl s2, ?_⟩
    have e6 : (ws.map Prod.fst)[i]? = some k := by rw [List.getElem?_map, e4]; rfl
    rw [hk, List.getElem?_map, hx] at e6
    have e6 : x.1 = k := Option.some.inj e6
    show u = kV x.1
    rw [e6]
    exact e5
  · have := congrArg List.length hk
    rw [List.length_map, List.length_map] at this
    omega
/-- for k in d, d the def's own: nothing is known behind -/
theorem r1_forD (i : Nat) {x : Str} {kvs : List (Key × Rp)} (he : env[i]? = some (.aD kvs)) (h : R1 Γ L E (.For tg (.Name x p) body [] pos) (env.set i (.dat (rDz kvs))) (.nx env1)) (hle : env1.length = env.length := by rfl) : R1 Γ L E (.For tg (.Name x p) body [] pos) env (.nx (List.replicate env.length .no)) := by
  obtain ⟨t, h1, h2⟩ := h
  refine ⟨tLock t, fun X k => ps_lock (h1 X k), fun H0 B0 B H σ D k g q => ?_⟩
  obtain ⟨d, ws, a1, a2, a3, a4, a5, a6⟩ := k.accD he
  refine ⟨d, _, a2, trivial, fun od => ?_⟩
  have hd0 : B0 d = none := by
    cases z : B0 d with
    | none => rfl
    | some u =>
      have := g.b _ _ z
      rw [a3] at this
      cases this
  have k2 : Sok H0 (upd B d (.frz od (.dK ws))) (upd H d (.frz od (.dK ws))) σ (env.set i (.dat (rDz kvs))) := by
    refine ⟨same_upd2 k.ex _, fun b u z => ?_, by rw [List.length_set]; exact k.len, fun j x z => ?_, fun m n q hm hn => ?_⟩
    · rw [upd_ne (ne_of_none z a4)]; exact k.e0 _ _ z
    · by_cases hj : i = j
      · subst hj
        rw [List.getElem?_set_self (List.getElem?_eq_some_iff.mp he).1] at z
        cases z
        rw [a1]
        exact ⟨d, od, ws, rfl, upd_same, a5, a6.mono (same_new a3 _)⟩
      · rw [List.getElem?_set_ne hj] at z
        have y := k.sl j x z
        cases x with
        | no => cases σ[j]?.join <;> trivial
        | dat r =>
          cases w : σ[j]?.join with
          | none => rw [w] at y; exact y.elim
          | some u => rw [w] at y; exact r.mono (same_new a3 _) y
        | aL rs =>
          cases w : σ[j]?.join with
          | none => rw [w] at y; exact y.elim
          | some u =>
            rw [w] at y
            obtain ⟨q1, vs, b1, b2, b3, b4, b5⟩ := y
            subst b1
            have hne : q1 ≠ d := fun z2 => by rw [z2, a2] at b2; cases b2
            exact ⟨q1, vs, rfl, by rw [upd_ne hne]; exact b2, by rw [upd_ne hne]; exact b3, b4, b5.mono (same_new a3 _)⟩
        | aD rs =>
          cases w : σ[j]?.join with
          | none => rw [w] at y; exact y.elim
          | some u =>
            rw [w] at y
            obtain ⟨q1, vs, b1, b2, b3, b4, b5, b6⟩ := y
            subst b1
            have hne : q1 ≠ d := fun z2 => hj (k.ap i j d ⟨⟨_, he, rfl⟩, a1⟩ ⟨⟨_, z, rfl⟩, by rw [← z2]; exact join_of w⟩)
            exact ⟨q1, vs, rfl, by rw [upd_ne hne]; exact b2, by rw [upd_ne hne]; exact b3, b4, b5, b6.mono (same_new a3 _)⟩
    · have key : ∀ c, AccAt σ (env.set i (.dat (rDz kvs))) c q → AccAt σ env c q := fun c ⟨⟨x, hx, hxa⟩, hc⟩ => by
        by_cases hj : i = c
        · subst hj
          rw [List.getElem?_set_self (List.getElem?_eq_some_iff.mp he).1] at hx
          cases hx
          cases hxa
        · rw [List.getElem?_set_ne hj] at hx
          exact ⟨⟨x, hx, hxa⟩, hc⟩
      exact k.ap m n q (key m hm) (key n hn)
  refine h2 H0 (upd B d (.frz od (.dK ws))) (upd B d (.frz od (.dK ws))) (upd H d (.frz od (.dK ws))) σ _ k2 (Grow.at0 k2.ex k2.e0) fun σ3 B3 H3 k3 g3 => ?_
  have hd : H3 d = some (.frz od (.dK ws)) := g3.i _ _ (g3.b _ _ upd_same)
  have sB : Same B (upd H3 d (.dK ws)) := fun b u z => by
    have hb := ne_of_none z a3
    rw [upd_ne hb]
    exact g3.i _ _ (g3.b _ _ (by rw [upd_ne hb]; exact z))
  have s0 : Same H0 (upd H3 d (.dK ws)) := fun b u z => by
    rw [upd_ne (ne_of_none z a4)]
    exact g3.h _ _ z
  refine ⟨hd, q σ3 B (upd H3 d (.dK ws)) ⟨sB, s0, by rw [k3.len, hle, List.length_replicate], fun j x z => ?_, fun m n q ⟨⟨x, hx, hxa⟩, _⟩ _ => ?_⟩ ⟨g.b, sB, s0, g.f⟩⟩
  · have e := (List.mem_replicate.mp (List.mem_of_getElem? z)).2
    subst e
    cases σ3[j]?.join <;> trivial
  · have e := (List.mem_replicate.mp (List.mem_of_getElem? hx)).2
    subst e
    cases hxa
/-! ### a def that gives a new dict -/
def SpD {α : Type} (pre : α → Prop) (pf : α → List Rp) (res : α → List (Key × Rp)) : Sp := fun vs H Q _ =>
  ∃ (x : α) (B : Hp), pre x ∧ Same B H ∧ Oks B (pf x) vs ∧ ∀ (p : Addr) (ws : List (Key × V)) (B2 H2 : Hp), Grow B H B2 H2 → H2 p = some (.dK ws) → B2 p = none → H p = none → ws.map Prod.fst = (res x).map Prod.fst → Oks B2 ((res x).map Prod.snd) (ws.map Prod.snd) → Q (.ref p) H2
def RSD (Γ : Cg) (L : Lc) (E : Wc) (s : List Stmt) (env : List Sl) (kvs : List (Key × Rp)) : Prop :=
  ∃ t : TS, (∀ X, Ok Γ L E X → PSs X s t) ∧ ∀ (H0 B0 B H : Hp) (σ : L2.St) (D : Ends), Sok H0 B H σ env → Grow B0 H0 B H → (∀ (p : Addr) (ws : List (Key × V)) (B2 H2 : Hp), Grow B0 H0 B2 H2 → H2 p = some (.dK ws) → B2 p = none → H0 p = none → ws.map Prod.fst = kvs.map Prod.fst → Oks B2 (kvs.map Prod.snd) (ws.map Prod.snd) → D.rt (.ref p) H2) → t D σ H
theorem rsd_cons {kvs : List (Key × Rp)} (h : R1 Γ L E s env (.nx env1)) (hr : RSD Γ L E rest env1 kvs) : RSD Γ L E (s :: rest) env kvs := by
  obtain ⟨t, h1, h2⟩ := h
  obtain ⟨u, r1, r2⟩ := hr
  exact ⟨tSeq t u, fun X k => pss_cons (h1 X k) (r1 X k), fun H0 B0 B H σ D k g q => h2 H0 B0 B H σ _ k g fun σ2 B2 H2 k2 g2 => r2 H0 B0 B2 H2 σ2 D k2 g2 q⟩
theorem rsd_ret (i : Nat) {x : Str} {kvs : List (Key × Rp)} (hb : varB L i x = true := by decide +kernel) (he : env[i]? = some (.aD kvs) := by rfl) : RSD Γ L E [.Return (some (.Name x p)) pos] env kvs := by
  obtain ⟨h1, h2, h3, h4⟩ := varB_ok hb
  refine ⟨tRet (tVar i), fun X k => pss_one (ps_ret (pe_var (by rw [k.N]; exact h1) (by rw [k.sc]; exact h2) h3 h4)), fun H0 B0 B H σ D k g q => ?_⟩
  obtain ⟨p, vs, e1, e2, e3, e4, e6, e5⟩ := k.accD he
  exact ⟨_, e1, q p vs B H g e2 e3 e4 e6 e5⟩
theorem defD {st : Stmt} {x : Str} {ps : List Str} {α : Type} {pre : α → Prop} {pf : α → List Rp} {res : α → List (Key × Rp)} (k : Nat) (L : Lc) (D : DefAt Γ x st ps) (S : FnScope L.N ps (defScope st)) (hsc : L.sc = defScope st) (hdf : L.df = true) (hl : ∀ y, (pf y).length = ps.length)
    (hb : ∀ y, pre y → RSD Γ L ⟨E0, k⟩ (defBody st) (envOf L (pf y)) (res y)) : Fn0 Γ (k + 1) x ps (SpD pre pf res) := by
  obtain ⟨f, fd, F, hm, hbd⟩ := D.ex
  refine ⟨f, fd, hm, F.kp, hbd, F.ok S (fun vs H Q E ⟨y, B, _, _, ho, _⟩ => by rw [ho.length, hl]) (fun cdv A outer s H vs Q E hr ⟨y, B, hy, hB, ho, q⟩ => ?_)⟩
  obtain ⟨t, h1, h2⟩ := hb y hy
  exact ⟨t, h1 _ ⟨rfl, rfl, rfl, rfl, rfl, hr, rfl, S.nd, hsc.symm, rfl, fun _ _ => rfl, PassesOwn.never, takes0, fun _ => ⟨rfl, rfl⟩⟩, h2 H B B H _ _ (sok_start hB ho (by rfl)) (Grow.refl hB) fun p ws B2 H2 g a1 a2 a3 a4 a5 => q p ws B2 H2 g a1 a2 a3 a4 a5⟩
theorem rfd_call {α : Type} {pre : α → Prop} {pf : α → List Rp} {res : α → List (Key × Rp)} {j : Nat} {x : Str} {ps : List Str} (F : Fn0 Γ j x ps (SpD pre pf res)) (y : α) (hy : pre y) (ha : RA Γ L E (e :: es) env (pf y)) (hj : j ≤ E.k := by exact Nat.le_of_ble_eq_true rfl)
    (hg : gloB L x = true := by decide +kernel) (hs : ∀ en : Env, starEach (e :: es) en = (false, eval e en) :: starEach es en := by intro _; rfl) (hp : ∀ (q : Pos) (en : Env), (backTo q (starEach es en)).any (·.1) = false := by intro _ _; rfl) :
    RFd Γ L E (.Call (.Name x p) (e :: es) [] pos) env (res y) := by
  obtain ⟨t, h1, h2⟩ := ha
  refine ⟨tCall _ [] E0 t, fun X o => pe_fn0 F hj hg o (h1 X o) hs hp, fun H0 B H σ Q s q => h2 H0 B H σ _ s fun vs B2 H2 g k => ?_⟩
  rw [List.append_nil]
  exact ⟨y, B2, hy, g.i, k, fun p ws B3 H3 g2 a1 a2 a3 a4 a5 => q p ws B3 H3 (g.trans g2) a1 a2 (g.h.free a3) a4 a5⟩
theorem RX.borrowD {i : Nat} {xs : List (Key × Rp)} {c : XC} (he : env[i]? = some (.aD xs)) (h : RX Γ L E e (env.set i (.dat (rD xs))) c) : RX Γ L E e env c := by
  obtain ⟨t, h1, h2⟩ := h
  refine ⟨t, h1, fun H0 B H σ Q s q => ?_⟩
  obtain ⟨p, vs, e1, e2, e3, e4, e6, e5⟩ := s.accD he
  have s2 : Sok H0 (upd B p (.dK vs)) H σ (env.set i (.dat (rD xs))) := by
    refine ⟨fun a o z => ?_, s.e0, by rw [List.length_set]; exact s.len, fun j x z => ?_, fun m n q hm hn => ?_⟩
    · by_cases hp : a = p
      · subst hp; rw [upd_same] at z; cases z; exact e2
      · rw [upd_ne hp] at z; exact s.ex _ _ z
    · by_cases hj : i = j
      · subst hj
        rw [List.getElem?_set_self (List.getElem?_eq_some_iff.mp he).1] at z
        cases z
        rw [e1]
        exact ⟨p, vs, rfl, upd_same, e6, e5.mono (same_new e3 _)⟩
      · rw [List.getElem?_set_ne hj] at z
        have y := s.sl j x z
        cases x with
        | no => cases σ[j]?.join <;> trivial
        | dat r =>
          cases w : σ[j]?.join with
          | none => rw [w] at y; exact y.elim
          | some u => rw [w] at y; exact r.mono (same_new e3 _) y
        | aL rs =>
          cases w : σ[j]?.join with
          | none => rw [w] at y; exact y.elim
          | some u =>
            rw [w] at y
            obtain ⟨p2, vs2, rfl, y2, y3, y4, y5⟩ := y
            have ne : p2 ≠ p := fun z2 => hj (s.ap i j p ⟨⟨_, he, rfl⟩, e1⟩ ⟨⟨_, z, rfl⟩, by rw [join_of w, z2]⟩)
            exact ⟨p2, vs2, rfl, y2, by rw [upd_ne ne]; exact y3, y4, y5.mono (same_new e3 _)⟩
        | aD rs =>
          cases w : σ[j]?.join with
          | none => rw [w] at y; exact y.elim
          | some u =>
            rw [w] at y
            obtain ⟨p2, vs2, rfl, y2, y3, y4, y6, y5⟩ := y
            have ne : p2 ≠ p := fun z2 => hj (s.ap i j p ⟨⟨_, he, rfl⟩, e1⟩ ⟨⟨_, z, rfl⟩, by rw [join_of w, z2]⟩)
            exact ⟨p2, vs2, rfl, y2, by rw [upd_ne ne]; exact y3, y4, y6, y5.mono (same_new e3 _)⟩
    · have key : ∀ c, AccAt σ (env.set i (.dat (rD xs))) c q → AccAt σ env c q := fun c ⟨⟨x, hx, hxa⟩, hc⟩ => by
        by_cases hj : i = c
        · subst hj
          rw [List.getElem?_set_self (List.getElem?_eq_some_iff.mp he).1] at hx
          cases hx
          cases hxa
        · rw [List.getElem?_set_ne hj] at hx
          exact ⟨⟨x, hx, hxa⟩, hc⟩
      exact s.ap m n q (key m hm) (key n hn)
  exact h2 H0 _ H σ Q s2 fun u B2 H2 g k => q u B H2 (Grow.stay s.ex g.h) k
/-- a look over all, where a turn may go on early -/
theorem rs_look2 {α : Type} {xs : List α} {f : α → Rp} {pos : Pos} {rest : List Stmt} {o o2 : Out} (q : α → Bool) (hi : RI Γ L E tg iter env xs f) (h : ∀ x, x ∈ xs → (q x = true → TurnR Γ L E tg body (fun _ : Unit => env) env (f x) (.on ())) ∧ (q x = false → LookT Γ L E tg body env (f x) false o)) (hr : xs.all q = true → RS Γ L E rest env o2) (ho : o.stops = true := by rfl)
    (hf : ∀ (en : Env) x, foldedSetIterable iter en x = pure x := by intro _ _; rfl) : RS Γ L E (.For tg iter body [] pos :: rest) env (if xs.all q then o2 else o) := by
  have good : ∀ x, x ∈ xs → q x = true → TurnR Γ L E tg body (fun _ : Unit => env) env (f x) (.on ()) := fun x hx hq => (h x hx).1 hq
  cases ha : xs.all q with
  | true =>
    rw [if_pos rfl]
    exact rs_cons (r1_allNx q ha hi good hf) (hr ha)
  | false =>
    rw [if_neg Bool.false_ne_true]
    cases o with
    | ret r =>
      exact rs_stop (r1_allRet q r ha hi good (fun x hx hq => by
        obtain ⟨js, e1, e2, hg, hb, l⟩ := (h x hx).2 hq
        rw [if_neg Bool.false_ne_true] at hb
        exact ⟨js, e1, hg, hb⟩) hf)
    | err k =>
      exact rs_stop (r1_allErr q k ha hi good (fun x hx hq => by
        obtain ⟨js, e1, e2, hg, hb, l⟩ := (h x hx).2 hq
        rw [if_neg Bool.false_ne_true] at hb
        exact ⟨js, e1, hg, hb⟩) hf)
    | nx e => cases ho
    | ct e => cases ho
/-- a for loop, the slots told by the count of turns -/
theorem run_upto {α : Type} : ∀ (xs : List α) (n : Nat), Stp.run (fun n (_ : α) => .on (n + 1)) xs n = .on (n + xs.length)
  | [], n => rfl
  | x :: xs, n => by
    unfold Stp.run
    show Stp.run _ xs (n + 1) = _
    rw [run_upto xs (n + 1), List.length_cons]
    congr 1
    omega
theorem r1_upto {α : Type} {xs : List α} {f : α → Rp} {pos : Pos} (S : Nat → List Sl) (he : env = S 0) (hi : RI Γ L E tg iter env xs f) (h : ∀ n x, xs[n]? = some x → TurnR Γ L E tg body (fun _ : Unit => S (n + 1)) (S n) (f x) (.on ()))
    (hf : ∀ (en : Env) x, foldedSetIterable iter en x = pure x := by intro _ _; rfl) : R1 Γ L E (.For tg iter body [] pos) env (.nx (S xs.length)) := by
  refine r1_run S (fun n (_ : α) => .on (n + 1)) (fun n b => b = n) 0 ?_ he rfl hi (fun n b x _ hn hb => ?_) hf
  · rw [run_upto, Nat.zero_add]; rfl
  · subst hb
    exact ⟨h b x hn, fun b' e => by cases e; rfl⟩
end
end Rl
/-! text RL14 -/
set_option Elab.async false
set_option linter.all false
set_option maxRecDepth 100000
set_option maxHeartbeats 4000000
namespace PySem
namespace NnX
open PySem.W PySem.Calls PyProof.Rows PySem.HandSPX
/-! ### the text of __init__ -/
def iA (p1 p2 : Pos) : Arguments := { posonlyargs := [], args := [{ arg := "self", annotation := none, pos := p1 }, { arg := "row", annotation := none, pos := p2 }], vararg := none, kwonlyargs := [], kw_defaults := [], kwarg := none, defaults := [] }
def iB (q1 q2 q3 q4 : Pos) : List Stmt := [.Assign [.Attribute (.Name "self" q1) "row" q2] (.Name "row" q3) q4]
def iS : Scope := { kind := .function, names := [(PySem.Str.ofString "self", .local), (PySem.Str.ofString "row", .local)], isGenerator := false, isCoroutine := false, more := [] }
/-- what the written part says of Low, at C, and of its __init__, at fI -/
structure NnTxt (K : Frag) (mg : Str → Option Value) (C fI : Addr) : Prop where
  gC : mg "NoName" = some (.ref C)
  cls : ∃ nm q N bs bm sn sub ab col dd k0 k1 k2 k3 k5, K.lookup C = some (excClassObj nm q C N bs bm true sn sub ab col dd k0 k1 k2 k3 k5 "ValueError.__new__") ∧ refsVE bm = true
  sa : findIn K (.ref C) "__setattr__" = some (some (.builtin "object.__setattr__"))
  ga : findIn K (.ref C) "__getattribute__" = some (some (.builtin "BaseException.__getattribute__"))
  gg : findIn K (.ref C) "__getattr__" = some none
  noN : findIn K (.ref C) "row" = some none
  iC : findIn K (.ref C) "__init__" = some (some (.ref fI))
  tC : typeIn K (.ref fI) = some (.type "function")
  kC : keepIn K (.ref C) = true
  exC : subIn K (.ref C) (.type "BaseException") = some true
  tyC : typeIn K (.ref C) = some (.type "type")
  hdC : hasDictIn K C = true
  te : exmOne K (.ref C) (.ref C) = some true
  fn : ∃ (oc : Value) (od : Option Addr) (doc pm : Value) (an : Option Addr) (cdv ct : Value) (osl : Array (Option Value)) (p1 p2 q1 q2 q3 q4 : Pos),
    K.lookup fI = some ⟨oc, od, .func (fnOf "__init__" "NoName.__init__" (iA p1 p2) (iB q1 q2 q3 q4) iS .none .none doc pm an cdv ct), osl⟩ ∧ codeIn K cdv "NoName.__init__" = true
theorem one_size (v : Value) : [v].length ≤ sizeLine := by
  rw [sizeLine_eq]
  exact (by decide : 1 ≤ 16777216)
theorem kept_but {K : Frag} {h h' : Heap} {x : Addr} (X : K.In h) (hx : K.lookup x = none) (k : ∀ b o, b ≠ x → h.get? b = some o → h'.get? b = some o) : K.In h' := fun a o e =>
  k a o (fun z => by rw [z, hx] at e; cases e) (X a o e)
theorem ldC {M : Model} {s : Shared} {name : Str} {scope : Scope} {L a : Addr} {cd : Value} {m : Str → Option Value} {x : Str} {pos : Pos} {v : Value} {Q : Value → Shared → Prop} {A : Around} {E : Value → Shared → Prop} (hn : s.heap.Ns L m) (hv : m x = some v) (h : Q v s)
    (hk : scope.kind = .function := by rfl) (hl : (envOfC name scope L a cd).kindOf x = some .local := by rfl) (hd : (x == ("__debug__" : Str)) = false := by decide) :
    wpAny M A (eval (.Name x pos) (envOfC name scope L a cd)) Q E s := wpAny_Name (wpAny_loadName_local hk hl hn hv h) hd
/-- what __init__ leaves of a fresh exception at x -/
structure InitEnd (h h' : Heap) (x C dx t1 : Addr) (v : Value) : Prop where
  keep : ∀ b o, b ≠ x → h.get? b = some o → h'.get? b = some o
  obj : h'.get? x = some { cls := .ref C, dict := some dx, data := .fields #[.ref t1, .none, .none, .none, .bool false, .none] }
  dbig : h.objs.size ≤ dx
  dne : dx ≠ x
  ns : h'.Ns1 dx (fun y => if y = "row" then some v else none)
/-- a made Low -/
structure OwnMade (h h' : Heap) (e C d : Addr) (v : Value) : Prop where
  keep : ∀ b o, h.get? b = some o → h'.get? b = some o
  new : h.objs.size ≤ e
  obj : ∃ oe vs, h'.get? e = some oe ∧ oe.cls = .ref C ∧ oe.dict = some d ∧ oe.data = .fields vs ∧ vs[1]? = some .none
  dbig : h.objs.size ≤ d
  dne : d ≠ e
  ns : h'.Ns1 d (fun y => if y = "row" then some v else none)
section
variable {prog : Program} {w : World} {A : Around} {E : Value → Shared → Prop} {R : Result → Shared → Prop} {s : Shared} {K : Frag} {mg : Str → Option Value} {C fI : Addr}
theorem nn_init (T : NnTxt K mg C fI) {x t0 : Addr} {v : Value} (X : K.In s.heap) (hlim : s.heap.NoLimit) (hx : s.heap.get? x = some (excO C t0)) (hnx : K.lookup x = none) (hroom : A.depth < recursionLimit)
    (hq : ∀ h' tk dx, InitEnd s.heap h' x C dx t0 v → R (.ok (.ret .none)) { s with heap := h', toks := tk }) :
    codeAny (model prog w) A (.call (.ref fI) ⟨[.ref x, v], []⟩) R s := by
  obtain ⟨oc, od, doc, pm, an, cdv, ct, osl, p1, p2, q1, q2, q3, q4, ho, hcd⟩ := T.fn
  obtain ⟨nm, q, N, bs, bm, sn, sub, ab, col, dd, k0, k1, k2, k3, k5, hC, hbm⟩ := T.cls
  have hcl : clsIn K C = some { name := nm, bases := bs, mro := .ref C :: bm, ns := N, qualname := q, hasDict := true, slotNames := sn, subclasses := sub, abstract := ab, collection := col, hasDel := false } := by unfold clsIn; rw [hC] <;> rfl
  refine Att.call_fn (binds := [("self", .ref x), ("row", v)]) X hlim ho hcd hroom (BindsTo.of_eq (by first | rfl | with_unfolding_all rfl)) (by first | rfl | decide | with_unfolding_all rfl) (fun s₁ IC => ?_) rfl rfl rfl
  obtain ⟨h₁, tk₁, rfl⟩ := IC.toInCall.same
  have k : ∀ b o, s.heap.get? b = some o → h₁.get? b = some o := IC.toInCall.keep
  have hn := IC.toInCall.ns
  have hxL : s.heap.objs.size ≠ x := Nat.ne_of_gt (Heap.lt_size hx)
  have X₁ : K.In h₁ := X.keeps k
  have hx₁ := k _ _ hx
  -- self.by = by
  show wpAny _ _ (execs _ _) _ _ _
  refine wpAny_execs_cons (plainObj_wpAny_Assign_Attribute ?_)
  refine ldC (v := v) hn (by first | rfl | with_unfolding_all rfl | kernel_rfl) (ldC (v := .ref x) hn (by first | rfl | with_unfolding_all rfl | kernel_rfl) ?_)
  refine set_plain X₁ (ox := excO C t0) (od := none) ⟨hx₁, rfl, rfl, trivial⟩ T.sa ?_
  refine exc_osa X₁ hx₁ hcl (show refsVE (.ref C :: bm) = true from hbm) rfl T.noN (fun h₃ tk₃ dx k₃ dn dne hx₃ hn₃ => ?_)
  show wpAny _ _ (execs _ _) _ _ _
  have z : s.heap.objs.size < h₁.objs.size := hn.lt
  exact wpAny_execs_nil (hq h₃ tk₃ dx ⟨fun b o hb e => k₃ b o hb (k b o e), hx₃, Nat.le_of_lt (Nat.lt_of_lt_of_le z dn), dne, hn₃⟩)
theorem nn_made (T : NnTxt K mg C fI) {v : Value} (X : K.In s.heap) (hlim : s.heap.NoLimit) (hroom : A.depth + 1 < recursionLimit)
    (hq : ∀ h' tk e d, OwnMade s.heap h' e C d v → R (.ok (.ret (.ref e))) { s with heap := h', toks := tk }) :
    codeAny (model prog w) A (.call (.ref C) ⟨[v], []⟩) R s := by
  obtain ⟨nm, q, N, bs, bm, sn, sub, ab, col, dd, k0, k1, k2, k3, k5, hC, hbm⟩ := T.cls
  obtain ⟨hp, g, dr, tk, os⟩ := s
  have k : ∀ b o, hp.get? b = some o → ((hp.push (kdv_tup [v])).push (excO C hp.objs.size)).get? b = some o := fun b o e => Heap.get?_push_of_some _ (Heap.get?_push_of_some _ e)
  have hget : ((hp.push (kdv_tup [v])).push (excO C hp.objs.size)).get? (hp.objs.size + 1) = some (excO C hp.objs.size) := by heap_get
  have hnx : K.lookup (hp.objs.size + 1) = none := by
    cases e : K.lookup (hp.objs.size + 1) with
    | none => rfl
    | some o =>
      have z : hp.get? (hp.objs.size + 1) = some o := X _ _ e
      exact absurd (Nat.lt_of_succ_lt (Heap.lt_size z)) (Nat.lt_irrefl _)
  refine call_own F.excBase_ValueError (fun X => refsVE_contains X bm hbm) (X _ _ hC) (looks_findIn X T.iC) (fun self => bind_fn X self T.tC) (one_size v) ?_
  refine nn_init (s := ⟨(hp.push (kdv_tup [v])).push (excO C hp.objs.size), g, dr, tk, os⟩) T (X.keeps k) (hlim.keeps k) hget hnx ?_ fun h' tk' dx ⟨k', hx, dn, dne, hns⟩ => ?_
  · show A.depth + 1 < recursionLimit
    exact hroom
  · have old : ∀ b o, hp.get? b = some o → h'.get? b = some o := fun b o e => k' b o (Nat.ne_of_lt (Nat.lt_succ_of_lt (Heap.lt_size e))) (k b o e)
    have z : hp.objs.size + 1 + 1 ≤ dx := by
      first
        | (simpa only [Heap.size_push] using dn)
        | exact dn
        | (have q := dn; rw [Heap.size_push, Heap.size_push] at q; exact q)
    exact ⟨rfl, hq h' tk' (hp.objs.size + 1) dx ⟨old, Nat.le_succ _, ⟨_, _, hx, rfl, rfl, rfl, rfl⟩, Nat.le_trans (Nat.le_trans (Nat.le_succ _) (Nat.le_succ _)) z, dne, hns⟩⟩
end
end NnX
end PySem
namespace L2
open PySem PySem.Spec PyProof.Rows
theorem relO_nn {v : V} {v' : Value} (r : RelV v v') (f : Str) : RelO (List.lookup f [(("row" : Str), v)]) (if f = "row" then some v' else none) := by
  by_cases hw : f = "row"
  · subst hw
    rw [if_pos rfl]
    have q : List.lookup ("row" : Str) [(("row" : Str), v)] = some v := by simp [List.lookup]
    rw [q]
    exact r
  · rw [if_neg hw]
    have qw : (f == ("row" : Str)) = false := by simpa using hw
    have q2 : List.lookup f [(("row" : Str), v)] = none := by simp [List.lookup, qw]
    rw [q2]
    trivial
section
variable {X : Cx} {C fI : Addr}
/-- Low(e) -/
def tMkNn (C : Addr) (ta : TA) : St → Hp → XK → Prop := fun σ H Q => ta σ H fun vs H1 => ∃ v, vs = [v] ∧ ∀ d, H1 d = none → Q (.ref C) (some d) (upd H1 d (.xd [(("row" : Str), v)]))
theorem pmk_nn {a : Expr} {ta : TA} {p pos : Pos} {k : Nat} (T : PySem.NnX.NnTxt X.K X.mg C fI) (hr : Room k X.A) (ha : PA X [a] ta) (hg : Gl X "NoName" := by rfl)
    (he : starEach (a :: []) X.env = (false, eval a X.env) :: starEach [] X.env := by rfl) (hpl : (backTo pos (starEach [] X.env)).any (·.1) = false := by rfl) :
    PMk X (.Call (.Name "NoName" p) [a] [] pos) (tMkNn C ta) := by
  intro pins s σ H Q I h
  refine wpAny_Call_Name_kw (ld_glob I hg T.gC ?_)
  refine PySem.W.callWith_K (h₀ := X.base) I.ok.mod.kin T.kC (thn (ha.run pos pins s σ H _ I h) fun us s1 hh => ?_) he hpl
  obtain ⟨vs, H1, I1, r1, v, ev, q1⟩ := hh
  subst ev
  refine ⟨I1.kIn, ?_⟩
  cases r1 with
  | cons rv rn =>
    rename_i v' us'
    cases rn
    show wpAny _ _ (call (.ref C) [v']) _ _ _
    have hlim := I1.nolimit
    obtain ⟨hp, g, dr, tk, os⟩ := s1
    refine wpAny_call (PySem.NnX.nn_made T I1.kIn hlim (by have := hr.dp; omega) fun h' tk' e d M => ?_)
    show MkP X pins σ Q (.ref e) ⟨h', g, dr, tk', os⟩
    obtain ⟨oe, fv, hoe, hc, hd, hdat, h1⟩ := M.obj
    have hns := M.ns
    obtain ⟨G', g1, g2⟩ := restrict h' fun b => decide (b ≠ e)
    have gk : ∀ b, b ≠ e → G'.get? b = h'.get? b := fun b hb => g1 b (decide_eq_true hb)
    have ge : G'.get? e = none := g2 e (by simp)
    have old : ∀ b o, hp.get? b = some o → G'.get? b = some o := fun b o q => (gk b (Nat.ne_of_lt (Nat.lt_of_lt_of_le (Heap.lt_size q) M.new))).trans (M.keep b o q)
    have ob : ObjOk X.prog X.w (upd H1 d (.xd [(("row" : Str), v)])) G' d (.xd [(("row" : Str), v)]) :=
      ⟨_, hns.at (fun o q => (gk d M.dne).trans q), fun f => relO_nn rv f⟩
    have J : Inv X pins σ (upd H1 d (.xd [(("row" : Str), v)])) ⟨G', g, dr, tk', os⟩ := I1.laid (t' := tk') old M.dbig ob
    refine ⟨e, oe, fv, ⟨G', g, dr, tk', os⟩, _, .ref C, some d, rfl, J, fun b o q => ?_, ge, hoe, ⟨hc, hd⟩, hdat, h1, ?_, rfl, I1.bare, raises_own T.exC T.tyC, q1 d (I1.hok.fresh M.dbig)⟩
    · by_cases hb : b = e
      · have q' : G'.get? b = some o := q
        rw [hb, ge] at q'; cases q'
      · exact (gk b hb).symm.trans q
    · rw [upd_ne (Ne.symm M.dne)]
      exact I1.hok.fresh M.new
/-- raise Low(e) -/
def tRaiseNn (C : Addr) (W : WX) (ta : TA) : TS := fun _ σ H => tMkNn C ta σ H fun cls d H' => W cls d σ H'
theorem ps_raiseNn {a : Expr} {ta : TA} {W : WX} {p pos pos2 : Pos} {k : Nat} (hc : X.calm = true) (T : PySem.NnX.NnTxt X.K X.mg C fI) (hr : Room k X.A) (tk : Takes X W) (ha : PA X [a] ta) (hg : Gl X "NoName" := by rfl)
    (he : starEach (a :: []) X.env = (false, eval a X.env) :: starEach [] X.env := by rfl) (hpl : (backTo pos (starEach [] X.env)).any (·.1) = false := by rfl) :
    PS X (.Raise (some (.Call (.Name "NoName" p) [a] [] pos)) none pos2) (tRaiseNn C W ta) := ps_raise hc tk (pmk_nn T hr ha hg he hpl)
end
end L2
namespace Rl
open PySem PySem.Spec PyProof.Rows L2
section
variable {Γ : Cg} {L : Lc} {E : Wc} {env : List Sl} {e : Expr} {pos p p2 : Pos} {r : Rp}
/-- an error of the class at C, whatever it carries -/
def xcA (C : Addr) : XC := ⟨.ref C, fun _ _ => True⟩
/-- raise NoName(e) -/
theorem r1_raiseNn {C fI : Addr} (T : PySem.NnX.NnTxt Γ.K Γ.mg C fI) (ha : RE Γ L E e env r) (hg : gloB L "NoName" = true := by decide +kernel) (hs : ∀ en : Env, starEach [e] en = (false, eval e en) :: starEach [] en := by intro _; rfl) :
    R1 Γ L E (.Raise (some (.Call (.Name "NoName" p) [e] [] pos)) none p2) env (.err (xcA C)) := by
  obtain ⟨t, h1, h2⟩ := ha
  refine ⟨tRaiseNn C (fun cls d _ H => E.xk cls d H) (tCons t tNil), fun X o => ps_raiseNn (k := E.k) o.calm (by rw [o.K, o.mg]; exact T) o.room o.takes (pa_cons (h1 X o) pa_nil (hs _)) (o.gl hg) (hs _) rfl, fun H0 B0 B H σ D k g q => h2 H0 B H σ _ k fun v B2 H2 g2 _ => ⟨v, rfl, fun d hd => q (some d) B2 (upd H2 d (.xd [(("row" : Str), v)])) ?_ trivial⟩⟩
  have g3 := g.trans g2
  exact ⟨g3.b, g3.i.trans (same_new hd _), g3.h.trans (same_new hd _), g3.f⟩
end
end Rl
/-! text RL15 -/
set_option Elab.async false
set_option linter.all false
set_option maxRecDepth 100000
set_option maxHeartbeats 4000000
namespace Rl
open PySem PySem.Spec PyProof.Rows L2
/-! ### things that are changed in depth: told beside the slots -/
structure Pd where
  ok : Hp → Hp → Hp → Prop
  grow : ∀ {H0 B H B2 H2 : Hp}, Grow B H B2 H2 → ok H0 B H → ok H0 B2 H2
/-- an own object at a -/
def OwnAt (H0 B H : Hp) (a : Addr) (o : HO) : Prop := H a = some o ∧ B a = none ∧ H0 a = none
theorem OwnAt.grow {H0 B H B2 H2 : Hp} (g : Grow B H B2 H2) {a : Addr} {o : HO} (h : OwnAt H0 B H a o) : OwnAt H0 B2 H2 a o := ⟨g.h _ _ h.1, g.acc h.1 h.2.1, h.2.2⟩
theorem OwnAt.upd_ne {H0 B H : Hp} {a b : Addr} {o u : HO} (h : OwnAt H0 B H a o) (hb : a ≠ b) : OwnAt H0 B (upd H b u) a o := ⟨by rw [L2.upd_ne hb]; exact h.1, h.2.1, h.2.2⟩
theorem OwnAt.upd {H0 B H : Hp} {a : Addr} {o u : HO} (h : OwnAt H0 B H a o) : OwnAt H0 B (upd H a u) a u := ⟨upd_same, h.2.1, h.2.2⟩
def noAB (env : List Sl) : Bool := env.all fun s => !s.isA
theorem noAB_at {env : List Sl} (h : noAB env = true) {i : Nat} {s : Sl} (e : env[i]? = some s) : s.isA = false := by
  have := List.all_eq_true.mp h s (List.mem_of_getElem? e)
  simpa using this
theorem noAcc {env : List Sl} (h : noAB env = true) {σ : L2.St} {i : Nat} {p : Addr} (a : AccAt σ env i p) : False := by
  obtain ⟨⟨s, e, z⟩, _⟩ := a
  rw [noAB_at h e] at z
  cases z
/-- with no own slots only the sure part counts -/
theorem Sok.move {H0 B H H0' B2 H2 : Hp} {σ : L2.St} {env : List Sl} (s : Sok H0 B H σ env) (hn : noAB env = true) (b : Same B B2) (i : Same B2 H2) (h : Same H0' H2) : Sok H0' B2 H2 σ env := by
  refine ⟨i, h, s.len, fun j x e => ?_, fun _ _ _ ha _ => (noAcc hn ha).elim⟩
  have y := s.sl j x e
  have z := noAB_at hn e
  cases x with
  | no => cases σ[j]?.join <;> trivial
  | dat r =>
    cases w : σ[j]?.join with
    | none => rw [w] at y; exact y.elim
    | some u => rw [w] at y; exact r.mono b y
  | aL rs => cases z
  | aD rs => cases z
/-- only the frame is known -/
theorem Grow.frame {B H0 H B2 H2 : Hp} (g : Grow B H B2 H2) (e : Same H0 H) : Grow B H0 B2 H2 := ⟨g.b, g.i, e.trans g.h, fun a q => (g.f a q).imp id fun z => e.free z⟩
theorem Grow.mut2 {B H0 B2 H2 : Hp} (g : Grow B H0 B2 H2) {p : Addr} {o : HO} (hB : B2 p = none) (hH : H0 p = none) : Grow B H0 B2 (upd H2 p o) := g.mut hB hH
section
variable (Γ : Cg) (L : Lc) (E : Wc)
/-- an expression: what it gives, what is told of the changed behind it -/
def QE (e : Expr) (env : List Sl) (P : Pd) (r : Rp) (P2 : Pd) : Prop :=
  ∃ t : TE, (∀ X, Ok Γ L E X → PE X e t) ∧ ∀ (H0 B H : Hp) (σ : L2.St) (Q : VK), Sok H0 B H σ env → P.ok H0 B H → (∀ v B2 H2, Grow B H0 B2 H2 → P2.ok H0 B2 H2 → r.ok B2 v → Q v H2) → t σ H Q
def QA (es : List Expr) (env : List Sl) (P : Pd) (rs : List Rp) (P2 : Pd) : Prop :=
  ∃ t : TA, (∀ X, Ok Γ L E X → PA X es t) ∧ ∀ (H0 B H : Hp) (σ : L2.St) (Q : List V → Hp → Prop), Sok H0 B H σ env → P.ok H0 B H → (∀ vs B2 H2, Grow B H0 B2 H2 → P2.ok H0 B2 H2 → Oks B2 rs vs → Q vs H2) → t σ H Q
def QT (e : Expr) (env : List Sl) (P : Pd) (b : Bool) : Prop :=
  ∃ t : TT, (∀ X, Ok Γ L E X → PT X e t) ∧ ∀ (H0 B H : Hp) (σ : L2.St) (Q : Bool → Hp → Prop), Sok H0 B H σ env → P.ok H0 B H → (∀ B2 H2, Grow B H0 B2 H2 → P.ok H0 B2 H2 → Q b H2) → t σ H Q
end
inductive OutQ where
  | nx (env : List Sl) (P : Pd)
  | ret (r : Rp) (P : Pd)
def OutQOk (o : OutQ) (H0 B0 : Hp) (D : Ends) : Prop := match o with
  | .nx env P => ∀ σ B H, Sok H0 B H σ env → P.ok H0 B H → Grow B0 H0 B H → D.nx σ H
  | .ret r P => ∀ v B H, Grow B0 H0 B H → P.ok H0 B H → r.ok B v → D.rt v H
def OutQ.end_ : OutQ → Bool
  | .nx _ _ => false
  | .ret _ _ => true
def Q1 (Γ : Cg) (L : Lc) (E : Wc) (s : Stmt) (env : List Sl) (P : Pd) (o : OutQ) : Prop :=
  ∃ t : TS, (∀ X, Ok Γ L E X → PS X s t) ∧ ∀ (H0 B0 B H : Hp) (σ : L2.St) (D : Ends), Sok H0 B H σ env → P.ok H0 B H → Grow B0 H0 B H → OutQOk o H0 B0 D → t D σ H
def QS (Γ : Cg) (L : Lc) (E : Wc) (s : List Stmt) (env : List Sl) (P : Pd) (o : OutQ) : Prop :=
  ∃ t : TS, (∀ X, Ok Γ L E X → PSs X s t) ∧ ∀ (H0 B0 B H : Hp) (σ : L2.St) (D : Ends), Sok H0 B H σ env → P.ok H0 B H → Grow B0 H0 B H → OutQOk o H0 B0 D → t D σ H
section
variable {Γ : Cg} {L : Lc} {E : Wc} {env env1 env2 : List Sl} {e a b c tg iter elt : Expr} {es : List Expr} {pos p pos' apos : Pos} {r ra rb rc : Rp} {rs : List Rp} {s : Stmt} {rest ss A Bs : List Stmt} {o : OutQ} {P P1 P2 P3 : Pd}
theorem qe_of (h : RE Γ L E e env r) : QE Γ L E e env P r P := by
  obtain ⟨t, h1, h2⟩ := h
  exact ⟨t, h1, fun H0 B H σ Q s p q => h2 H0 B H σ Q s fun v B2 H2 g k => q v B2 H2 (g.frame s.e0) (P.grow g p) k⟩
theorem qt_of {k : Bool} (h : RT Γ L E e env k) : QT Γ L E e env P k := by
  obtain ⟨t, h1, h2⟩ := h
  exact ⟨t, h1, fun H0 B H σ Q s p q => h2 H0 B H σ Q s fun B2 H2 g => q B2 H2 (g.frame s.e0) (P.grow g p)⟩
/-- the changed is looked at: a flat value is told -/
def View (env : List Sl) (P : Pd) (env' : List Sl) : Prop := ∀ (H0 B H : Hp) (σ : L2.St), Sok H0 B H σ env → P.ok H0 B H → Sok H H H σ env'
theorem qe_look {v : V} (w : View env P env1) (h : RE Γ L E e env1 (rV v)) : QE Γ L E e env P (rV v) P := by
  obtain ⟨t, h1, h2⟩ := h
  refine ⟨t, h1, fun H0 B H σ Q s p q => h2 H H H σ Q (w H0 B H σ s p) fun u B2 H2 g k => ?_⟩
  have g2 : Grow B H B H2 := Grow.stay s.ex g.h
  exact q u B H2 (g2.frame s.e0) (P.grow g2 p) k
theorem qt_look {k : Bool} (w : View env P env1) (h : RT Γ L E e env1 k) : QT Γ L E e env P k := by
  obtain ⟨t, h1, h2⟩ := h
  refine ⟨t, h1, fun H0 B H σ Q s p q => h2 H H H σ Q (w H0 B H σ s p) fun B2 H2 g => ?_⟩
  have g2 : Grow B H B H2 := Grow.stay s.ex g.h
  exact q B H2 (g2.frame s.e0) (P.grow g2 p)
theorem qa_nil : QA Γ L E [] env P [] P := ⟨tNil, fun X o => pa_nil, fun H0 B H σ Q s p q => q [] B H ((Grow.refl s.ex).frame s.e0) p trivial⟩
theorem qa_cons (hn : noAB env = true) (ha : QE Γ L E e env P r P1) (hr : QA Γ L E es env P1 rs P2) (hs : ∀ en : Env, starEach (e :: es) en = (false, eval e en) :: starEach es en := by intro _; rfl) : QA Γ L E (e :: es) env P (r :: rs) P2 := by
  obtain ⟨ta, a1, a2⟩ := ha
  obtain ⟨tr, r1, r2⟩ := hr
  exact ⟨tCons ta tr, fun X o => pa_cons (a1 X o) (r1 X o) (hs _), fun H0 B H σ Q s p q => a2 H0 B H σ _ s p fun v B2 H2 g p1 k => r2 H0 B2 H2 σ _ (s.move hn g.b g.i g.h) p1 fun vs B3 H3 g2 p2 k2 => q _ B3 H3 (g.trans0 g2) p2 ⟨r.mono g2.b k, k2⟩⟩
theorem qe_tup {x1} (h : QA Γ L E es env P rs P2) (hl : rs.length ≤ sizeLine := by exact Nat.le_of_ble_eq_true rfl) : QE Γ L E (.Tuple es x1 pos) env P (rT rs) P2 := by
  obtain ⟨t, h1, h2⟩ := h
  exact ⟨tTup t, fun X o => pe_tup (h1 X o), fun H0 B H σ Q s p q => h2 H0 B H σ _ s p fun vs B2 H2 g p2 k => ⟨by rw [k.length]; exact hl, fun l hl2 => by
    have g2 : Grow B2 H2 (upd B2 l (.tup vs)) (upd H2 l (.tup vs)) := Grow.new g.i hl2 _
    exact q _ (upd B2 l (.tup vs)) _ (g.trans0 (g2.frame g.h)) (P2.grow g2 p2) ⟨l, vs, rfl, upd_same, k.mono (same_new (g.i.free hl2) _)⟩⟩⟩
/-- a call of a def that changes nothing -/
theorem qe_call {α : Type} {pre : α → Prop} {pf : α → List Rp} {res : α → Rp} {j : Nat} {x : Str} {ps : List Str} (F : Fn0 Γ j x ps (Sp0 pre pf res)) (y : α) (hy : pre y) (ha : QA Γ L E (e :: es) env P (pf y) P2) (hj : j ≤ E.k := by exact Nat.le_of_ble_eq_true rfl)
    (hg : gloB L x = true := by decide +kernel) (hs : ∀ en : Env, starEach (e :: es) en = (false, eval e en) :: starEach es en := by intro _; rfl) (hp : ∀ (q : Pos) (en : Env), (backTo q (starEach es en)).any (·.1) = false := by intro _ _; rfl) :
    QE Γ L E (.Call (.Name x p) (e :: es) [] pos) env P (res y) P2 := by
  obtain ⟨t, h1, h2⟩ := ha
  refine ⟨tCall _ [] E0 t, fun X o => pe_fn0 F hj hg o (h1 X o) hs hp, fun H0 B H σ Q s p1 q => h2 H0 B H σ _ s p1 fun vs B2 H2 g p2 k => ?_⟩
  rw [List.append_nil]
  exact ⟨y, B2, hy, g.i, k, fun v B3 H3 g2 k2 => q v B3 H3 (g.trans0 (g2.frame g.h)) (P2.grow g2 p2) k2⟩
/-! statements -/
theorem qs_nil : QS Γ L E [] env P (.nx env P) := ⟨tNext, fun X o => pss_nil, fun H0 B0 B H σ D k p g q => q σ B H k p g⟩
theorem qs_nilw (l : envLeB env env1) : QS Γ L E [] env P (.nx env1 P) := ⟨tNext, fun X o => pss_nil, fun H0 B0 B H σ D k p g q => q σ B H (k.weak (EnvLe.of l)) p g⟩
theorem qs_cons (h : Q1 Γ L E s env P (.nx env1 P1)) (hr : QS Γ L E rest env1 P1 o) : QS Γ L E (s :: rest) env P o := by
  obtain ⟨t, h1, h2⟩ := h
  obtain ⟨u, r1, r2⟩ := hr
  exact ⟨tSeq t u, fun X k => pss_cons (h1 X k) (r1 X k), fun H0 B0 B H σ D k p g q => h2 H0 B0 B H σ _ k p g fun σ2 B2 H2 k2 p2 g2 => r2 H0 B0 B2 H2 σ2 D k2 p2 g2 q⟩
theorem qs_one (h : Q1 Γ L E s env P o) : QS Γ L E [s] env P o := by
  obtain ⟨t, h1, h2⟩ := h
  exact ⟨t, fun X k => pss_one (h1 X k), h2⟩
theorem qs_stop (h : Q1 Γ L E s env P o) (ho : o.end_ = true := by rfl) : QS Γ L E (s :: rest) env P o := by
  obtain ⟨t, h1, h2⟩ := h
  refine ⟨tSeq t fun _ _ _ => False, fun X k => pss_cons (h1 X k) (no_ps X _), fun H0 B0 B H σ D k p g q => h2 H0 B0 B H σ _ k p g ?_⟩
  cases o with
  | nx e P => cases ho
  | ret r P => exact q
theorem qs_weak (l : envLeB env env1) (h : QS Γ L E ss env1 P o) : QS Γ L E ss env P o := by
  obtain ⟨t, h1, h2⟩ := h
  exact ⟨t, h1, fun H0 B0 B H σ D k p g q => h2 H0 B0 B H σ D (k.weak (EnvLe.of l)) p g q⟩
/-- a statement that changes only slots -/
theorem q1_of (h : R1 Γ L E s env (.nx env2)) (hn : noAB env = true := by rfl) : Q1 Γ L E s env P (.nx env2 P) := by
  obtain ⟨t, h1, h2⟩ := h
  refine ⟨t, h1, fun H0 B0 B H σ D k p g q => h2 H B B H σ D (k.move hn (Same.refl _) k.ex (Same.refl _)) (Grow.refl k.ex) fun σ2 B2 H2 k2 g2 => ?_⟩
  have k3 : Sok H0 B2 H2 σ2 env2 := ⟨k2.ex, k.e0.trans k2.e0, k2.len, fun i x z => by
    have y := k2.sl i x z
    cases x with
    | no => cases σ2[i]?.join <;> trivial
    | dat r =>
      cases w : σ2[i]?.join with
      | none => rw [w] at y; exact y.elim
      | some u => rw [w] at y; exact y
    | aL rs =>
      cases w : σ2[i]?.join with
      | none => rw [w] at y; exact y.elim
      | some u =>
        rw [w] at y
        obtain ⟨q1, vs, b1, b2, b3, b4, b5⟩ := y
        exact ⟨q1, vs, b1, b2, b3, k.e0.free b4, b5⟩
    | aD rs =>
      cases w : σ2[i]?.join with
      | none => rw [w] at y; exact y.elim
      | some u =>
        rw [w] at y
        obtain ⟨q1, vs, b1, b2, b3, b4, b5⟩ := y
        exact ⟨q1, vs, b1, b2, b3, k.e0.free b4, b5⟩, k2.ap⟩
  exact q σ2 B2 H2 k3 (P.grow g2 p) (g.trans0 (g2.frame k.e0))
theorem q1_set (i : Nat) {x : Str} (hn : noAB env = true) (he : QE Γ L E e env P r P2) (hb : stoB L i x = true := by decide +kernel) (hs : ∀ en : Env, swapsWithSole [.Name x p] e pos.line en = pure false := by intro _; rfl) (hw : ∀ en : Env, swappedStores [.Name x p] e en = pure none := by intro _; rfl)
    (h1 : ∀ en : Env, (assignEach [.Name x p] en).map (·.2) = [assign (.Name x p) en] := by intro _; rfl) : Q1 Γ L E (.Assign [.Name x p] e pos) env P (.nx (env.set i (.dat r)) P2) := by
  obtain ⟨t, e1, e2⟩ := he
  obtain ⟨g, g1, g2⟩ := rg_name (Γ := Γ) (E := E) (env := env) (r := r) (pos := p) i hb
  exact ⟨tAsg t g, fun X k => ps_asg (e1 X k) (g1 X k) (hs _) (hw _) (h1 _), fun H0 B0 B H σ D k p gr q => e2 H0 B H σ _ k p fun v B2 H2 gr2 p2 o => g2 H0 B2 H2 σ v _ (k.move hn gr2.b gr2.i gr2.h) o fun σ' k' _ _ => q σ' B2 H2 k' p2 (gr.trans0 gr2)⟩
theorem q1_ret (h : QE Γ L E e env P r P2) : Q1 Γ L E (.Return (some e) pos) env P (.ret r P2) := by
  obtain ⟨t, h1, h2⟩ := h
  exact ⟨tRet t, fun X k => ps_ret (h1 X k), fun H0 B0 B H σ D k p g q => h2 H0 B H σ _ k p fun v B2 H2 g2 p2 o => q v B2 H2 (g.trans0 g2) p2 o⟩
theorem q1_expr (hn : noAB env = true) (he : QE Γ L E e env P r P2) (hs : ∀ en : Env, swapsWith e none pos.line en = pure false := by intro _; rfl) : Q1 Γ L E (.Expr e pos) env P (.nx env P2) := by
  obtain ⟨t, h1, h2⟩ := he
  exact ⟨tDrop t, fun X k => ps_expr (h1 X k) (hs _), fun H0 B0 B H σ D k p g q => h2 H0 B H σ _ k p fun v B2 H2 g2 p2 _ => q σ B2 H2 (k.move hn g2.b g2.i g2.h) p2 (g.trans0 g2)⟩
theorem q1_if {k : Bool} (hn : noAB env = true) (hc : QT Γ L E c env P k) (h1 : k = true → QS Γ L E A env P o) (h2 : k = false → QS Γ L E Bs env P o) : Q1 Γ L E (.If c A Bs pos) env P o := by
  obtain ⟨t, c1, c2⟩ := hc
  cases k with
  | true =>
    obtain ⟨u, a1, a2⟩ := h1 rfl
    refine ⟨tIfS t u fun _ _ _ => False, fun X k => ps_if (c1 X k) (a1 X k) (no_ps X _), fun H0 B0 B H σ D k p g q => c2 H0 B H σ _ k p fun B2 H2 g2 p2 => ?_⟩
    rw [if_pos rfl]
    exact a2 H0 B0 B2 H2 σ D (k.move hn g2.b g2.i g2.h) p2 (g.trans0 g2) q
  | false =>
    obtain ⟨u, a1, a2⟩ := h2 rfl
    refine ⟨tIfS t (fun _ _ _ => False) u, fun X k => ps_if (c1 X k) (no_ps X _) (a1 X k), fun H0 B0 B H σ D k p g q => c2 H0 B H σ _ k p fun B2 H2 g2 p2 => ?_⟩
    rw [if_neg Bool.false_ne_true]
    exact a2 H0 B0 B2 H2 σ D (k.move hn g2.b g2.i g2.h) p2 (g.trans0 g2) q
/-- o.append(e): o is the own list at l -/
theorem q1_append {cpos : Pos} {l : Addr} (hn : noAB env = true) (ho : QE Γ L E a env P (rV (.ref l)) P) (he : QE Γ L E e env P r P1)
    (hm : ∀ (H0 B H : Hp) (v : V), P1.ok H0 B H → r.ok B v → ∃ vs, OwnAt H0 B H l (.lst vs) ∧ vs.length < sizeLine ∧ P2.ok H0 B (upd H l (.lst (vs ++ [v]))))
    (hl : ∀ (H0 B H : Hp), P.ok H0 B H → ∃ vs, H l = some (.lst vs)) (hbase : ∀ en : Env, attributeBase a "append" en (eval a en) = eval a en := by intro _; rfl) (hs : ∀ en : Env, starEach [e] en = (false, eval e en) :: starEach [] en := by intro _; rfl) (hline : (apos.endLine == cpos.line) = true := by rfl) 
    (hfew : ∀ en : Env, ((backTo cpos (starEach [e] en)).all (fun x => !x.1) && (backToKw cpos (keywordEach [] en)).all (fun x => x.1.isSome)
      && decide (([e] : List Expr).length + ([] : List Keyword).length + (if ([] : List Keyword).isEmpty then 0 else 1) < 30)) = true := by intro _; rfl) (hsw : ∀ en : Env, swapsWith (.Call (.Attribute a "append" apos) [e] [] cpos) none pos.line en = pure false := by intro _; rfl) :
    Q1 Γ L E (.Expr (.Call (.Attribute a "append" apos) [e] [] cpos) pos) env P (.nx env P2) := by
  obtain ⟨ta, a1, a2⟩ := ho
  obtain ⟨t, e1, e2⟩ := he
  refine ⟨tDrop (tBM Γ.K "list" rAppend ta (tCons t tNil)), fun X k => ps_expr (by have z := pe_bm (X := X) (cpos := cpos) (apos := apos) PySem.F.plainAttrs_list PySem.F.slot_list_append PySem.F.type_list_append mt_append (a1 X k) (pa_cons (e1 X k) pa_nil (hs _)) (hbase _) (hfew _) hline (hs _) rfl; rw [k.K] at z; exact z) (hsw _), fun H0 B0 B H σ D k p g q => a2 H0 B H σ _ k p fun u B1 H1 g1 p1 hu => ?_⟩
  have hu : u = .ref l := hu
  subst hu
  obtain ⟨vs0, hv0⟩ := hl _ _ _ p1
  refine ⟨.inl ⟨rfl, vs0, SqL.of hv0⟩, e2 H0 B1 H1 σ _ (k.move hn g1.b g1.i g1.h) p1 fun v B2 H2 g2 p2 o => ?_⟩
  obtain ⟨vs, ow, hz, p3⟩ := hm H0 B2 H2 v p2 o
  have gg := (g1.trans0 g2).mut2 (o := .lst (vs ++ [v])) ow.2.1 ow.2.2
  exact ⟨l, vs, v, rfl, rfl, ow.1, hz, q σ B2 _ (k.move hn gg.b gg.i gg.h) p3 (g.trans0 gg)⟩
/-- o[i] = e: o is the own list at l -/
theorem q1_setAt {l : Addr} {n : Int} (hn : noAB env = true) (he : QE Γ L E e env P r P1) (ho : QE Γ L E a env P1 (rV (.ref l)) P1) (hb : QE Γ L E b env P1 (rI n) P1)
    (hm : ∀ (H0 B H : Hp) (v : V), P1.ok H0 B H → r.ok B v → ∃ (vs : List V) (j : Nat), OwnAt H0 B H l (.lst vs) ∧ ixN vs.length n = some j ∧ P2.ok H0 B (upd H l (.lst (vs.set j v))))
    (hs : ∀ en : Env, swapsWithSole [.Subscript a b pos'] e pos.line en = pure false := by intro _; rfl) (hw : ∀ en : Env, swappedStores [.Subscript a b pos'] e en = pure none := by intro _; rfl)
    (h1 : ∀ en : Env, (assignEach [.Subscript a b pos'] en).map (·.2) = [assign (.Subscript a b pos') en] := by intro _; rfl)
    (ha : ∀ (en : Env) v, assign (.Subscript a b pos') en v = (do
      let ov ← holding [v] (eval a en)
      let iv ← holding [v, ov] (eval b en)
      standAt pos'
      holding [v, ov, iv] (setItem ov iv v)
      release [v, ov, iv] []) := by intro _ _; rfl) :
    Q1 Γ L E (.Assign [.Subscript a b pos'] e pos) env P (.nx env P2) := by
  obtain ⟨t, e1, e2⟩ := he
  obtain ⟨ta, a1, a2⟩ := ho
  obtain ⟨tb, b1, b2⟩ := hb
  refine ⟨tAsg t (gSub ta tb rSetL), fun X k => ps_asg (e1 X k) (pg_sub (a1 X k) (b1 X k) set_list (ha _)) (hs _) (hw _) (h1 _), fun H0 B0 B H σ D k p g q => e2 H0 B H σ _ k p fun v B1 H1 g1 p1 ov => ?_⟩
  have k1 := k.move hn g1.b g1.i g1.h
  refine a2 H0 B1 H1 σ _ k1 p1 fun u B2 H2 g2 p2 hu => ?_
  have hu : u = .ref l := hu
  subst hu
  have k2 := k1.move hn g2.b g2.i g2.h
  refine b2 H0 B2 H2 σ _ k2 p2 fun w B3 H3 g3 p3 hw => ?_
  have hw : w = .int n := hw
  subst hw
  obtain ⟨vs, j, ow, hj, p4⟩ := hm H0 B3 H3 v p3 (r.mono (g2.b.trans g3.b) ov)
  have gg := ((g1.trans0 g2).trans0 g3).mut2 (o := .lst (vs.set j v)) ow.2.1 ow.2.2
  exact ⟨l, vs, n, j, rfl, rfl, ow.1, hj, q σ B3 _ (k.move hn gg.b gg.i gg.h) p4 (g.trans0 gg)⟩
/-- o.f = e: o is the own instance at l -/
theorem q1_fld {l C : Addr} {f : Str} (hC : Cls Γ.K C) (hf : NoAttr Γ.K C f) (hn : noAB env = true) (he : QE Γ L E e env P r P1) (ho : QE Γ L E a env P1 (rV (.ref l)) P1)
    (hm : ∀ (H0 B H : Hp) (v : V), P1.ok H0 B H → r.ok B v → ∃ (dx : Addr) (fs : List (Str × V)), OwnAt H0 B H l (.ins C dx fs) ∧ fs.length < 1000 ∧ P2.ok H0 B (upd H l (.ins C dx (putF f v fs))))
    (hs : ∀ en : Env, swapsWith e (some (.Attribute a f pos')) pos.line en = pure false := by intro _; rfl) : Q1 Γ L E (.Assign [.Attribute a f pos'] e pos) env P (.nx env P2) := by
  obtain ⟨t, e1, e2⟩ := he
  obtain ⟨ta, a1, a2⟩ := ho
  refine ⟨sFld Γ.K ta t f, fun X k => by have z := ps_fld (X := X) (f := f) (pos := pos) (pos' := pos') (a1 X k) (e1 X k) (hs _); rw [k.K] at z; exact z, fun H0 B0 B H σ D k p g q => e2 H0 B H σ _ k p fun v B1 H1 g1 p1 ov => ?_⟩
  have k1 := k.move hn g1.b g1.i g1.h
  refine a2 H0 B1 H1 σ _ k1 p1 fun u B2 H2 g2 p2 hu => ?_
  have hu : u = .ref l := hu
  subst hu
  obtain ⟨dx, fs, ow, hl, p4⟩ := hm H0 B2 H2 v p2 (r.mono g2.b ov)
  have gg := (g1.trans0 g2).mut2 (o := .ins C dx (putF f v fs)) ow.2.1 ow.2.2
  exact ⟨l, C, dx, fs, rfl, ow.1, hC, hf, hl, q σ B2 _ (k.move hn gg.b gg.i gg.h) p4 (g.trans0 gg)⟩
/-- other facts of the changed -/
theorem qs_pd (h : ∀ H0 B H, P.ok H0 B H → P1.ok H0 B H) (hs : QS Γ L E ss env P1 o) : QS Γ L E ss env P o := by
  obtain ⟨t, h1, h2⟩ := hs
  exact ⟨t, h1, fun H0 B0 B H σ D k p g q => h2 H0 B0 B H σ D k (h _ _ _ p) g q⟩
/-! defs that change what they are given -/
def SpQ {α : Type} (pre : α → Prop) (pf : α → List Rp) (Pi : α → Pd) (res : α → Rp) (Po : α → Pd) : Sp := fun vs H Q _ =>
  ∃ (x : α) (H0 B : Hp), pre x ∧ Same B H ∧ Same H0 H ∧ Oks B (pf x) vs ∧ (Pi x).ok H0 B H ∧ ∀ v B2 H2, Grow B H0 B2 H2 → (Po x).ok H0 B2 H2 → (res x).ok B2 v → Q v H2
theorem noAB_start (rs : List Rp) (n : Nat) : noAB (rs.map Sl.dat ++ List.replicate n Sl.no) = true := by
  refine List.all_eq_true.mpr fun s hs => ?_
  rcases List.mem_append.mp hs with z | z
  · obtain ⟨r, _, e⟩ := List.mem_map.mp z
    subst e
    rfl
  · rw [(List.mem_replicate.mp z).2]; rfl
def RetQ (o : OutQ) (r : Rp) (P : Pd) : Prop := match o with
  | .ret a Q => a = r ∧ ∀ H0 B H, Q.ok H0 B H → P.ok H0 B H
  | .nx _ Q => r = rN ∧ ∀ H0 B H, Q.ok H0 B H → P.ok H0 B H
theorem defQ {st : Stmt} {x : Str} {ps : List Str} {α : Type} {pre : α → Prop} {pf : α → List Rp} {Pi Po : α → Pd} {res : α → Rp} (k : Nat) (L : Lc) (D : DefAt Γ x st ps) (S : FnScope L.N ps (defScope st)) (hsc : L.sc = defScope st) (hdf : L.df = true) (hl : ∀ y, (pf y).length = ps.length)
    (hb : ∀ y, pre y → ∃ o, RetQ o (res y) (Po y) ∧ QS Γ L ⟨E0, k⟩ (defBody st) (envOf L (pf y)) (Pi y) o) : Fn0 Γ (k + 1) x ps (SpQ pre pf Pi res Po) := by
  obtain ⟨f, fd, F, hm, hbd⟩ := D.ex
  refine ⟨f, fd, hm, F.kp, hbd, F.ok S (fun vs H Q E ⟨y, H0, B, _, _, _, ho, _⟩ => by rw [ho.length, hl]) (fun cdv A outer s H vs Q E hr ⟨y, H0, B, hy, hB, hH, ho, hp, q⟩ => ?_)⟩
  obtain ⟨o, hro, t, h1, h2⟩ := hb y hy
  refine ⟨t, h1 _ ⟨rfl, rfl, rfl, rfl, rfl, hr, rfl, S.nd, hsc.symm, rfl, fun _ _ => rfl, PassesOwn.never, takes0, fun _ => ⟨rfl, rfl⟩⟩, h2 H0 B B H _ _ ((sok_start hB ho (by rfl)).move (noAB_start _ _) (Same.refl _) hB hH) hp ((Grow.refl hB).frame hH) ?_⟩
  cases o with
  | ret r P =>
    obtain ⟨e, hP⟩ := hro
    subst e
    exact fun v B2 H2 g p k => q v B2 H2 g (hP _ _ _ p) k
  | nx e P =>
    obtain ⟨e, hP⟩ := hro
    rw [e] at q
    exact fun σ B2 H2 _ p g => q _ B2 H2 g (hP _ _ _ p) rfl
theorem qe_callQ {α : Type} {pre : α → Prop} {pf : α → List Rp} {Pi Po : α → Pd} {res : α → Rp} {j : Nat} {x : Str} {ps : List Str} (F : Fn0 Γ j x ps (SpQ pre pf Pi res Po)) (y : α) (hy : pre y) (ha : QA Γ L E (e :: es) env P (pf y) P1) (hPi : ∀ H0 B H, P1.ok H0 B H → (Pi y).ok H0 B H) (hPo : ∀ H0 B H, (Po y).ok H0 B H → P2.ok H0 B H) (hj : j ≤ E.k := by exact Nat.le_of_ble_eq_true rfl)
    (hg : gloB L x = true := by decide +kernel) (hs : ∀ en : Env, starEach (e :: es) en = (false, eval e en) :: starEach es en := by intro _; rfl) (hp : ∀ (q : Pos) (en : Env), (backTo q (starEach es en)).any (·.1) = false := by intro _ _; rfl) :
    QE Γ L E (.Call (.Name x p) (e :: es) [] pos) env P (res y) P2 := by
  obtain ⟨t, h1, h2⟩ := ha
  refine ⟨tCall _ [] E0 t, fun X o => pe_fn0 F hj hg o (h1 X o) hs hp, fun H0 B H σ Q s p1 q => h2 H0 B H σ _ s p1 fun vs B2 H2 g p2 k => ?_⟩
  rw [List.append_nil]
  exact ⟨y, H0, B2, hy, g.i, g.h, k, hPi _ _ _ p2, fun v B3 H3 g2 p3 k2 => q v B3 H3 (g.trans0 g2) (hPo _ _ _ p3) k2⟩
end
theorem fnq_0 {Γ : Cg} {α : Type} {pre : α → Prop} {pf : α → List Rp} {res : α → Rp} {j : Nat} {x : Str} {ps : List Str} {Pi Po : α → Pd} (F : Fn0 Γ j x ps (SpQ pre pf Pi res Po)) (h : ∀ y H0 B H, (Pi y).ok H0 B H := by intros; trivial) : Fn0 Γ j x ps (Sp0 pre pf res) := by
  obtain ⟨f, fd, h1, h2, h3, h4⟩ := F.ex
  exact ⟨f, fd, h1, h2, h3, h4.imp fun vs H Q E ⟨y, B, hy, hB, ho, q⟩ => ⟨y, H, B, hy, hB, Same.refl _, ho, h y H B H, fun v B2 H2 g _ k => q v B2 H2 g k⟩⟩
/-! ### a class that is called -/
section
variable {Γ : Cg} {L : Lc} {E : Wc} {env : List Sl} {e : Expr} {es : List Expr} {pos p : Pos} {rs : List Rp}
/-- the new instance that __init__ fills -/
def pIns (x C : Addr) (rs : List (Str × Rp)) : Pd := ⟨fun H0 B H => ∃ (dx : Addr) (fs : List (Str × V)), OwnAt H0 B H x (.ins C dx fs) ∧ fs.map Prod.fst = rs.map Prod.fst ∧ Oks B (rs.map Prod.snd) (fs.map Prod.snd),
  fun g ⟨dx, fs, h1, h2, h3⟩ => ⟨dx, fs, h1.grow g, h2, h3.mono g.b⟩⟩
structure MkAt (Γ : Cg) (x : Str) (C : Addr) (st : Stmt) (q : Str) (ps : List Str) : Prop where
  at_ : Γ.mg x = some (.ref C)
  ex : ∃ (f : Addr) (fd : FuncData), Fun Γ.K "__init__" q st f fd ∧ Binds Γ.K fd ps [] ∧ Mk Γ.K C f
structure FnI (Γ : Cg) (C : Addr) (j : Nat) (x : Str) (ps : List Str) (sp : Sp) : Prop where
  ex : ∃ (f : Addr) (fd : FuncData), Γ.mg x = some (.ref C) ∧ Mk Γ.K C f ∧ Binds Γ.K fd ps [] ∧ FnOk Γ.P Γ.w Γ.K Γ.mg Γ.base CX0 j f fd ps sp
def SpI {β : Type} (C : Addr) (pre : β → Prop) (pa : β → List Rp) (pfl : β → List (Str × Rp)) : Sp := SpQ (fun z : Addr × β => pre z.2) (fun z => rV (.ref z.1) :: pa z.2) (fun z => pIns z.1 C []) (fun _ => rN) (fun z => pIns z.1 C (pfl z.2))
theorem defI {x q : Str} {C : Addr} {st : Stmt} {ps : List Str} {β : Type} {pre : β → Prop} {pa : β → List Rp} {pfl : β → List (Str × Rp)} (k : Nat) (L : Lc) (D : MkAt Γ x C st q ps) (S : FnScope L.N ps (defScope st)) (hsc : L.sc = defScope st) (hdf : L.df = true) (hl : ∀ y, (pa y).length + 1 = ps.length)
    (hb : ∀ (l : Addr) (y : β), pre y → ∃ env', QS Γ L ⟨E0, k⟩ (defBody st) (envOf L (rV (.ref l) :: pa y)) (pIns l C []) (.nx env' (pIns l C (pfl y)))) : FnI Γ C (k + 1) x ps (SpI C pre pa pfl) := by
  obtain ⟨f, fd, F, hbd, M⟩ := D.ex
  refine ⟨f, fd, D.at_, M, hbd, F.ok S (fun vs H Q E ⟨y, H0, B, _, _, _, ho, _⟩ => by rw [ho.length]; exact hl y.2) (fun cdv A outer s H vs Q E hr ⟨y, H0, B, hy, hB, hH, ho, hp, q⟩ => ?_)⟩
  obtain ⟨env', t, h1, h2⟩ := hb y.1 y.2 hy
  refine ⟨t, h1 _ ⟨rfl, rfl, rfl, rfl, rfl, hr, rfl, S.nd, hsc.symm, rfl, fun _ _ => rfl, PassesOwn.never, takes0, fun _ => ⟨rfl, rfl⟩⟩, h2 H0 B B H _ _ ((sok_start hB ho (by rfl)).move (noAB_start _ _) (Same.refl _) hB hH) hp ((Grow.refl hB).frame hH) ?_⟩
  exact fun σ B2 H2 _ p g => q _ B2 H2 g p rfl
theorem re_make {x : Str} {C : Addr} {j : Nat} {ps : List Str} {β : Type} {pre : β → Prop} {pa : β → List Rp} {pfl : β → List (Str × Rp)} (F : FnI Γ C j x ps (SpI C pre pa pfl)) (y : β) (hy : pre y) (ha : RA Γ L E (e :: es) env (pa y)) (hj : j + 1 ≤ E.k := by exact Nat.le_of_ble_eq_true rfl)
    (hg : gloB L x = true := by decide +kernel) (hs : ∀ en : Env, starEach (e :: es) en = (false, eval e en) :: starEach es en := by intro _; rfl) (hp : ∀ (q : Pos) (en : Env), (backTo q (starEach es en)).any (·.1) = false := by intro _ _; rfl) :
    RE Γ L E (.Call (.Name x p) (e :: es) [] pos) env (rO C (pfl y)) := by
  obtain ⟨t, h1, h2⟩ := ha
  obtain ⟨f, fd, f1, M, hbd, ok⟩ := F.ex
  refine ⟨tMake C (SpI C pre pa pfl) [] E0 t, fun X o => ?_, fun H0 B H σ Q s q => h2 H0 B H σ _ s fun vs B1 H1 g k a dx ha hdx hne => ?_⟩
  · have ok' : FnOk X.prog X.w X.K X.mg X.base CX0 j f fd ps (SpI C pre pa pfl) := by rw [o.prog, o.w, o.K, o.mg, o.base]; exact ok
    exact pe_make (by rw [o.K]; exact M) ok' (o.room.mono hj) (o.gl hg) (by rw [o.mg]; exact f1) (by rw [o.K]; exact hbd) .nil pass0 (h1 X o) (gloB_ok hg).2.1 (hs _) (hp _ _)
  have hBa : B1 a = none := g.i.free ha
  have sm0 : Same H1 (upd H1 dx (.own a)) := same_new hdx _
  have hxa : upd H1 dx (.own a) a = none := by rw [upd_ne (Ne.symm hne)]; exact ha
  have sm1 : Same (upd H1 dx (.own a)) (upd (upd H1 dx (.own a)) a (.ins C dx [])) := same_new hxa _
  rw [List.append_nil]
  refine ⟨(a, y), upd H1 dx (.own a), B1, hy, (g.i.trans sm0).trans sm1, sm1, ⟨rfl, k⟩, ⟨dx, [], ⟨upd_same, hBa, hxa⟩, rfl, trivial⟩, fun v B2 H2 g2 ⟨dx2, fs, ow, e1, e2⟩ hv => ⟨hv, ?_⟩⟩
  have nB : Same B2 (upd B2 a (.ins C dx2 fs)) := same_new ow.2.1 _
  refine q _ (upd B2 a (.ins C dx2 fs)) H2 ⟨(g.b.trans g2.b).trans nB, fun b u z => ?_, (g.h.trans sm0).trans g2.h, fun b z => ?_⟩ ⟨a, dx2, fs, rfl, upd_same, e1, e2.mono nB⟩
  · by_cases hb : b = a
    · subst hb; rw [upd_same] at z; cases z; exact ow.1
    · rw [upd_ne hb] at z; exact g2.i _ _ z
  · by_cases hb : b = a
    · subst hb; exact .inr (g.h.free ha)
    · rw [upd_ne hb] at z
      rcases g2.f b z with y1 | y1
      · exact g.f b y1
      · exact .inr (g.h.free (sm0.free y1))
end
end Rl
/-! text RL16 -/
set_option Elab.async false
set_option linter.all false
set_option maxRecDepth 100000
set_option maxHeartbeats 4000000
namespace Rl
open PySem PySem.Spec PyProof.Rows L2
/-! ### a list comprehension whose element may raise -/
abbrev cxX (X : Cx) (f : Value → Shared → Prop) : Cx := { X with xe := f }
section
variable {X : Cx} {pins : List (Addr × Obj)} {σ : L2.St} {H : Hp} {s : Shared} {f : Value → Shared → Prop}
theorem okc_xe (o : X.Ok) : (cxX X f).Ok := ⟨o.mod, o.kind, o.glob, o.blt, o.above, o.inj, o.has, o.cab, o.hd, o.frames, o.stk, o.exf, o.bs, o.bsz, o.noex, o.exfs, o.funs, o.frf⟩
theorem okc_ex (o : (cxX X f).Ok) : X.Ok := ⟨o.mod, o.kind, o.glob, o.blt, o.above, o.inj, o.has, o.cab, o.hd, o.frames, o.stk, o.exf, o.bs, o.bsz, o.noex, o.exfs, o.funs, o.frf⟩
theorem inv_xe (I : Inv X pins σ H s) : Inv (cxX X f) pins σ H s := ⟨okc_xe I.ok, I.os, I.bare, I.base, I.loc, I.cell, I.free, I.freeC, I.pin, I.hok, I.len⟩
theorem inv_ex (I : Inv (cxX X f) pins σ H s) : Inv X pins σ H s := ⟨okc_ex I.ok, I.os, I.bare, I.base, I.loc, I.cell, I.free, I.freeC, I.pin, I.hok, I.len⟩
theorem pa_xe {es : List Expr} {t : TA} (hx : X.xe = fun _ _ => False) (h : PA X es t) : PA (cxX X f) es t :=
  ⟨fun pos pins s σ H Q I hw => wpAny_mono (h.run pos pins s σ H Q (inv_ex I) hw) (fun us s1 ⟨vs, H1, I1, r, q⟩ => ⟨vs, H1, inv_xe I1, r, q⟩) fun e s' z => by rw [hx] at z; exact z.elim⟩
/-- what a call within the block lets out is noted by the def, the block is let go, and it flies on -/
theorem comp_out {W : WX} {E : XK} {scope : Scope} {ce : Env} {fp : List Addr} {pins2 : List (Addr × Obj)} {σ2 : L2.St} {H2 : Hp} {s2 s' : Shared} {u : Value} (tk : Takes X W) (hst : X.stack = X.env :: X.outer) (hfr : X.env.frame = some X.env.locals) (hce : ce.frame = X.env.frame) (hloc : ce.locals = s.heap.objs.size)
    (hfp : ∀ b ∈ fp, (b ∈ X.ex ∨ X.s_0.heap.objs.size ≤ b) ∧ b ≠ X.env.locals ∧ (∀ x c, X.env.cells.lookup x = some c → c ≠ b) ∧ ∀ p ∈ X.pn ++ pins, p.1 ≠ b)
    (I : Inv X pins σ H s) (I2 : Inv (X.blk s H scope ce fp) pins2 σ2 H2 s2) (c : CX X.prog X.w X.stack H2 s2 E u s') (hE : ∀ cls d H', E cls d H' → W cls d σ H') :
    notedBy (model X.prog X.w) X.A ce (CompFails (model X.prog X.w) X.A X.xe ce) u s' := by
  obtain ⟨a, B, H', cls, d, rfl, fl, hok, ub, na, os, ag, hW⟩ := c
  have hf : X.A.frames = some (X.env :: X.outer) := by rw [I.ok.frames, hst]
  have lc : ∀ b o, s.heap.get? b = some o → b ≠ ce.locals := fun b o e => by rw [hloc]; exact Nat.ne_of_lt (Heap.lt_size e)
  -- the ground without the block's names
  generalize hB' : PySem.W.hideAll B [ce.locals] = B'
  have b1 : ∀ b o, B'.get? b = some o → B.get? b = some o := fun b o e => by rw [← hB'] at e; exact PySem.W.of_hideAll _ e
  have b2 : ∀ b o, B.get? b = some o → b ≠ ce.locals → B'.get? b = some o := fun b o e hb => by rw [← hB']; exact PySem.W.hideAll_get _ e (by simpa using hb)
  have b3 : B'.get? ce.locals = none := by rw [← hB']; exact PySem.W.hideAll_none _ (by simp)
  have bn : ∀ b, B.get? b = none → B'.get? b = none := fun b e => by
    cases q : B'.get? b with
    | none => rfl
    | some o => rw [b1 b o q] at e; cases e
  obtain ⟨f1, f2, f3, oe, vs, T, oT, ts, g1, g2, g3, g4, g5, g6, g7, g8, g9⟩ := fl
  have frB : ∀ b ∈ frs X.stack, B.get? b = none := fun b hb => (f3.mem hb).1
  have fl' : HandSPX.FlyingZ B' (X.env :: X.outer) a (Zc cls d) s'.heap := by
    rw [← hst]
    exact ⟨fun b o e => f1 b o (b1 b o e), bn a f2, funFrames_none f3 fun b hb => bn b (frB b hb), oe, vs, T, oT, ts, g1, g2, g3, g4, bn T g5, g6, g7, g8, g9⟩
  -- the block's names stand
  obtain ⟨m0, hn0, _⟩ := I2.loc
  have hn0 : s2.heap.Ns ce.locals m0 := hn0
  obtain ⟨oL, es, ep, hoL, hdL, r0⟩ := hn0
  have hLn : H2 ce.locals = none := I2.free
  have hLf : ce.locals ∉ frs X.stack := by
    intro hm
    obtain ⟨_, o', e', hd⟩ := f3.mem hm
    obtain ⟨sl, q⟩ := ub.slot _ _ hoL hm
    rw [e'] at q
    cases q
    have z1 := (I.stack.mem hm).2
    obtain ⟨o2, e2, _⟩ := z1
    exact lc _ _ e2 rfl
  have hnB : B.get? ce.locals = some oL := ub.keep _ _ hoL hLn hLf
  have hn1 : s'.heap.Ns ce.locals m0 := ⟨oL, es, ep, f1 _ _ hnB, hdL, r0⟩
  show wpAny _ _ (noteFrame (.ref a) ce) _ _ s'
  rw [noteFrame_env _ hce]
  refine HandSPX.looks_onZ Zc.steady hf hfr fl' fun h1 hh1 up1 => ?_
  -- the block is let go
  refine ⟨m0, hn1.upToSlots fun b o e hnf => up1 b o e hnf, fun h2 m2 hn2 sb2 => ?_⟩
  obtain ⟨k1, k2, k3, k4⟩ := hh1
  have st2 : B'.StaysIn h2 := fun b o hb => (sb2.2 b fun q => by rw [q, b3] at hb; cases hb).trans (k1 b o hb)
  have ff2 : h2.FunFrames B' (X.env :: X.outer) := Heap.FunFrames.sameBut sb2 hn2 k3
  obtain ⟨oe2, vs2, T2, oT2, ts2, j1, j2, j3, j4, j5, j6, j7, j8, j9⟩ := k4
  have noL : ∀ b o vs, h1.get? b = some o → o.data = .fields vs → b ≠ ce.locals := fun b o vs e hd z => by
    have q := hn1.upToSlots fun b o e hnf => up1 b o e hnf
    obtain ⟨oL2, es2, ep2, hoL2, hdL2, _⟩ := q
    rw [z, hoL2] at e
    cases e
    rw [hdL2] at hd
    cases hd
  have ha2 : h2.get? a = some oe2 := (sb2.2 a (noL _ _ _ j1 j3)).trans j1
  have hT2 : h2.get? T2 = some oT2 := (sb2.2 T2 (noL _ _ _ j7 j8)).trans j7
  unfold PySem.passOn
  refine wpAny_bind (wpAny_field ha2 j3 j4 ?_)
  rw [if_neg (show ¬ ((Value.ref T2 == Value.none) = true) from by simp)]
  rw [hce, hfr]
  refine wpAny_bind (HandSPX.setFlight_onZ (base := B') (l := X.env :: X.outer) (Z := Zc cls d) ⟨st2, k2, ff2, oe2, vs2, T2, oT2, ts2, ha2, j2, j3, j4, j5, j6, hT2, j8, j9⟩ fun h3 hh3 up3 => ?_)
  refine wpAny_throw (tk _ _ ?_)
  -- back on the def's ground
  obtain ⟨G, q1, q2⟩ := restrict h3 fun b => (B'.get? b).isSome || decide (b ∈ frs X.stack)
  have st : B'.StaysIn h3 := hh3.1
  have gB : ∀ b o, B'.get? b = some o → G.get? b = some o := fun b o e => by
    rw [q1 b (by simp [e])]
    exact st b o e
  have gF : ∀ b, b ∈ frs X.stack → G.get? b = h3.get? b := fun b hb => q1 b (by simp [hb])
  have og : ∀ b o, G.get? b = some o → h3.get? b = some o ∧ ((B'.get? b).isSome = true ∨ b ∈ frs X.stack) := fun b o e => by
    cases q : ((B'.get? b).isSome || decide (b ∈ frs X.stack)) with
    | false => rw [q2 b q] at e; cases e
    | true =>
      rw [q1 b q] at e
      exact ⟨e, by simpa [Bool.or_eq_true] using q⟩
  have slots : ∀ b o, s'.heap.get? b = some o → (∀ vs, o.data ≠ .fields vs) → b ≠ ce.locals → ∃ sl, h3.get? b = some { o with slots := sl } := fun b o e hnf hb => by
    obtain ⟨sl1, e1⟩ := up1 b o e hnf
    have e2 := (sb2.2 b hb).trans e1
    obtain ⟨sl3, e3⟩ := up3 b _ e2 hnf
    exact ⟨sl3, e3⟩
  have U := I2.base
  have hHC : H' ce.locals = none := ub.free _ _ hoL hLn
  have hokB' : HOk X.prog X.w H' B' := fun b o q => (hok b o q).stay (fun cc v hc rr => b2 cc v rr fun z => by
      rcases hc with hc | hc
      · rw [← hc, z, hHC] at q; cases q
      · rw [z, hHC] at hc; cases hc) (fun _ r => r) fun _ _ r => r
  have J : Inv X pins σ H' { s with heap := G, gens := s'.gens, drawn := s'.drawn, toks := s'.toks } := by
    refine I.call' (ch := fp) rfl ⟨fun b o e n hb hx => gB b o (b2 b o (ub.keep b o (U.keep b o e n hb hx) (U.free b o e n hx) hb) (lc b o e)), fun b o e n hb hx => ?_, fun b o e n hx => ?_, fun b o e hx => ?_, fun b xs q => ub.tups b xs (U.tups b xs q), fun b o u q => ub.frzs b o u (U.frzs b o u q), fun b ps q => ?_⟩ (hokB'.kept gB) ag hfp
    · obtain ⟨sl, z⟩ := U.slot b o e n hb hx
      obtain ⟨sl2, z2⟩ := ub.slot b _ z hb
      obtain ⟨_, o', e', hd⟩ := f3.mem hb
      rw [z2] at e'
      cases e'
      obtain ⟨sl3, z3⟩ := slots b _ z2 hd (lc b o e)
      exact ⟨sl3, by rw [gF b hb]; exact z3⟩
    · obtain ⟨o', z⟩ := U.there b o e hx
      exact ub.free b o' z (U.free b o e n hx)
    · obtain ⟨o', z⟩ := U.there b o e hx
      by_cases hb : b ∈ frs X.stack
      · obtain ⟨sl2, z2⟩ := ub.slot b _ z hb
        obtain ⟨_, o2, e', hd⟩ := f3.mem hb
        rw [z2] at e'
        cases e'
        obtain ⟨sl3, z3⟩ := slots b _ z2 hd (lc b o e)
        exact ⟨_, by rw [gF b hb]; exact z3⟩
      · obtain ⟨o2, z2⟩ := ub.there b o' z hb
        exact ⟨o2, gB b o2 (b2 b o2 z2 (lc b o e))⟩
    · obtain ⟨m1, z⟩ := U.tbls b ps q
      obtain ⟨m2, z2⟩ := ub.tbls b _ z
      exact ⟨m1 ++ m2, by rw [z2, Array.append_assoc]⟩
  refine ⟨a, B', _, pins, σ, H', cls, d, rfl, J, fun b o e hb => ?_, Heap.UpToSlots.of_keeps fun b o e => (og b o e).1, .inr (.inr (by rw [hst]; exact hh3)), na, os.trans I2.os, ag, hE _ _ _ hW⟩
  obtain ⟨e', h⟩ := og b o e
  rcases h with h | h
  · obtain ⟨o', q⟩ := Option.isSome_iff_exists.mp h
    have z := st b o' q
    rw [e'] at z
    cases z
    exact q
  · exact absurd h hb
end
section
variable {X : Cx}
theorem lcx_core {pins : List (Addr × Obj)} {s : Shared} {σ : L2.St} {H : Hp} {Q : VK} {elt tg iter : Expr} {ifs : List Expr} {scope : Scope} {own : List (Str × Nat)} {pos pos' : Pos} {wi : TI} {g : TG} {tt : TT} {te : TE}
    (hc : X.calm = true) (hN : X.N.Nodup) (I : Inv X pins σ H s) (hi : PI X tg iter wi) (ok : BlkOk X.N X.env.scope scope own)
    (hg : ∀ (s : Shared) (H : Hp) (C : Addr) (cl : List (Str × Addr)) (fp : List Addr), PG (X.blk s H scope (compEnvC scope cl C X.env) fp) tg g) (ht : ∀ (s : Shared) (H : Hp) (C : Addr) (cl : List (Str × Addr)) (fp : List Addr), PTs (X.blk s H scope (compEnvC scope cl C X.env) fp) ifs tt)
    (he : ∀ (s : Shared) (H : Hp) (cl : List (Str × Addr)) (fp : List Addr), Inv X pins σ H s → (∀ b ∈ fp, (b ∈ X.ex ∨ X.s_0.heap.objs.size ≤ b) ∧ b ≠ X.env.locals ∧ (∀ x c, X.env.cells.lookup x = some c → c ≠ b) ∧ ∀ p ∈ X.pn ++ pins, p.1 ≠ b) →
      PE (cxX (X.blk s H scope (compEnvC scope cl s.heap.objs.size X.env) fp) (notedBy (model X.prog X.w) X.A (compEnvC scope cl s.heap.objs.size X.env) (CompFails (model X.prog X.w) X.A X.xe (compEnvC scope cl s.heap.objs.size X.env)))) elt te) (hs : ∀ x, foldedSetIterable iter X.env x = pure x)
    (h : tLc wi g tt te (own.map (·.2)) σ H Q) :
    wpAny (model X.prog X.w) X.A (comprehension (.ListComp elt [⟨tg, iter, ifs, 0⟩] scope pos) scope X.env pos' (newList []) false (eval iter X.env) none) (EP X pins σ Q) X.xe s := by
  have hfree : ∀ y ∈ scope.names, y.2 = .free → ∃ c, X.env.cells.lookup y.1 = some c := fun y hy e => by
    rcases ok.free y hy e with k | k
    · exact I.ok.has _ (.inl k)
    · exact I.ok.has _ (.inr k)
  refine comprehension_at (use := none) rfl hs (closure_ok hfree) ok.kind (fun y hy e => by rw [ok.uniq y hy, e])
    (thn (hi.run pins s σ H _ I h) fun xv s1 hx => thn hx fun itv s2 h2 => ?_)
  obtain ⟨it, fp, tn, J, H2, e, I2, T, st2, f2, q⟩ := h2
  subst e
  refine wpAny_newObj_type (newEnv_comp ?_) (by show 0 ≤ sizeLine; decide)
  generalize hD : s2.heap.objs.size = D
  have hDn : H2 D = none := I2.hok.fresh (Nat.le_of_eq hD)
  obtain ⟨W, ⟨m0, w0⟩, turn⟩ := q D hDn
  -- the new list
  generalize hs3 : ({ s2 with heap := s2.heap.push { cls := .type "list", data := .seq ([] : List Value).toArray } } : Shared) = s3
  have I3 : Inv X pins σ (upd H2 D (.lst [])) s3 := by
    rw [← hs3]
    refine I2.laid (t' := s2.toks) (fun b o e => Heap.get?_push_of_some _ e) (Nat.le_of_eq hD) ⟨Nat.zero_le _, [], 0, .nil, ?_⟩
    rw [← hD]
    exact Heap.get?_push_size _ rfl
  have h3 : s3.heap = s2.heap.push { cls := .type "list", data := .seq ([] : List Value).toArray } := by rw [← hs3]
  have sz : ∀ b ∈ fp, b < s2.heap.objs.size := fun b hb => by
    obtain ⟨o, e, _⟩ := T.obj _ _ st2 b hb
    exact Heap.lt_size e
  have f3 : ∀ b ∈ fp, FpOk X pins (upd H2 D (.lst [])) b ∧ b < s3.heap.objs.size := fun b hb => by
    have hlt := sz b hb
    refine ⟨⟨?_, (f2 b hb).2⟩, by rw [h3, Heap.size_push]; exact Nat.lt_succ_of_lt hlt⟩
    rw [upd_ne (by rw [← hD]; exact Nat.ne_of_lt hlt)]
    exact (f2 b hb).1
  have st3 : tn 0 s3.heap := T.keep _ _ _ st2 fun b _ o e => by rw [h3]; exact Heap.get?_push_of_some _ e
  have I4 := block_start I3 ok hN f3
  have pg := hg s3 (upd H2 D (.lst [])) s3.heap.objs.size (cellsFrom (s3.heap.objs.size + 1) scope.names (cloFrom X.env.cells scope.names [])) fp
  have pt := ht s3 (upd H2 D (.lst [])) s3.heap.objs.size (cellsFrom (s3.heap.objs.size + 1) scope.names (cloFrom X.env.cells scope.names [])) fp
  have pe := he s3 (upd H2 D (.lst [])) (cellsFrom (s3.heap.objs.size + 1) scope.names (cloFrom X.env.cells scope.names [])) fp I3 fun b hb => ⟨(f3 b hb).1.2.2.2.1, (f3 b hb).1.2.1, (f3 b hb).1.2.2.2.2.1, (f3 b hb).1.2.2.2.2.2⟩
  show codeAny _ _ (.compStart (.ListComp elt [⟨tg, iter, ifs, 0⟩] scope pos) 0 (.ref it) (.ref D) (compEnvC scope (cellsFrom (s3.heap.objs.size + 1) scope.names (cloFrom X.env.cells scope.names [])) s3.heap.objs.size X.env)) (compEnds (model X.prog X.w) X.A X.xe none (EP X pins σ Q) (.ref D) (compEnvC scope (cellsFrom (s3.heap.objs.size + 1) scope.names (cloFrom X.env.cells scope.names [])) s3.heap.objs.size X.env)) { s3 with heap := pushCells (s3.heap.push { cls := .type "dict", data := .dict #[] }) scope.names }
  have nfp : ∀ b ∈ fp, (upd H2 D (.lst [])) b = none := fun b hb => (f3 b hb).1.1
  generalize hce : compEnvC scope (cellsFrom (s3.heap.objs.size + 1) scope.names (cloFrom X.env.cells scope.names [])) s3.heap.objs.size X.env = ce at I4 pg pt pe ⊢
  have cL : ce.locals = s3.heap.objs.size := by subst hce; rfl
  generalize hH3 : upd H2 D (.lst []) = H3 at I3 I4 pg pt pe w0 nfp f3
  generalize hs4 : ({ s3 with heap := pushCells (s3.heap.push { cls := .type "dict", data := .dict #[] }) scope.names } : Shared) = s4 at I4 ⊢
  have st4 : tn 0 s4.heap := T.keep _ _ _ st3 fun b _ o e => by rw [← hs4]; exact pushCells_keeps _ _ _ _ (Heap.get?_push_of_some _ e)
  have stat : ∀ {σ' : L2.St} {H' : Hp} {s' : Shared}, Inv (X.blk s3 H3 scope ce fp) [] σ' H' s' → (∀ b ∈ fp, H' b = none) → ∀ b ∈ fp, FpOk (X.blk s3 H3 scope ce fp) [] H' b := fun {σ' H' s'} I' hn b hb =>
    ⟨hn b hb, (I'.ok.exf b hb).1, I'.ok.exfs b hb, .inl hb, fun x c e => (I'.ok.exf b hb).2 x c e, fun p hp => absurd (show p ∈ ([] : List (Addr × Obj)) ++ [] from hp) (by simp)⟩
  have loop : codeAny (model X.prog X.w) X.A (.compLoop (.ListComp elt [⟨tg, iter, ifs, 0⟩] scope pos) 0 (.ref it) (.ref D) ce) (compEnds (model X.prog X.w) X.A X.xe none (EP X pins σ Q) (.ref D) ce) s4 := by
    refine compLoop_any (fun n s' => ∃ i H', Inv (X.blk s3 H3 scope ce fp) [] (wipe σ (own.map (·.2))) H' s' ∧ tn i s'.heap ∧ (∀ b ∈ fp, H' b = none) ∧ W i n H') ?_ m0 ⟨0, H3, I4, st4, nfp, w0⟩
    rintro n s5 ⟨i, H5, I5, st5, n5, w5⟩
    rcases turn i n H5 w5 with ⟨stop, qq⟩ | ⟨go, Nx, hNx, step⟩
    · have td := T.done (X.blk s3 H3 scope ce fp) rfl rfl rfl hc i [] s5 _ H5 (fun _ _ => False) I5 (stat I5 n5) st5 stop
      refine thnF td fun r s6 ⟨hr, I6⟩ => ?_
      subst hr
      -- back in the def's context
      have I7 : Inv X pins σ H5 s6 := I3.call' (ch := fp) I6.os I6.base I6.hok I6.bare fun b hb => ⟨(f3 b hb).1.2.2.2.1, (f3 b hb).1.2.1, (f3 b hb).1.2.2.2.2.1, (f3 b hb).1.2.2.2.2.2⟩
      have nC : H5 s3.heap.objs.size = none := by
        have z : H5 ce.locals = none := I6.free
        rw [cL] at z
        exact z
      obtain ⟨m, hn, _⟩ := I6.loc
      have hn : s6.heap.Ns ce.locals m := hn
      rw [cL] at hn
      refine ⟨m, by rw [cL]; exact hn, fun h'' sb => ?_⟩
      rw [cL] at sb
      obtain ⟨f0, f1, f2', f3', f4, f5⟩ := I3.fpOk (Nat.le_refl _) nC
      exact ⟨.ref D, H5, I7.turned (t' := s6.toks) (fun b o hb e => (sb.2 b hb).trans e) f0 f1 f3' f4 f5, rfl, qq⟩
    · have ti := T.item (X.blk s3 H3 scope ce fp) rfl rfl rfl hc i [] s5 _ H5 (fun _ _ => False) I5 (stat I5 n5) st5 go
      refine thnF ti fun r s6 ⟨u, hr, h6⟩ => ?_
      subst hr
      refine thnF h6 fun _ s7 ⟨x, H7, I7, r7, y7, st7, n7⟩ => ?_
      have I7' := I7.pinned (stat I7 n7) (T.obj _ _ st7)
      refine thnF (pg.run _ s7 _ H7 x u _ I7' r7 (step x H7 y7)) fun _ s8 ⟨σ8, H8, I8, hw8, q8⟩ => ?_
      refine thnF (pt.run _ s8 σ8 H8 _ I8 q8) fun b s9 ⟨H9, I9, q9⟩ => ?_
      -- the turn's end
      have fin : ∀ {s' : Shared} {H' : Hp}, Inv (X.blk s3 H3 scope ce fp) ([] ++ pinsAt fp s7.heap) σ8 H' s' → Nx H' → ∃ m, m < n ∧ ∃ i H', Inv (X.blk s3 H3 scope ce fp) [] (wipe σ (own.map (·.2))) H' s' ∧ tn i s'.heap ∧ (∀ b ∈ fp, H' b = none) ∧ W i m H' := fun {s' H'} I' nx => by
        obtain ⟨m', hm, w'⟩ := hNx H' nx
        have pin' : ∀ b ∈ fp, ∀ o, s7.heap.get? b = some o → s'.heap.get? b = some o ∧ H' b = none := fun b hb o e =>
          let z := I'.pin (b, o) (List.mem_append_right _ (List.mem_append_right _ (mem_pinsAt hb e)))
          ⟨z.1, z.2.1⟩
        have hl : (wipe σ (own.map (·.2))).length = σ8.length := by rw [← hw8, wipe_length]
        refine ⟨m', hm, i + 1, H', (I'.unpinned (pins := [])).weak hl (fun j v e => ?_), T.keep _ _ _ st7 fun b hb o e => (pin' b hb o e).1, fun b hb => ?_, w'⟩
        · rw [← hw8] at e
          exact (wipe_some e).1
        · obtain ⟨o, e, _⟩ := T.obj _ _ st7 b hb
          exact (pin' b hb o e).2
      cases b with
      | false =>
        simp only [Bool.false_eq_true, if_false] at q9 ⊢
        exact fin I9 q9
      | true =>
        simp only [if_true] at q9 ⊢
        refine wpAny_mono (pe.run _ s9 σ8 H9 _ (inv_xe I9) q9) (fun z s10 ⟨yv, H10, I10, r10, acc, hD10, hz10, nx⟩ => ?_) fun _ _ hx => hx
        have I10 := inv_ex I10
        exact app_ok (X := X.blk s3 H3 scope ce fp) I10 hD10 hz10 r10 fun s11 I11 => fin I11 nx
  exact codeAny_compStart_list loop (T.self X.A 0 _ _ _ st4 loop)
theorem pe_lcx {elt tg iter : Expr} {ifs : List Expr} {scope : Scope} {own : List (Str × Nat)} {pos : Pos} {wi : TI} {g : TG} {tt : TT} {te : TE} (hc : X.calm = true) (hN : X.N.Nodup) (hi : PI X tg iter wi) (ok : BlkOk X.N X.env.scope scope own)
    (hg : ∀ (s : Shared) (H : Hp) (C : Addr) (cl : List (Str × Addr)) (fp : List Addr), PG (X.blk s H scope (compEnvC scope cl C X.env) fp) tg g) (ht : ∀ (s : Shared) (H : Hp) (C : Addr) (cl : List (Str × Addr)) (fp : List Addr), PTs (X.blk s H scope (compEnvC scope cl C X.env) fp) ifs tt)
    (he : ∀ (pins : List (Addr × Obj)) (σ : L2.St) (s : Shared) (H : Hp) (cl : List (Str × Addr)) (fp : List Addr), Inv X pins σ H s → (∀ b ∈ fp, (b ∈ X.ex ∨ X.s_0.heap.objs.size ≤ b) ∧ b ≠ X.env.locals ∧ (∀ x c, X.env.cells.lookup x = some c → c ≠ b) ∧ ∀ p ∈ X.pn ++ pins, p.1 ≠ b) →
      PE (cxX (X.blk s H scope (compEnvC scope cl s.heap.objs.size X.env) fp) (notedBy (model X.prog X.w) X.A (compEnvC scope cl s.heap.objs.size X.env) (CompFails (model X.prog X.w) X.A X.xe (compEnvC scope cl s.heap.objs.size X.env)))) elt te) (hs : ∀ x, foldedSetIterable iter X.env x = pure x) :
    PE X (.ListComp elt [⟨tg, iter, ifs, 0⟩] scope pos) (tLc wi g tt te (own.map (·.2))) := by
  refine ⟨fun pins s σ H Q I h => ?_⟩
  rw [eval_ListComp]
  exact lcx_core hc hN I hi ok hg ht (he pins σ) hs h
end
end Rl
/-! text RL17 -/
set_option Elab.async false
set_option linter.all false
set_option maxRecDepth 100000
set_option maxHeartbeats 4000000
namespace Rl
open PySem PySem.Spec PyProof.Rows L2
section
variable {Γ : Cg} {L : Lc} {E : Wc} {env : List Sl} {tg iter e : Expr} {es : List Expr} {pos p cpos : Pos} {α β : Type} {xs : List α} {f h : α → Rp}
theorem lcx_read {pre : β → Prop} {pf : β → List Rp} {res : β → Res} {j : Nat} {x : Str} {ps : List Str} (F : FnX Γ j x ps (SpX pre pf res)) {scope : Scope} {env' : α → List Sl} {js : List Nat} (own : List (Str × Nat)) (y : α → β) (N : Nat) (hN : N ≤ xs.length) (hi : RI Γ L E tg iter env xs f)
    (hg : ∀ x ∈ xs, RG Γ (blkL L scope) E.b tg js (wipeE env (own.map (·.2))) (f x) (env' x))
    (ha : ∀ x ∈ xs, RA Γ (blkL L scope) E.b (e :: es) (env' x) (pf (y x))) (hy : ∀ (i : Nat) (x : α), xs[i]? = some x → i ≤ N → pre (y x)) (hr : ∀ (i : Nat) (x : α), xs[i]? = some x → i < N → res (y x) = .ok (h x)) (hz : xs.length < sizeLine) (hdf : L.df = true)
    (hj : ∀ j ∈ js, j ∈ own.map (·.2)) (hok : blkC L.N L.sc scope own = true) (hf : ∀ (en : Env) x, foldedSetIterable iter en x = pure x) (hjk : j ≤ E.k) (hgl : gloB (blkL L scope) x = true)
    (hs : ∀ en : Env, starEach (e :: es) en = (false, eval e en) :: starEach es en) (hp : ∀ (q : Pos) (en : Env), (backTo q (starEach es en)).any (·.1) = false) :
    ∃ t : TE, (∀ X, Ok Γ L E X → PE X (.ListComp (.Call (.Name x p) (e :: es) [] cpos) [⟨tg, iter, [], 0⟩] scope pos) t) ∧ ∀ (H0 B H : Hp) (σ : L2.St) (Q : VK), Sok H0 B H σ env →
      ((N = xs.length ∧ ∀ p vs B2 H2, Grow B H B2 H2 → H2 p = some (.lst vs) → B2 p = none → H p = none → Oks B2 (xs.map h) vs → Q (.ref p) H2) ∨ (∃ (x : α) (k : XC), xs[N]? = some x ∧ res (y x) = .err k ∧ ∀ d B2 H2, Grow B H B2 H2 → k.ok H2 d → E.xk k.cls d H2)) → t σ H Q := by
  obtain ⟨ti, i1, i2⟩ := hi
  obtain ⟨fa, fd, m1, m2, m3, m4⟩ := F.ex
  refine ⟨tLc ti (fun v σ H Q => ∃ x, ∃ hx : x ∈ xs, (hg x hx).choose v σ H Q) tYes (tCall (SpX pre pf res) [] E.xk fun σ H Q => ∃ x, ∃ hx : x ∈ xs, (ha x hx).choose σ H Q) (own.map (·.2)), fun X o => ?_, fun H0 B H σ Q s fin => ?_⟩
  · refine pe_lcx o.calm (by rw [o.N]; exact o.nd) (i1 X o) (blkOk_by (by rw [o.N, o.sc]; exact hok)) (fun s H C cl fp => ⟨fun pins s1 σ1 H1 v u Q1 I1 r1 ⟨x, hx, z⟩ => ((hg x hx).choose_spec.1 _ (ok_blk o s H scope C cl fp)).run pins s1 σ1 H1 v u Q1 I1 r1 z⟩) (fun s H C cl fp => pts_nil) (fun pins σ s H cl fp I hfp => ?_) (hf _)
    have ob := ok_blk o s H scope s.heap.objs.size cl fp
    have F' : FnOk X.prog X.w X.K X.mg X.base (L2.CX X.prog X.w) j fa fd ps (SpX pre pf res) := by rw [o.prog, o.w, o.K, o.mg, o.base]; exact m4
    refine pe_call (X := cxX (X.blk s H scope (compEnvC scope cl s.heap.objs.size X.env) fp) _) F' (o.room.mono hjk) (ob.gl hgl) (by show X.mg x = _; rw [o.mg]; exact m1) (by show PySem.W.keepIn X.K _ = _; rw [o.K]; exact m2) (by show Binds X.K _ _ _; rw [o.K]; exact m3) .nil (fun pins2 σ2 H2 s2 u s' I2 c => ?_) (pa_xe rfl ⟨fun pos pins1 s1 σ1 H1 Q1 I1 ⟨x, hx, z⟩ => ((ha x hx).choose_spec.1 _ ob).run pos pins1 s1 σ1 H1 Q1 I1 z⟩) (gloB_ok hgl).2.1 (hs _) (hp _ _)
    exact comp_out (scope := scope) o.takes (o.top hdf).1 (o.top hdf).2 rfl rfl hfp I (inv_ex I2) c (fun _ _ _ h => h)
  refine i2 H0 B H σ _ s fun J B1 H1 g T D hD => ?_
  have s1 := s.grow g
  have hB1 : B1 D = none := s1.ex.free hD
  refine ⟨fun i m H' => m = xs.length - i ∧ i ≤ N ∧ ∃ Bi vs, Grow B1 H1 Bi H' ∧ Bi D = none ∧ H' D = some (.lst vs) ∧ Oks Bi ((xs.take i).map h) vs, ⟨xs.length, rfl, Nat.zero_le _, B1, [], ?_, hB1, upd_same, trivial⟩, fun i m H' ⟨hm, hi, Bi, vs, gi, bd, hd, ho⟩ => ?_⟩
  · exact Grow.stay s1.ex (same_new hD _)
  by_cases hil : i = xs.length
  · left
    refine ⟨(T i Bi H' gi.b gi.i).2 hil, ?_⟩
    rcases fin with ⟨hNl, q⟩ | ⟨x1, k, hx1, _⟩
    · subst hil
      rw [List.take_length] at ho
      exact q D vs Bi H' (g.trans gi) hd bd (g.h.free hD) ho
    · exfalso
      have := (List.getElem?_eq_some_iff.mp hx1).1
      omega
  · right
    have hlt : i < xs.length := by omega
    have hxi : xs[i]? = some xs[i] := List.getElem?_eq_getElem hlt
    have hmem : xs[i] ∈ xs := List.getElem_mem hlt
    obtain ⟨go, yl⟩ := (T i Bi H' gi.b gi.i).1 _ hxi
    refine ⟨go, fun H5 => i < N ∧ ∃ B5 vs5, Grow B1 H1 B5 H5 ∧ B5 D = none ∧ H5 D = some (.lst vs5) ∧ Oks B5 ((xs.take (i + 1)).map h) vs5, fun H5 ⟨hiN, B5, vs5, a1, a2, a3, a4⟩ => ⟨xs.length - (i + 1), by omega, rfl, by omega, B5, vs5, a1, a2, a3, a4⟩, fun v H2 y2 => ?_⟩
    obtain ⟨B2, g2, k2⟩ := yl v H2 y2
    have s2 : Sok H0 B2 H2 σ env := (s1.grow gi).grow g2
    have hl2 : vs.length < sizeLine := by
      have z := ho.length
      rw [List.length_map] at z
      have z3 := List.length_take_le i xs
      omega
    have tk : xs.take (i + 1) = xs.take i ++ [xs[i]] := by rw [List.take_succ, hxi]; rfl
    refine ⟨xs[i], hmem, (hg _ hmem).choose_spec.2 H0 B2 H2 _ v _ (s2.wipe _) k2 fun σ2 s3 l3 d3 => ⟨wipe_eq l3 fun j hj' => d3 j fun z => hj' (hj j z), ?_⟩⟩
    have b3 : B2 D = none := g2.acc hd bd
    have d3 : H2 D = some (.lst vs) := g2.h _ _ hd
    dsimp only [tYes]
    rw [if_pos rfl]
    refine ⟨xs[i], hmem, (ha _ hmem).choose_spec.2 H0 B2 H2 σ2 _ s3 fun ws B4 H4 g4 k4 => ?_⟩
    rw [List.append_nil]
    refine ⟨y xs[i], B4, hy i _ hxi hi, g4.i, k4, ?_⟩
    by_cases hiN : i < N
    · rw [hr i _ hxi hiN]
      intro u B5 H5 g5 k5
      have gg := ((gi.trans g2).trans g4).trans g5
      have d5 : H5 D = some (.lst vs) := g5.h _ _ (g4.h _ _ d3)
      have b5 : B5 D = none := (g4.trans g5).acc d3 b3
      refine ⟨vs, d5, hl2, hiN, B5, vs ++ [u], ⟨gg.b, ?_, ?_, gg.f⟩, b5, upd_same, ?_⟩
      · intro a o z
        rw [upd_ne (ne_of_none z b5)]
        exact gg.i _ _ z
      · intro a o z
        rw [upd_ne (ne_of_none z hD)]
        exact gg.h _ _ z
      · rw [tk, List.map_append]
        exact (ho.mono ((g2.b.trans g4.b).trans g5.b)).append ⟨k5, trivial⟩
    · have hiN : i = N := by omega
      rcases fin with ⟨hNl, q⟩ | ⟨x1, k, hx1, hre, q⟩
      · exact absurd (hiN.trans hNl) hil
      · have e : x1 = xs[i] := by
          rw [← hiN, hxi] at hx1
          exact (Option.some.inj hx1).symm
        rw [← e, hre]
        exact fun d B5 H5 g5 hk => q d B5 H5 ((((g.trans gi).trans g2).trans g4).trans g5) hk
/-- all go well -/
theorem rf_lcX {pre : β → Prop} {pf : β → List Rp} {res : β → Res} {j : Nat} {x : Str} {ps : List Str} (F : FnX Γ j x ps (SpX pre pf res)) {scope : Scope} {env' : α → List Sl} {js : List Nat} (own : List (Str × Nat)) (y : α → β) (hi : RI Γ L E tg iter env xs f)
    (hg : ∀ x ∈ xs, RG Γ (blkL L scope) E.b tg js (wipeE env (own.map (·.2))) (f x) (env' x))
    (ha : ∀ x ∈ xs, RA Γ (blkL L scope) E.b (e :: es) (env' x) (pf (y x))) (hy : ∀ x ∈ xs, pre (y x)) (hr : ∀ x ∈ xs, res (y x) = .ok (h x)) (hz : xs.length < sizeLine) (hdf : L.df = true := by rfl)
    (hj : ∀ j ∈ js, j ∈ own.map (·.2) := by decide) (hok : blkC L.N L.sc scope own = true := by decide +kernel) (hf : ∀ (en : Env) x, foldedSetIterable iter en x = pure x := by intro _ _; rfl) (hjk : j ≤ E.k := by exact Nat.le_of_ble_eq_true rfl) (hgl : gloB (blkL L scope) x = true := by decide +kernel)
    (hs : ∀ en : Env, starEach (e :: es) en = (false, eval e en) :: starEach es en := by intro _; rfl) (hp : ∀ (q : Pos) (en : Env), (backTo q (starEach es en)).any (·.1) = false := by intro _ _; rfl) :
    RF Γ L E (.ListComp (.Call (.Name x p) (e :: es) [] cpos) [⟨tg, iter, [], 0⟩] scope pos) env (xs.map h) := by
  obtain ⟨t, h1, h2⟩ := lcx_read (p := p) (cpos := cpos) (pos := pos) (h := h) F own y xs.length (Nat.le_refl _) hi hg ha (fun i x hx _ => hy x (List.mem_of_getElem? hx)) (fun i x hx _ => hr x (List.mem_of_getElem? hx)) hz hdf hj hok hf hjk hgl hs hp
  exact ⟨t, h1, fun H0 B H σ Q s q => h2 H0 B H σ Q s (.inl ⟨rfl, q⟩)⟩
/-- the item at N raises -/
theorem rx_lcX {pre : β → Prop} {pf : β → List Rp} {res : β → Res} {j : Nat} {x : Str} {ps : List Str} {k : XC} (F : FnX Γ j x ps (SpX pre pf res)) {scope : Scope} {env' : α → List Sl} {js : List Nat} (own : List (Str × Nat)) (y : α → β) (N : Nat) (h : α → Rp) (hi : RI Γ L E tg iter env xs f)
    (hg : ∀ x ∈ xs, RG Γ (blkL L scope) E.b tg js (wipeE env (own.map (·.2))) (f x) (env' x))
    (ha : ∀ x ∈ xs, RA Γ (blkL L scope) E.b (e :: es) (env' x) (pf (y x))) (hy : ∀ (i : Nat) (x : α), xs[i]? = some x → i ≤ N → pre (y x)) (hr : ∀ (i : Nat) (x : α), xs[i]? = some x → i < N → res (y x) = .ok (h x)) (hx : ∃ x, xs[N]? = some x ∧ res (y x) = .err k) (hz : xs.length < sizeLine) (hdf : L.df = true := by rfl)
    (hj : ∀ j ∈ js, j ∈ own.map (·.2) := by decide) (hok : blkC L.N L.sc scope own = true := by decide +kernel) (hf : ∀ (en : Env) x, foldedSetIterable iter en x = pure x := by intro _ _; rfl) (hjk : j ≤ E.k := by exact Nat.le_of_ble_eq_true rfl) (hgl : gloB (blkL L scope) x = true := by decide +kernel)
    (hs : ∀ en : Env, starEach (e :: es) en = (false, eval e en) :: starEach es en := by intro _; rfl) (hp : ∀ (q : Pos) (en : Env), (backTo q (starEach es en)).any (·.1) = false := by intro _ _; rfl) :
    RX Γ L E (.ListComp (.Call (.Name x p) (e :: es) [] cpos) [⟨tg, iter, [], 0⟩] scope pos) env k := by
  obtain ⟨x1, hx1, hre⟩ := hx
  have hN : N ≤ xs.length := Nat.le_of_lt (List.getElem?_eq_some_iff.mp hx1).1
  obtain ⟨t, h1, h2⟩ := lcx_read (p := p) (cpos := cpos) (pos := pos) (h := h) F own y N hN hi hg ha hy hr hz hdf hj hok hf hjk hgl hs hp
  exact ⟨t, h1, fun H0 B H σ Q s q => h2 H0 B H σ Q s (.inr ⟨x1, k, hx1, hre, q⟩)⟩
/-- an argument of a class's call that raises -/
theorem rx_mkArg {x : Str} {C : Addr} {j : Nat} {ps : List Str} {γ : Type} {pre : γ → Prop} {pa : γ → List Rp} {pfl : γ → List (Str × Rp)} {k : XC} (F : FnI Γ C j x ps (SpI C pre pa pfl)) (ha : RXA Γ L E (e :: es) env k) (hj : j + 1 ≤ E.k := by exact Nat.le_of_ble_eq_true rfl)
    (hg : gloB L x = true := by decide +kernel) (hs : ∀ en : Env, starEach (e :: es) en = (false, eval e en) :: starEach es en := by intro _; rfl) (hp : ∀ (q : Pos) (en : Env), (backTo q (starEach es en)).any (·.1) = false := by intro _ _; rfl) :
    RX Γ L E (.Call (.Name x p) (e :: es) [] pos) env k := by
  obtain ⟨t, h1, h2⟩ := ha
  obtain ⟨f, fd, f1, M, hbd, ok⟩ := F.ex
  refine ⟨tMake C (SpI C pre pa pfl) [] E0 t, fun X o => ?_, fun H0 B H σ Q s q => h2 H0 B H σ _ s q⟩
  have ok' : FnOk X.prog X.w X.K X.mg X.base CX0 j f fd ps (SpI C pre pa pfl) := by rw [o.prog, o.w, o.K, o.mg, o.base]; exact ok
  exact pe_make (by rw [o.K]; exact M) ok' (o.room.mono hj) (o.gl hg) (by rw [o.mg]; exact f1) (by rw [o.K]; exact hbd) .nil pass0 (h1 X o) (gloB_ok hg).2.1 (hs _) (hp _ _)
end
end Rl
/-! text RL18 -/
set_option Elab.async false
set_option linter.all false
set_option maxRecDepth 100000
set_option maxHeartbeats 4000000
namespace Rl
open PySem PySem.Spec PyProof.Rows L2
def Pd.ex {α : Type} (P : α → Pd) : Pd := ⟨fun H0 B H => ∃ x, (P x).ok H0 B H, fun g ⟨x, h⟩ => ⟨x, (P x).grow g h⟩⟩
def Pd.tt : Pd := ⟨fun _ _ _ => True, fun _ h => h⟩
/-- an own list of data -/
def pLst (p : Addr) (rs : List Rp) : Pd := ⟨fun H0 B H => ∃ vs, OwnAt H0 B H p (.lst vs) ∧ Oks B rs vs, fun g ⟨vs, h1, h2⟩ => ⟨vs, h1.grow g, h2.mono g.b⟩⟩
section
variable {Γ : Cg} {L : Lc} {E : Wc} {env env1 env2 : List Sl} {e a b c tg iter elt : Expr} {es : List Expr} {pos p pos' apos : Pos} {r ra rb rc : Rp} {rs : List Rp} {s : Stmt} {rest ss A Bs body : List Stmt} {o : OutQ} {P P1 P2 P3 : Pd}
theorem qs_ex {α : Type} {P : α → Pd} (h : ∀ x, QS Γ L E ss env (P x) o) : QS Γ L E ss env (Pd.ex P) o := by
  refine ⟨fun D σ H => ∃ x, (h x).choose D σ H, fun X k => ⟨fun pins s1 σ1 H1 D1 I1 ⟨x, z⟩ => ((h x).choose_spec.1 X k).run pins s1 σ1 H1 D1 I1 z⟩, fun H0 B0 B H σ D k ⟨x, p⟩ g q => ⟨x, (h x).choose_spec.2 H0 B0 B H σ D k p g q⟩⟩
/-- x = a new list of one's own -/
theorem qs_own (i : Nat) {x : Str} (hn : noAB env = true) (he : RF Γ L E e env rs) (hr : ∀ l : Addr, QS Γ L E rest (env.set i (.dat (rV (.ref l)))) (pLst l rs) o) (hb : stoB L i x = true := by decide +kernel)
    (hs : ∀ en : Env, en.scope = L.sc → swapsWith e (some (.Name x p)) pos.line en = pure false := by intro _ _; rfl) : QS Γ L E (.Assign [.Name x p] e pos :: rest) env P o := by
  obtain ⟨t, e1, e2⟩ := he
  obtain ⟨h1, h2, h3⟩ := stoB_ok hb
  have hset : ∀ (H0 B H : Hp) (σ : L2.St) (l : Addr), Sok H0 B H σ env → Sok H0 B H (σ.set i (some (.ref l))) (env.set i (.dat (rV (.ref l)))) := fun H0 B H σ l k => k.set rfl
  refine ⟨tSeq (tAsg t (gName i)) (fun D σ H => ∃ l, (hr l).choose D σ H), fun X k => pss_cons (ps_set (by rw [k.N]; exact k.nd) (by rw [k.N]; exact h1) (by rw [k.sc]; exact h2) (e1 X k) (hs _ k.sc) (by
    rcases h3 with h3 | h3
    · exact .inr (by rw [k.sc]; exact h3)
    · exact .inl (k.fn h3 x))) ⟨fun pins s1 σ1 H1 D1 I1 ⟨l, z⟩ => ((hr l).choose_spec.1 X k).run pins s1 σ1 H1 D1 I1 z⟩, fun H0 B0 B H σ D k p g q => e2 H0 B H σ _ k fun l vs B2 H2 g2 a1 a2 a3 a4 => ?_⟩
  have gf := g2.frame k.e0
  exact ⟨l, (hr l).choose_spec.2 H0 B0 B2 H2 _ D (hset _ _ _ _ _ (k.move hn gf.b gf.i gf.h)) ⟨vs, ⟨a1, a2, k.e0.free a3⟩, a4⟩ (g.trans0 gf) q⟩
/-- the own is handed out -/
theorem q1_retP {v : V} (he : QE Γ L E e env P (rV v) P1) (hP : ∀ H0 B H, P1.ok H0 B H → Same B H → Same H0 H → ∃ B2, Grow B H0 B2 H ∧ r.ok B2 v) : Q1 Γ L E (.Return (some e) pos) env P (.ret r Pd.tt) := by
  obtain ⟨t, h1, h2⟩ := he
  refine ⟨tRet t, fun X k => ps_ret (h1 X k), fun H0 B0 B H σ D k p g q => h2 H0 B H σ _ k p fun u B2 H2 g2 p2 hu => ?_⟩
  have hu : u = v := hu
  subst hu
  obtain ⟨B3, g3, hr⟩ := hP _ _ _ p2 g2.i g2.h
  exact q u B3 H2 ((g.trans0 g2).trans0 g3) trivial hr
/-- for, the slots and the changed told by the count of turns -/
theorem q1_upto {α : Type} {xs : List α} {f : α → Rp} (S : Nat → List Sl) (PP : Nat → Pd) (hS : ∀ n, noAB (S n) = true) (he : env = S 0) (hP : P = PP 0) (hi : RI Γ L E tg iter env xs f)
    (h : ∀ n x, xs[n]? = some x → ∃ js e1 e2, RG Γ L E tg js (S n) (f x) e1 ∧ noAB e1 = true ∧ QS Γ L E body e1 (PP n) (.nx e2 (PP (n + 1))) ∧ EnvLe e2 (S (n + 1)))
    (hf : ∀ (en : Env) x, foldedSetIterable iter en x = pure x := by intro _ _; rfl) : Q1 Γ L E (.For tg iter body [] pos) env P (.nx (S xs.length) (PP xs.length)) := by
  subst he hP
  obtain ⟨ti, i1, i2⟩ := hi
  refine ⟨tFor ti (fun v σ H Q => ∃ (js : List Nat) (e1 : List Sl) (r : Rp) (e2 : List Sl) (hg : RG Γ L E tg js e1 r e2), hg.choose v σ H Q) (fun D σ H => ∃ (e1 : List Sl) (P : Pd) (o : OutQ) (hb : QS Γ L E body e1 P o), hb.choose D σ H),
    fun X k => ps_for k.own k.calm (i1 X k) ?_ ?_ (hf _), fun H0 B0 B H σ D s p g q => i2 H0 B H σ _ s fun J B1 H1 g1 T => ?_⟩
  · exact ⟨fun pins s1 σ1 H1 v u Q1 I1 r1 ⟨js, e1, r, e2, hg, z⟩ => (hg.choose_spec.1 X k).run pins s1 σ1 H1 v u Q1 I1 r1 z⟩
  · exact ⟨fun pins s1 σ1 H1 D1 I1 ⟨e1, P, o, hb, z⟩ => (hb.choose_spec.1 X k).run pins s1 σ1 H1 D1 I1 z⟩
  have g1f := g1.frame s.e0
  refine ⟨fun i m σ' H' => m = xs.length - i ∧ i ≤ xs.length ∧ ∃ B', Sok H0 B' H' σ' (S i) ∧ (PP i).ok H0 B' H' ∧ Grow B0 H0 B' H' ∧ Same B1 B', ⟨xs.length, rfl, Nat.zero_le _, B1, s.grow g1, (PP 0).grow g1 p, g.trans0 g1f, Same.refl _⟩, fun i m σ' H' ⟨hm, hi2, B', hS', hP', hG, hB⟩ => ?_⟩
  have tt := T i B' H' hB hS'.ex
  by_cases hil : i = xs.length
  · left
    subst hil
    exact ⟨tt.2 rfl, q σ' B' H' hS' hP' hG⟩
  · right
    have hlt : i < xs.length := by omega
    have hxi : xs[i]? = some xs[i] := List.getElem?_eq_getElem hlt
    obtain ⟨go, yl⟩ := tt.1 _ hxi
    refine ⟨go, fun σ5 H5 => ∃ B5, Sok H0 B5 H5 σ5 (S (i + 1)) ∧ (PP (i + 1)).ok H0 B5 H5 ∧ Grow B0 H0 B5 H5 ∧ Same B1 B5, fun σ5 H5 ⟨B5, a2, a5, a3, a4⟩ => ⟨xs.length - (i + 1), by omega, rfl, by omega, B5, a2, a5, a3, a4⟩, fun v H2 y => ?_⟩
    obtain ⟨B2, g2, k2⟩ := yl v H2 y
    have s2 : Sok H0 B2 H2 σ' (S i) := hS'.grow g2
    have p2 := (PP i).grow g2 hP'
    have g2f := g2.frame hS'.e0
    obtain ⟨js, e1, e2, hg, hne, hb, hl⟩ := h i _ hxi
    exact ⟨_, _, _, _, hg, hg.choose_spec.2 H0 B2 H2 σ' v _ s2 k2 fun σ3 s3 _ _ => ⟨_, _, _, hb, hb.choose_spec.2 H0 B2 B2 H2 σ3 _ s3 p2 (Grow.at0 g2.i s2.e0) fun σ4 B4 H4 s4 p4 g4 => ⟨B4, s4.weak hl, p4, (hG.trans0 g2f).trans0 g4, (hB.trans g2.b).trans g4.b⟩⟩⟩
/-! new things with own things within -/
/-- a new list of texts -/
def QF (Γ : Cg) (L : Lc) (E : Wc) (e : Expr) (env : List Sl) (P : Pd) (ss : List Str) : Prop :=
  ∃ t : TE, (∀ X, Ok Γ L E X → PE X e t) ∧ ∀ (H0 B H : Hp) (σ : L2.St) (Q : VK), Sok H0 B H σ env → P.ok H0 B H → (∀ l B2 H2, Grow B H B2 H2 → H2 l = some (.lst (ss.map V.str)) → B2 l = none → H l = none → Q (.ref l) H2) → t σ H Q
theorem oks_strs {B : Hp} {ss : List Str} {vs : List V} (h : Oks B (ss.map rS) vs) : vs = ss.map V.str := Oks.eqs (fun _ _ q => q) h
theorem qf_of {ss : List Str} (h : RF Γ L E e env (ss.map rS)) : QF Γ L E e env P ss := by
  obtain ⟨t, h1, h2⟩ := h
  exact ⟨t, h1, fun H0 B H σ Q s p q => h2 H0 B H σ Q s fun l vs B2 H2 g a1 a2 a3 a4 => q l B2 H2 g (by rw [← oks_strs a4]; exact a1) a2 a3⟩
theorem qf_look {ss : List Str} (w : View env P env1) (h : RF Γ L E e env1 (ss.map rS)) : QF Γ L E e env P ss := by
  obtain ⟨t, h1, h2⟩ := h
  exact ⟨t, h1, fun H0 B H σ Q s p q => h2 H H H σ Q (w H0 B H σ s p) fun l vs B2 H2 g a1 a2 a3 a4 => q l B H2 (Grow.stay s.ex g.h) (by rw [← oks_strs a4]; exact a1) (s.ex.free a3) a3⟩
/-- an expression that changes nothing of what stood -/
def QG (Γ : Cg) (L : Lc) (E : Wc) (e : Expr) (env : List Sl) (P : Pd) (r : Rp) : Prop :=
  ∃ t : TE, (∀ X, Ok Γ L E X → PE X e t) ∧ ∀ (H0 B H : Hp) (σ : L2.St) (Q : VK), Sok H0 B H σ env → P.ok H0 B H → (∀ v B2 H2, Grow B H B2 H2 → r.ok B2 v → Q v H2) → t σ H Q
theorem qg_of (h : RE Γ L E e env r) : QG Γ L E e env P r := by
  obtain ⟨t, h1, h2⟩ := h
  exact ⟨t, h1, fun H0 B H σ Q s p q => h2 H0 B H σ Q s q⟩
theorem qg_look {v : V} (w : View env P env1) (h : RE Γ L E e env1 (rV v)) : QG Γ L E e env P (rV v) := by
  obtain ⟨t, h1, h2⟩ := h
  exact ⟨t, h1, fun H0 B H σ Q s p q => h2 H H H σ Q (w H0 B H σ s p) fun u B2 H2 g k => q u B H2 (Grow.stay s.ex g.h) k⟩
theorem QG.qe (h : QG Γ L E e env P r) : QE Γ L E e env P r P := by
  obtain ⟨t, h1, h2⟩ := h
  exact ⟨t, h1, fun H0 B H σ Q s p q => h2 H0 B H σ Q s p fun v B2 H2 g k => q v B2 H2 (g.frame s.e0) (P.grow g p) k⟩
/-- three: a text and two new lists of texts -/
theorem pa3 {s1 s2 : List Str} {t : Str} (h1 : QG Γ L E a env P (rS t)) (h2 : QF Γ L E b env P s1) (h3 : QF Γ L E c env P s2)
    (hs1 : ∀ en : Env, starEach [a, b, c] en = (false, eval a en) :: starEach [b, c] en) (hs2 : ∀ en : Env, starEach [b, c] en = (false, eval b en) :: starEach [c] en) (hs3 : ∀ en : Env, starEach [c] en = (false, eval c en) :: starEach [] en) :
    ∃ ta : TA, (∀ X, Ok Γ L E X → PA X [a, b, c] ta) ∧ ∀ (H0 B H : Hp) (σ : L2.St) (Q : List V → Hp → Prop), Sok H0 B H σ env → P.ok H0 B H →
      (∀ x y B2 H2, Grow B H B2 H2 → H2 x = some (.lst (s1.map V.str)) → B2 x = none → H x = none → H2 y = some (.lst (s2.map V.str)) → B2 y = none → H y = none → x ≠ y → Q [.str t, .ref x, .ref y] H2) → ta σ H Q := by
  obtain ⟨t1, a1, a2⟩ := h1
  obtain ⟨t2, b1, b2⟩ := h2
  obtain ⟨t3, c1, c2⟩ := h3
  refine ⟨tCons t1 (tCons t2 (tCons t3 tNil)), fun X o => pa_cons (a1 X o) (pa_cons (b1 X o) (pa_cons (c1 X o) pa_nil (hs3 _)) (hs2 _)) (hs1 _), fun H0 B H σ Q s p q => a2 H0 B H σ _ s p fun v B1 H1 g1 hv => ?_⟩
  have hv : v = .str t := hv
  subst hv
  have s1' := s.grow g1
  have p1 := P.grow g1 p
  refine b2 H0 B1 H1 σ _ s1' p1 fun x B2 H2 g2 x1 x2 x3 => ?_
  refine c2 H0 B2 H2 σ _ (s1'.grow g2) (P.grow g2 p1) fun y B3 H3 g3 y1 y2 y3 => ?_
  exact q x y B3 H3 ((g1.trans g2).trans g3) (g3.h _ _ x1) (g3.acc x1 x2) (g1.h.free x3) y1 y2 ((g1.h.trans g2.h).free y3) fun z => by rw [z, y3] at x1; cases x1
/-- the own three: q holds a text and two own lists of texts -/
def own3 (tup : Bool) (s : Str) (s1 s2 : List Str) (q a b : Addr) (H0 B H : Hp) : Prop := OwnAt H0 B H q (if tup then .tup [.str s, .ref a, .ref b] else .lst [.str s, .ref a, .ref b]) ∧ OwnAt H0 B H a (.lst (s1.map V.str)) ∧ OwnAt H0 B H b (.lst (s2.map V.str))
/-- o.append((s, [..], [..])), or [s, [..], [..]]: the new one is the def's own -/
theorem q1_append3 (tup : Bool) {d : Expr} {cpos dpos : Pos} {kk : Nat} {l : Addr} {s1 s2 : List Str} {t : Str} (hd : d = if tup then .Tuple [a, b, c] kk dpos else .List [a, b, c] dpos) (hn : noAB env = true) (ho : QG Γ L E e env P (rV (.ref l))) (h1 : QG Γ L E a env P (rS t)) (h2 : QF Γ L E b env P s1) (h3 : QF Γ L E c env P s2)
    (hm : ∀ (H0 B H B2 H2 : Hp) (q x y : Addr), P.ok H0 B H → P.ok H0 B2 H2 → (∀ b u, H b = some u → H2 b = some u) → H q = none → H x = none → H y = none → own3 tup t s1 s2 q x y H0 B2 H2 → x ≠ y → q ≠ x → q ≠ y → ∃ vs, OwnAt H0 B2 H2 l (.lst vs) ∧ vs.length < sizeLine ∧ P2.ok H0 B2 (upd H2 l (.lst (vs ++ [.ref q]))))
    (hl : ∀ (H0 B H : Hp), P.ok H0 B H → ∃ vs, H l = some (.lst vs)) (hs1 : ∀ en : Env, starEach [a, b, c] en = (false, eval a en) :: starEach [b, c] en := by intro _; rfl) (hs2 : ∀ en : Env, starEach [b, c] en = (false, eval b en) :: starEach [c] en := by intro _; rfl) (hs3 : ∀ en : Env, starEach [c] en = (false, eval c en) :: starEach [] en := by intro _; rfl)
    (hbase : ∀ en : Env, attributeBase e "append" en (eval e en) = eval e en := by intro _; rfl) (hs : ∀ en : Env, starEach [d] en = (false, eval d en) :: starEach [] en := by intro _; rfl) (hline : (apos.endLine == cpos.line) = true := by rfl) 
    (hfew : ∀ en : Env, ((backTo cpos (starEach [d] en)).all (fun x => !x.1) && (backToKw cpos (keywordEach [] en)).all (fun x => x.1.isSome)
      && decide (([d] : List Expr).length + ([] : List Keyword).length + (if ([] : List Keyword).isEmpty then 0 else 1) < 30)) = true := by intro _; rfl) (hsw : ∀ en : Env, swapsWith (.Call (.Attribute e "append" apos) [d] [] cpos) none pos.line en = pure false := by intro _; rfl) :
    Q1 Γ L E (.Expr (.Call (.Attribute e "append" apos) [d] [] cpos) pos) env P (.nx env P2) := by
  obtain ⟨to, o1, o2⟩ := ho
  obtain ⟨ta, a1, a2⟩ := pa3 h1 h2 h3 hs1 hs2 hs3
  have key : ∀ (H0 B H : Hp) (σ : L2.St) (Q : VK), Sok H0 B H σ env → P.ok H0 B H → (∀ q x y B2 H2, Grow B H B2 H2 → own3 tup t s1 s2 q x y H0 B2 H2 → H q = none → H x = none → H y = none → x ≠ y → q ≠ x → q ≠ y → Q (.ref q) H2) → (if tup then tTup ta else tLst ta) σ H Q := by
    intro H0 B H σ Q s p q
    have : ∀ (w : HO), (w = if tup then HO.tup [] else .lst []) → True := fun _ _ => trivial
    cases tup with
    | true =>
      show tTup ta σ H Q
      refine a2 H0 B H σ _ s p fun x y B2 H2 g x1 x2 x3 y1 y2 y3 hxy => ⟨Nat.le_of_ble_eq_true rfl, fun q' hq' => ?_⟩
      have hqx : q' ≠ x := fun z => by rw [z, x1] at hq'; cases hq'
      have hqy : q' ≠ y := fun z => by rw [z, y1] at hq'; cases hq'
      exact q q' x y B2 _ (g.trans (Grow.stay g.i (same_new hq' _))) ⟨⟨upd_same, g.i.free hq', s.e0.free (g.h.free hq')⟩, ⟨by rw [upd_ne (Ne.symm hqx)]; exact x1, x2, s.e0.free x3⟩, ⟨by rw [upd_ne (Ne.symm hqy)]; exact y1, y2, s.e0.free y3⟩⟩ (g.h.free hq') x3 y3 hxy hqx hqy
    | false =>
      show tLst ta σ H Q
      refine a2 H0 B H σ _ s p fun x y B2 H2 g x1 x2 x3 y1 y2 y3 hxy => ⟨Nat.le_of_ble_eq_true rfl, fun q' hq' => ?_⟩
      have hqx : q' ≠ x := fun z => by rw [z, x1] at hq'; cases hq'
      have hqy : q' ≠ y := fun z => by rw [z, y1] at hq'; cases hq'
      exact q q' x y B2 _ (g.trans (Grow.stay g.i (same_new hq' _))) ⟨⟨upd_same, g.i.free hq', s.e0.free (g.h.free hq')⟩, ⟨by rw [upd_ne (Ne.symm hqx)]; exact x1, x2, s.e0.free x3⟩, ⟨by rw [upd_ne (Ne.symm hqy)]; exact y1, y2, s.e0.free y3⟩⟩ (g.h.free hq') x3 y3 hxy hqx hqy
  have dp : ∀ X, Ok Γ L E X → PE X d (if tup then tTup ta else tLst ta) := fun X o => by
    subst hd
    cases tup with
    | true => exact pe_tup (a1 X o)
    | false => exact pe_lst (a1 X o)
  refine ⟨tDrop (tBM Γ.K "list" rAppend to (tCons (if tup then tTup ta else tLst ta) tNil)), fun X k => ps_expr (by have z := pe_bm (X := X) (cpos := cpos) (apos := apos) PySem.F.plainAttrs_list PySem.F.slot_list_append PySem.F.type_list_append mt_append (o1 X k) (pa_cons (dp X k) pa_nil (hs _)) (hbase _) (hfew _) hline (hs _) rfl; rw [k.K] at z; exact z) (hsw _), fun H0 B0 B H σ D k p g q => o2 H0 B H σ _ k p fun u B1 H1 g1 hu => ?_⟩
  have hu : u = .ref l := hu
  subst hu
  have p1 := P.grow g1 p
  obtain ⟨vs0, hv0⟩ := hl _ _ _ p1
  refine ⟨.inl ⟨rfl, vs0, SqL.of hv0⟩, key H0 B1 H1 σ _ (k.grow g1) p1 fun q' x y B2 H2 g2 w1 w2 w3 w4 w5 w6 w7 => ?_⟩
  obtain ⟨vs, ow, hz, p3⟩ := hm H0 B1 H1 B2 H2 q' x y p1 (P.grow g2 p1) g2.h w2 w3 w4 w1 w5 w6 w7
  have gg := ((g1.trans g2).frame k.e0).mut2 (o := .lst (vs ++ [.ref q'])) ow.2.1 ow.2.2
  exact ⟨l, vs, .ref q', rfl, rfl, ow.1, hz, q σ B2 _ (k.move hn gg.b gg.i gg.h) p3 (g.trans0 gg)⟩
/-- what is changed is from here on sure -/
theorem qs_freeze (hn : noAB env = true) (h : ∀ H0 B H, P.ok H0 B H → Same B H → Same H0 H → ∃ B2, Grow B H0 B2 H ∧ P1.ok H0 B2 H) (hs : QS Γ L E ss env P1 o) : QS Γ L E ss env P o := by
  obtain ⟨t, h1, h2⟩ := hs
  refine ⟨t, h1, fun H0 B0 B H σ D k p g q => ?_⟩
  obtain ⟨B2, g2, p2⟩ := h _ _ _ p k.ex k.e0
  exact h2 H0 B0 B2 H σ D (k.move hn g2.b g2.i g2.h) p2 (g.trans0 g2) q
theorem view_set {i : Nat} {v : V} (hn : noAB env = true) (he : env[i]? = some (.dat (rV v))) (hr : ∀ H0 B H, P.ok H0 B H → Same B H → r.ok H v) : View env P (env.set i (.dat r)) := fun H0 B H σ s p => by
  have s1 : Sok H H H σ env := s.move hn s.ex (Same.refl _) (Same.refl _)
  obtain ⟨u, e1, e2⟩ := s1.dat he
  have e2 : u = v := e2
  subst e2
  have k := s1.set (i := i) (v := u) (r := r) (hr _ _ _ p s.ex)
  have es : σ.set i (some u) = σ := by
    apply List.ext_getElem?
    intro j
    by_cases hj : i = j
    · subst hj
      rw [List.getElem?_set_self (List.getElem?_eq_some_iff.mp e1).1, e1]
    · rw [List.getElem?_set_ne hj]
  rwa [es] at k
end
end Rl
/-! text D0 -/
set_option Elab.async false
set_option linter.all false
set_option maxRecDepth 100000
set_option maxHeartbeats 2000000
namespace K60
open PySem PySem.Spec PyProof.Rows L2 Rl
def top (i : Nat) : Stmt := PySem.Challenge.pw_allfirst_k60_whole_two_plans_judged.main.body.getD i (.Pass ⟨0, 0, 0, 0⟩)
def Lunder : Lc := ⟨["row", "other", "waits", "thing", "wait"], defScope (top 12), true⟩
theorem Sunder : FnScope Lunder.N ["row", "other"] (defScope (top 12)) := ⟨rfl, rfl, rfl, by decide +kernel, rfl, by decide +kernel, by decide +kernel⟩
def Ljoined : Lc := ⟨["row", "other", "waits", "thing", "wait"], defScope (top 13), true⟩
theorem Sjoined : FnScope Ljoined.N ["row", "other"] (defScope (top 13)) := ⟨rfl, rfl, rfl, by decide +kernel, rfl, by decide +kernel, by decide +kernel⟩
def Lshifted : Lc := ⟨["row", "wait", "thing", "own"], defScope (top 14), true⟩
theorem Sshifted : FnScope Lshifted.N ["row", "wait"] (defScope (top 14)) := ⟨rfl, rfl, rfl, by decide +kernel, rfl, by decide +kernel, by decide +kernel⟩
def Lthinned : Lc := ⟨["rows", "left", "row", "other"], defScope (top 15), true⟩
theorem Sthinned : FnScope Lthinned.N ["rows"] (defScope (top 15)) := ⟨rfl, rfl, rfl, by decide +kernel, rfl, by decide +kernel, by decide +kernel⟩
def Lthing_form : Lc := ⟨["thing"], defScope (top 17), true⟩
theorem Sthing_form : FnScope Lthing_form.N ["thing"] (defScope (top 17)) := ⟨rfl, rfl, rfl, by decide +kernel, rfl, by decide +kernel, by decide +kernel⟩
def Lwaited : Lc := ⟨["form", "wait", "row"], defScope (top 18), true⟩
theorem Swaited : FnScope Lwaited.N ["form", "wait"] (defScope (top 18)) := ⟨rfl, rfl, rfl, by decide +kernel, rfl, by decide +kernel, by decide +kernel⟩
def Lin_room : Lc := ⟨["form", "most"], defScope (top 19), true⟩
theorem Sin_room : FnScope Lin_room.N ["form", "most"] (defScope (top 19)) := ⟨rfl, rfl, rfl, by decide +kernel, rfl, by decide +kernel, by decide +kernel⟩
def Lfirst_of : Lc := ⟨["forms", "most", "made", "form"], defScope (top 20), true⟩
theorem Sfirst_of : FnScope Lfirst_of.N ["forms", "most"] (defScope (top 20)) := ⟨rfl, rfl, rfl, by decide +kernel, rfl, by decide +kernel, by decide +kernel⟩
def Lboth_of : Lc := ⟨["one", "other", "rows", "row", "more"], defScope (top 21), true⟩
theorem Sboth_of : FnScope Lboth_of.N ["one", "other"] (defScope (top 21)) := ⟨rfl, rfl, rfl, by decide +kernel, rfl, by decide +kernel, by decide +kernel⟩
def Lall_of : Lc := ⟨["forms", "most", "made", "form"], defScope (top 22), true⟩
theorem Sall_of : FnScope Lall_of.N ["forms", "most"] (defScope (top 22)) := ⟨rfl, rfl, rfl, by decide +kernel, rfl, by decide +kernel, by decide +kernel⟩
def Lput_into : Lc := ⟨["form", "forms", "most", "made", "row", "thing", "wait"], defScope (top 23), true⟩
theorem Sput_into : FnScope Lput_into.N ["form", "forms", "most"] (defScope (top 23)) := ⟨rfl, rfl, rfl, by decide +kernel, rfl, by decide +kernel, by decide +kernel⟩
def Lmore_waited : Lc := ⟨["row", "other", "waits", "most", "thing", "wait"], defScope (top 25), true⟩
theorem Smore_waited : FnScope Lmore_waited.N ["row", "other"] (defScope (top 25)) := ⟨rfl, rfl, rfl, by decide +kernel, rfl, by decide +kernel, by decide +kernel⟩
def Lnearest_row : Lc := ⟨["form", "row", "best", "number", "more"], defScope (top 26), true⟩
theorem Snearest_row : FnScope Lnearest_row.N ["form", "row"] (defScope (top 26)) := ⟨rfl, rfl, rfl, by decide +kernel, rfl, by decide +kernel, by decide +kernel⟩
def Lhours_against : Lc := ⟨["one", "row", "turns", "many", "late", "mine", "pair", "hours", "thing", "wait"], defScope (top 27), true⟩
theorem Shours_against : FnScope Lhours_against.N ["one", "row", "turns", "many"] (defScope (top 27)) := ⟨rfl, rfl, rfl, by decide +kernel, rfl, by decide +kernel, by decide +kernel⟩
def Llater_by : Lc := ⟨["one", "other", "turns", "many", "row", "best"], defScope (top 28), true⟩
theorem Slater_by : FnScope Llater_by.N ["one", "other", "turns", "many"] (defScope (top 28)) := ⟨rfl, rfl, rfl, by decide +kernel, rfl, by decide +kernel, by decide +kernel⟩
def Lcompared : Lc := ⟨["one", "other", "many"], defScope (top 29), true⟩
theorem Scompared : FnScope Lcompared.N ["one", "other", "many"] (defScope (top 29)) := ⟨rfl, rfl, rfl, by decide +kernel, rfl, by decide +kernel, by decide +kernel⟩
def Lplan_by : Lc := ⟨["book", "name", "plan"], defScope (top 33), true⟩
theorem Splan_by : FnScope Lplan_by.N ["book", "name"] (defScope (top 33)) := ⟨rfl, rfl, rfl, by decide +kernel, rfl, by decide +kernel, by decide +kernel⟩
def Lmade_form : Lc := ⟨["book", "how", "parts", "most"], defScope (top 35), true⟩
theorem Smade_form : FnScope Lmade_form.N ["book", "how", "parts", "most"] (defScope (top 35)) := ⟨rfl, rfl, rfl, by decide +kernel, rfl, by decide +kernel, by decide +kernel⟩
def Lforms_of : Lc := ⟨["book", "name", "most", "plan", "found", "thing", "row", "parts", "wait"], defScope (top 36), true⟩
theorem Sforms_of : FnScope Lforms_of.N ["book", "name", "most"] (defScope (top 36)) := ⟨rfl, rfl, rfl, by decide +kernel, rfl, by decide +kernel, by decide +kernel⟩
def Ltold_form : Lc := ⟨["book", "name", "most"], defScope (top 37), true⟩
theorem Stold_form : FnScope Ltold_form.N ["book", "name", "most"] (defScope (top 37)) := ⟨rfl, rfl, rfl, by decide +kernel, rfl, by decide +kernel, by decide +kernel⟩
def Lis_name : Lc := ⟨["text", "sign"], defScope (top 43), true⟩
theorem Sis_name : FnScope Lis_name.N ["text"] (defScope (top 43)) := ⟨rfl, rfl, rfl, by decide +kernel, rfl, by decide +kernel, by decide +kernel⟩
def Llook_at_names : Lc := ⟨["names", "seen", "name"], defScope (top 44), true⟩
theorem Slook_at_names : FnScope Llook_at_names.N ["names"] (defScope (top 44)) := ⟨rfl, rfl, rfl, by decide +kernel, rfl, by decide +kernel, by decide +kernel⟩
def Llook_at_plan : Lc := ⟨["plan", "at", "row", "thing", "wait"], defScope (top 45), true⟩
theorem Slook_at_plan : FnScope Llook_at_plan.N ["plan"] (defScope (top 45)) := ⟨rfl, rfl, rfl, by decide +kernel, rfl, by decide +kernel, by decide +kernel⟩
def Llook_at_parts : Lc := ⟨["plan", "ahead", "row"], defScope (top 46), true⟩
theorem Slook_at_parts : FnScope Llook_at_parts.N ["plan", "ahead"] (defScope (top 46)) := ⟨rfl, rfl, rfl, by decide +kernel, rfl, by decide +kernel, by decide +kernel⟩
def Lweights_of : Lc := ⟨["book", "found", "plan", "total", "row"], defScope (top 47), true⟩
theorem Sweights_of : FnScope Lweights_of.N ["book"] (defScope (top 47)) := ⟨rfl, rfl, rfl, by decide +kernel, rfl, by decide +kernel, by decide +kernel⟩
def Llooked : Lc := ⟨["book", "plan", "row", "ahead", "weights", "name"], defScope (top 48), true⟩
theorem Slooked : FnScope Llooked.N ["book"] (defScope (top 48)) := ⟨rfl, rfl, rfl, by decide +kernel, rfl, by decide +kernel, by decide +kernel⟩
def Lare_figures : Lc := ⟨["text", "sign"], defScope (top 51), true⟩
theorem Sare_figures : FnScope Lare_figures.N ["text"] (defScope (top 51)) := ⟨rfl, rfl, rfl, by decide +kernel, rfl, by decide +kernel, by decide +kernel⟩
def Litem_of : Lc := ⟨["text", "mark", "parts"], defScope (top 52), true⟩
theorem Sitem_of : FnScope Litem_of.N ["text"] (defScope (top 52)) := ⟨rfl, rfl, rfl, by decide +kernel, rfl, by decide +kernel, by decide +kernel⟩
def Litems_of : Lc := ⟨["text", "found", "part", "item"], defScope (top 53), true⟩
theorem Sitems_of : FnScope Litems_of.N ["text"] (defScope (top 53)) := ⟨rfl, rfl, rfl, by decide +kernel, rfl, by decide +kernel, by decide +kernel⟩
def Lmade_of : Lc := ⟨["name", "rest", "how", "gap", "behind", "items"], defScope (top 54), true⟩
theorem Smade_of : FnScope Lmade_of.N ["name", "rest"] (defScope (top 54)) := ⟨rfl, rfl, rfl, by decide +kernel, rfl, by decide +kernel, by decide +kernel⟩
def Lrecord_of : Lc := ⟨["row", "word", "gap", "rest", "blanks"], defScope (top 55), true⟩
theorem Srecord_of : FnScope Lrecord_of.N ["row"] (defScope (top 55)) := ⟨rfl, rfl, rfl, by decide +kernel, rfl, by decide +kernel, by decide +kernel⟩
def Lmay_stand : Lc := ⟨["record", "last"], defScope (top 56), true⟩
theorem Smay_stand : FnScope Lmay_stand.N ["record", "last"] (defScope (top 56)) := ⟨rfl, rfl, rfl, by decide +kernel, rfl, by decide +kernel, by decide +kernel⟩
def Lplaced : Lc := ⟨["rows", "found", "last", "k", "record"], defScope (top 57), true⟩
theorem Splaced : FnScope Lplaced.N ["rows"] (defScope (top 57)) := ⟨rfl, rfl, rfl, by decide +kernel, rfl, by decide +kernel, by decide +kernel⟩
def Lparted_plans : Lc := ⟨["records", "found", "k", "record"], defScope (top 58), true⟩
theorem Sparted_plans : FnScope Lparted_plans.N ["records"] (defScope (top 58)) := ⟨rfl, rfl, rfl, by decide +kernel, rfl, by decide +kernel, by decide +kernel⟩
def Lplan_of : Lc := ⟨["name", "givens", "made", "names", "row", "record", "numbers", "k"], defScope (top 59), true⟩
theorem Splan_of : FnScope Lplan_of.N ["name", "givens", "made"] (defScope (top 59)) := ⟨rfl, rfl, rfl, by decide +kernel, rfl, by decide +kernel, by decide +kernel⟩
def Lrow_of : Lc := ⟨["numbers", "row", "record", "items", "thing", "wait"], defScope (top 60), true⟩
theorem Srow_of : FnScope Lrow_of.N ["numbers", "row", "record"] (defScope (top 60)) := ⟨rfl, rfl, rfl, by decide +kernel, rfl, by decide +kernel, by decide +kernel⟩
def Lread : Lc := ⟨["text", "parts", "book", "name", "givens", "made"], defScope (top 61), true⟩
theorem Sread : FnScope Lread.N ["text"] (defScope (top 61)) := ⟨rfl, rfl, rfl, by decide +kernel, rfl, by decide +kernel, by decide +kernel⟩
def Ljudged : Lc := ⟨["text", "one", "other", "most", "book", "many", "mine", "theirs"], defScope (top 63), true⟩
theorem Sjudged : FnScope Ljudged.N ["text", "one", "other", "most"] (defScope (top 63)) := ⟨rfl, rfl, rfl, by decide +kernel, rfl, by decide +kernel, by decide +kernel⟩
def Ll_cell_at : Lc := ⟨["script", "k"], defScope (top 65), true⟩
theorem Sl_cell_at : FnScope Ll_cell_at.N ["script", "k"] (defScope (top 65)) := ⟨rfl, rfl, rfl, by decide +kernel, rfl, by decide +kernel, by decide +kernel⟩
def Ll_whole : Lc := ⟨["found"], defScope (top 66), true⟩
theorem Sl_whole : FnScope Ll_whole.N ["found"] (defScope (top 66)) := ⟨rfl, rfl, rfl, by decide +kernel, rfl, by decide +kernel, by decide +kernel⟩
def Ll_name_by : Lc := ⟨["number", "used", "letters", "words", "more", "name", "rest"], defScope (top 67), true⟩
theorem Sl_name_by : FnScope Ll_name_by.N ["number", "used"] (defScope (top 67)) := ⟨rfl, rfl, rfl, by decide +kernel, rfl, by decide +kernel, by decide +kernel⟩
def Ll_names_by : Lc := ⟨["script", "many", "base", "step", "found", "k"], defScope (top 68), true⟩
theorem Sl_names_by : FnScope Ll_names_by.N ["script", "many"] (defScope (top 68)) := ⟨rfl, rfl, rfl, by decide +kernel, rfl, by decide +kernel, by decide +kernel⟩
def Ll_number_by : Lc := ⟨["cell", "size"], defScope (top 69), true⟩
theorem Sl_number_by : FnScope Ll_number_by.N ["cell"] (defScope (top 69)) := ⟨rfl, rfl, rfl, by decide +kernel, rfl, by decide +kernel, by decide +kernel⟩
def Ll_item : Lc := ⟨["cell", "ahead"], defScope (top 70), true⟩
theorem Sl_item : FnScope Ll_item.N ["cell", "ahead"] (defScope (top 70)) := ⟨rfl, rfl, rfl, by decide +kernel, rfl, by decide +kernel, by decide +kernel⟩
def Ll_row_by : Lc := ⟨["plans", "loads", "names", "what", "cell", "plan", "ahead", "name", "part", "many", "j"], defScope (top 71), true⟩
theorem Sl_row_by : FnScope Ll_row_by.N ["plans", "loads", "names", "what", "cell"] (defScope (top 71)) := ⟨rfl, rfl, rfl, by decide +kernel, rfl, by decide +kernel, by decide +kernel⟩
def Ll_grow : Lc := ⟨["plans", "loads", "names", "what", "cell", "plan", "kind", "many", "row"], defScope (top 72), true⟩
theorem Sl_grow : FnScope Ll_grow.N ["plans", "loads", "names", "what", "cell"] (defScope (top 72)) := ⟨rfl, rfl, rfl, by decide +kernel, rfl, by decide +kernel, by decide +kernel⟩
def Ll_plans_by : Lc := ⟨["script", "names", "plans", "loads", "k"], defScope (top 73), true⟩
theorem Sl_plans_by : FnScope Ll_plans_by.N ["script"] (defScope (top 73)) := ⟨rfl, rfl, rfl, by decide +kernel, rfl, by decide +kernel, by decide +kernel⟩
def Ll_item_text : Lc := ⟨["names", "item"], defScope (top 74), true⟩
theorem Sl_item_text : FnScope Ll_item_text.N ["names", "item"] (defScope (top 74)) := ⟨rfl, rfl, rfl, by decide +kernel, rfl, by decide +kernel, by decide +kernel⟩
def Ll_rows : Lc := ⟨["plans", "rows", "plan", "names", "row", "name", "how", "item"], defScope (top 75), true⟩
theorem Sl_rows : FnScope Ll_rows.N ["plans"] (defScope (top 75)) := ⟨rfl, rfl, rfl, by decide +kernel, rfl, by decide +kernel, by decide +kernel⟩
def Ll_run : Lc := ⟨["plans", "at", "hours", "told", "heads", "plan", "name", "how", "items", "come", "thing", "wait"], defScope (top 76), true⟩
theorem Sl_run : FnScope Ll_run.N ["plans", "at", "hours"] (defScope (top 76)) := ⟨rfl, rfl, rfl, by decide +kernel, rfl, by decide +kernel, by decide +kernel⟩
def Ll_hours : Lc := ⟨["script", "many", "turn", "hours", "thing", "cell", "mixed"], defScope (top 77), true⟩
theorem Sl_hours : FnScope Ll_hours.N ["script", "many", "turn"] (defScope (top 77)) := ⟨rfl, rfl, rfl, by decide +kernel, rfl, by decide +kernel, by decide +kernel⟩
def Ll_form : Lc := ⟨["text", "name", "most", "form"], defScope (top 78), true⟩
theorem Sl_form : FnScope Ll_form.N ["text", "name", "most"] (defScope (top 78)) := ⟨rfl, rfl, rfl, by decide +kernel, rfl, by decide +kernel, by decide +kernel⟩
def Ll_told : Lc := ⟨["text", "one", "other", "most", "found", "word"], defScope (top 79), true⟩
theorem Sl_told : FnScope Ll_told.N ["text", "one", "other", "most"] (defScope (top 79)) := ⟨rfl, rfl, rfl, by decide +kernel, rfl, by decide +kernel, by decide +kernel⟩
def Ll_spoilt : Lc := ⟨["script", "plans", "text", "which", "names", "own"], defScope (top 80), true⟩
theorem Sl_spoilt : FnScope Ll_spoilt.N ["script", "plans", "text", "which"] (defScope (top 80)) := ⟨rfl, rfl, rfl, by decide +kernel, rfl, by decide +kernel, by decide +kernel⟩
def Ll_class_right : Lc := ⟨["error", "which", "marks", "k"], defScope (top 81), true⟩
theorem Sl_class_right : FnScope Ll_class_right.N ["error", "which"] (defScope (top 81)) := ⟨rfl, rfl, rfl, by decide +kernel, rfl, by decide +kernel, by decide +kernel⟩
def Ll_caught : Lc := ⟨["text", "one", "other", "most", "caught", "e"], defScope (top 82), true⟩
theorem Sl_caught : FnScope Ll_caught.N ["text", "one", "other", "most"] (defScope (top 82)) := ⟨rfl, rfl, rfl, by decide +kernel, rfl, by decide +kernel, by decide +kernel⟩
def Ll_unlike_alone : Lc := ⟨["error"], defScope (top 83), true⟩
theorem Sl_unlike_alone : FnScope Ll_unlike_alone.N ["error"] (defScope (top 83)) := ⟨rfl, rfl, rfl, by decide +kernel, rfl, by decide +kernel, by decide +kernel⟩
def Ll_choice : Lc := ⟨["plans", "at", "cell", "many", "some", "to"], defScope (top 84), true⟩
theorem Sl_choice : FnScope Ll_choice.N ["plans", "at", "cell"] (defScope (top 84)) := ⟨rfl, rfl, rfl, by decide +kernel, rfl, by decide +kernel, by decide +kernel⟩
def Ll_parted : Lc := ⟨["plans", "at", "to", "hours", "sign", "hour"], defScope (top 85), true⟩
theorem Sl_parted : FnScope Ll_parted.N ["plans", "at", "to", "hours", "sign"] (defScope (top 85)) := ⟨rfl, rfl, rfl, by decide +kernel, rfl, by decide +kernel, by decide +kernel⟩
def Ll_right : Lc := ⟨["script", "plans", "at", "to", "pair", "k", "sign", "turn", "hours"], defScope (top 86), true⟩
theorem Sl_right : FnScope Ll_right.N ["script", "plans", "at", "to", "pair"] (defScope (top 86)) := ⟨rfl, rfl, rfl, by decide +kernel, rfl, by decide +kernel, by decide +kernel⟩
def Llaw : Lc := ⟨["script", "cell", "most", "plans", "text", "at", "to", "one", "other", "strange", "which", "bad", "found", "turned_pair", "part"], defScope (top 87), true⟩
theorem Slaw : FnScope Llaw.N ["script"] (defScope (top 87)) := ⟨rfl, rfl, rfl, by decide +kernel, rfl, by decide +kernel, by decide +kernel⟩
end K60
/-! text W1 -/
set_option Elab.async false
set_option linter.all false
set_option maxRecDepth 100000
set_option maxHeartbeats 4000000
namespace K60
open PySem PyProof.Rows Rl
open PySem.Spec hiding Row
open L2 (E0 XK Hp V)
/-! ### what is given of the module -/
def noNames : List Str := ["sorted", "dict", "max", "min", "len", "range", "any", "all", "list", "tuple", "int", "str", "abs", "bool", "isinstance", "enumerate", "ValueError"]
def words : List Str := ["plan", "given", "all", "first", "part"]
def lettersS : Str := "abcdefghijklmnopqrstuvwxyz"
def figsS : Str := "0123456789"
def FARi : Int := 10 ^ 30
structure Cls where
  TM : Addr
  BN : Addr
  BP : Addr
  BQ : Addr
  TL : Addr
  NP : Addr
  UL : Addr
  BR : Addr
  NN : Addr
  PL : Addr
  BK : Addr
structure Gk (Γ : Cg) (C : Cls) : Prop where
  bi : ∀ x ∈ noNames, Γ.mg x = none
  tm : ExP Γ "TooMany" C.TM
  bn : ExP Γ "BadName" C.BN
  bp : ExP Γ "BadPlan" C.BP
  bq : ExP Γ "BadPart" C.BQ
  tl : ExP Γ "TooLong" C.TL
  np : ExP Γ "NoPlan" C.NP
  ul : ExP Γ "Unlike" C.UL
  plc : L2.Cls Γ.K C.PL
  bkc : L2.Cls Γ.K C.BK
  pln : ∀ f ∈ (["name", "givens", "rows"] : List Str), L2.NoAttr Γ.K C.PL f
  bkn : L2.NoAttr Γ.K C.BK "plans"
  nn : ∃ fI, PySem.NnX.NnTxt Γ.K Γ.mg C.NN fI
  wd : ∃ wa, Γ.mg "WORDS" = some (.ref wa) ∧ ∀ H, L2.SqT Γ.K H wa (words.map V.str)
  lt : ∃ u, Γ.mg "LETTERS" = some u ∧ L2.RelV (.str lettersS) u
  fl : ∃ u, Γ.mg "FIGURES_looking" = some u ∧ L2.RelV (.str figsS) u
  fr : ∃ u, Γ.mg "FIGURES_reading" = some u ∧ L2.RelV (.str figsS) u
  far : ∃ u, Γ.mg "FAR" = some u ∧ L2.RelV (.int FARi) u
abbrev DfAt (Γ : Cg) (x : Str) (i : Nat) (ps : List Str) : Prop := DefAt Γ x (top i) ps
/-! ### rows -/
def RowOk (x : Row) : Prop := (x.map Prod.fst).Nodup ∧ x ≠ [] ∧ ∀ p ∈ x, 0 ≤ p.1 ∧ p.1 < 12
theorem nodup_lt : ∀ (n : Nat) (l : List Nat), l.Nodup → (∀ a ∈ l, a < n) → l.length ≤ n
  | 0, [], _, _ => Nat.le_refl _
  | 0, a :: l, _, h => absurd (h a List.mem_cons_self) (Nat.not_lt_zero _)
  | n + 1, l, hn, h => by
    have h1 := nodup_lt n (l.erase n) (hn.erase n) fun a ha => by
      obtain ⟨h2, h3⟩ := (hn.mem_erase_iff).mp ha
      have := h a h3
      omega
    have := List.length_erase (a := n) (l := l)
    split at this <;> omega
theorem RowOk.len {x : Row} (h : RowOk x) : x.length ≤ 12 := by
  have h1 : ((x.map Prod.fst).map Int.toNat).Nodup := by
    unfold List.Nodup
    rw [List.pairwise_map]
    refine List.Pairwise.imp_of_mem (fun {a b} ha hb hne e => hne ?_) h.1
    obtain ⟨p, hp, rfl⟩ := List.mem_map.mp ha
    obtain ⟨q, hq, rfl⟩ := List.mem_map.mp hb
    have := h.2.2 p hp
    have := h.2.2 q hq
    omega
  have h2 := nodup_lt 12 _ h1 fun a ha => by
    obtain ⟨b, hb, rfl⟩ := List.mem_map.mp ha
    obtain ⟨p, hp, rfl⟩ := List.mem_map.mp hb
    have := h.2.2 p hp
    omega
  simpa using h2
def underB (row other : Row) : Bool := row.all fun p => match other.lookup p.1 with
  | none => false
  | some w => decide (p.2 ≤ w)
theorem look_kvI (x : Row) (t : Int) : lookR (kvI x) (Sum.inl t) = (x.lookup t).map rI := by
  induction x with
  | nil => rfl
  | cons p x ih =>
    obtain ⟨k, v⟩ := p
    unfold lookR kvI at *
    rw [List.map_cons, List.find?_cons, List.lookup_cons]
    by_cases h : k = t
    · subst h
      simp
    · have h2 : (t == k) = false := by simpa using fun e => h e.symm
      rw [h2]
      simpa [h] using ih
theorem lt_not_le (a b : Int) : decide (a < b) = !decide (b ≤ a) := by
  by_cases h : a < b
  · rw [decide_eq_true h, decide_eq_false (by omega)]; rfl
  · rw [decide_eq_false h, decide_eq_true (by omega)]; rfl
def putI (x : Row) (t w : Int) : Row := if (x.any fun p => decide (p.1 = t)) then x.map (fun p => if p.1 = t then (p.1, w) else p) else x ++ [(t, w)]
theorem put_kvI (x : Row) (t w : Int) : putR (kvI x) (Sum.inl t) (rI w) = kvI (putI x t w) := by
  unfold putR putI
  have h1 : ((kvI x).any fun kv => decide (kv.1 = Sum.inl t)) = x.any fun p => decide (p.1 = t) := by
    unfold kvI
    rw [List.any_map]
    congr 1
    funext p
    simp
  rw [h1]
  split
  · unfold kvI
    rw [List.map_map, List.map_map]
    refine List.map_congr_left fun p _ => ?_
    simp only [Function.comp]
    by_cases h : p.1 = t
    · rw [if_pos h, if_pos (by rw [h])]
    · rw [if_neg h, if_neg (fun e => h (by cases e; rfl))]
  · unfold kvI
    rw [List.map_append]
    rfl
theorem putI_len (x : Row) (t w : Int) : (putI x t w).length ≤ x.length + 1 := by
  unfold putI
  split
  · rw [List.length_map]; omega
  · rw [List.length_append]; exact Nat.le_refl _
def joinStep (acc : Row) (p : Int × Int) : Row := putI acc p.1 (max p.2 ((acc.lookup p.1).getD p.2))
def joinF (row other : Row) : Row := other.foldl joinStep row
def joinI (row other : Row) : Row := (joinF row other).mergeSort leP
def shiftI (row : Row) (w : Int) : Row := row.map fun p => (p.1, p.2 + w)
abbrev Form := List Row
def rForm (f : Form) : Rp := rL (f.map rRow)
def thinStep (left : Form) (row : Row) : Form := if left.any (fun o => underB o row) then left else left.filter (fun o => !underB row o) ++ [row]
def thinI (rows : Form) : Form := (rows.foldl thinStep []).mergeSort leR
def thingForm (t : Int) : Form := [[(t, 0)]]
def waitedI (f : Form) (w : Int) : Form := f.map fun row => shiftI row w
def inRoom (f : Form) (most : Int) : Option Form := if (f.length : Int) > most then none else some f
def firstOf (fs : List Form) (most : Int) : Option Form := (inRoom (fs.headD []) most).bind fun m => fs.tail.foldlM (fun m f => inRoom (thinI (m ++ f)) most) m
def bothOf (one other : Form) : Form := thinI (one.flatMap fun row => other.map fun more => joinI row more)
def allOf (fs : List Form) (most : Int) : Option Form := (inRoom (fs.headD []) most).bind fun m => fs.tail.foldlM (fun m f => inRoom (bothOf m f) most) m
def formAt (fs : List Form) (t : Int) : Form := fs.getD t.toNat []
def putInto (form : Form) (fs : List Form) (most : Int) : Option Form := (form.mapM fun row => allOf (row.map fun p => waitedI (formAt fs p.1) p.2) most).bind fun made => firstOf made most
def FormOk (f : Form) : Prop := f.length ≤ 8 ∧ ∀ r ∈ f, RowOk r
theorem putI_keys (x : Row) (t w : Int) (h : (x.map Prod.fst).Nodup) : ((putI x t w).map Prod.fst).Nodup ∧ ∀ p ∈ putI x t w, p.1 = t ∨ ∃ q ∈ x, q.1 = p.1 := by
  unfold putI
  split
  · have e : (x.map (fun p => if p.1 = t then (p.1, w) else p)).map Prod.fst = x.map Prod.fst := by
      rw [List.map_map]
      refine List.map_congr_left fun p _ => ?_
      simp only [Function.comp]
      split <;> rfl
    refine ⟨by rw [e]; exact h, fun p hp => ?_⟩
    have : p.1 ∈ x.map Prod.fst := by rw [← e]; exact List.mem_map.mpr ⟨p, hp, rfl⟩
    obtain ⟨q, hq, e2⟩ := List.mem_map.mp this
    exact .inr ⟨q, hq, e2⟩
  · rename_i hn
    have hn : ∀ q ∈ x, q.1 ≠ t := fun q hq e => hn (List.any_eq_true.mpr ⟨q, hq, decide_eq_true e⟩)
    refine ⟨?_, fun p hp => ?_⟩
    · rw [List.map_append, List.nodup_append]
      refine ⟨h, by simp, fun a ha b hb e => ?_⟩
      obtain ⟨q, hq, rfl⟩ := List.mem_map.mp ha
      have hb : b = t := by simpa using hb
      exact hn q hq (by rw [e, hb])
    · rcases List.mem_append.mp hp with hp | hp
      · exact .inr ⟨p, hp, rfl⟩
      · exact .inl (by have : p = (t, w) := by simpa using hp
                       rw [this])
theorem joinF_keys : ∀ (xs row : Row), (row.map Prod.fst).Nodup → ((joinF row xs).map Prod.fst).Nodup ∧ (row ≠ [] → joinF row xs ≠ []) ∧ ∀ p ∈ joinF row xs, (∃ q ∈ row, q.1 = p.1) ∨ ∃ q ∈ xs, q.1 = p.1
  | [], row, h => ⟨h, id, fun p hp => .inl ⟨p, hp, rfl⟩⟩
  | y :: xs, row, h => by
    obtain ⟨a1, a2⟩ := putI_keys row y.1 (max y.2 ((row.lookup y.1).getD y.2)) h
    obtain ⟨b1, b2, b3⟩ := joinF_keys xs (joinStep row y) a1
    refine ⟨b1, fun hne => b2 ?_, fun p hp => ?_⟩
    · unfold joinStep putI
      split
      · simpa using hne
      · simp
    · rcases b3 p hp with ⟨q, hq, e⟩ | ⟨q, hq, e⟩
      · rcases a2 q hq with e2 | ⟨z, hz, e2⟩
        · exact .inr ⟨y, List.mem_cons_self, by rw [← e, e2]⟩
        · exact .inl ⟨z, hz, by rw [e2, e]⟩
      · exact .inr ⟨q, List.mem_cons_of_mem _ hq, e⟩
theorem joinI_ok {row other : Row} (h1 : RowOk row) (h2 : RowOk other) : RowOk (joinI row other) := by
  obtain ⟨b1, b2, b3⟩ := joinF_keys other row h1.1
  have pm := List.mergeSort_perm (joinF row other) leP
  refine ⟨((pm.map Prod.fst).nodup_iff).mpr b1, fun e => b2 h1.2.1 ?_, fun p hp => ?_⟩
  · unfold joinI at e
    rw [e] at pm
    exact List.nil_perm.mp pm
  · rcases b3 p (pm.mem_iff.mp hp) with ⟨q, hq, e⟩ | ⟨q, hq, e⟩
    · rw [← e]; exact h1.2.2 q hq
    · rw [← e]; exact h2.2.2 q hq
theorem shiftI_ok {row : Row} (w : Int) (h : RowOk row) : RowOk (shiftI row w) := by
  have e : (shiftI row w).map Prod.fst = row.map Prod.fst := by unfold shiftI; rw [List.map_map]; rfl
  refine ⟨by rw [e]; exact h.1, fun z => h.2.1 (by unfold shiftI at z; simpa using z), fun p hp => ?_⟩
  unfold shiftI at hp
  obtain ⟨q, hq, rfl⟩ := List.mem_map.mp hp
  exact h.2.2 q hq
theorem waitedI_ok {f : Form} (w : Int) (h : FormOk f) : FormOk (waitedI f w) := by
  refine ⟨by unfold waitedI; rw [List.length_map]; exact h.1, fun r hr => ?_⟩
  unfold waitedI at hr
  obtain ⟨q, hq, rfl⟩ := List.mem_map.mp hr
  exact shiftI_ok w (h.2 q hq)
theorem inRoom_ok {f g : Form} {most : Int} (h : inRoom f most = some g) : g = f ∧ (f.length : Int) ≤ most := by
  unfold inRoom at h
  split at h
  · cases h
  · cases h; exact ⟨rfl, by omega⟩theorem joinF_len : ∀ (xs row : Row), (joinF row xs).length ≤ row.length + xs.length
  | [], row => Nat.le_refl _
  | p :: xs, row => by
    have h1 := joinF_len xs (joinStep row p)
    have h2 := putI_len row p.1 (max p.2 ((row.lookup p.1).getD p.2))
    have h3 : (joinStep row p).length ≤ row.length + 1 := h2
    show (joinF (joinStep row p) xs).length ≤ row.length + (xs.length + 1)
    omega
theorem small {n : Nat} (h : n ≤ 1000) : n < sizeLine := Nat.lt_of_le_of_lt h (by rw [sizeLine_eq]; decide)
theorem thin_sub (xs : Form) : ((xs.foldl thinStep []).length ≤ xs.length) ∧ ∀ r ∈ xs.foldl thinStep [], r ∈ xs := by
  have key : ∀ (xs left : Form), (xs.foldl thinStep left).length ≤ left.length + xs.length ∧ ∀ r ∈ xs.foldl thinStep left, r ∈ left ∨ r ∈ xs := by
    intro xs
    induction xs with
    | nil => intro left; exact ⟨Nat.le_refl _, fun r h => .inl h⟩
    | cons x xs ih =>
      intro left
      obtain ⟨h1, h2⟩ := ih (thinStep left x)
      have h3 : (thinStep left x).length ≤ left.length + 1 ∧ ∀ r ∈ thinStep left x, r ∈ left ∨ r = x := by
        unfold thinStep
        split
        · exact ⟨by omega, fun r h => .inl h⟩
        · constructor
          · have := List.length_filter_le (fun o => !underB x o) left
            rw [List.length_append, List.length_cons, List.length_nil]
            omega
          · intro r h
            rcases List.mem_append.mp h with h | h
            · exact .inl (List.mem_filter.mp h).1
            · exact .inr (by simpa using h)
      constructor
      · show ((xs.foldl thinStep (thinStep left x))).length ≤ left.length + (xs.length + 1)
        omega
      · intro r h
        rcases h2 r h with h | h
        · rcases h3.2 r h with h | h
          · exact .inl h
          · exact .inr (by rw [h]; exact List.mem_cons_self)
        · exact .inr (List.mem_cons_of_mem _ h)
  obtain ⟨h1, h2⟩ := key xs []
  exact ⟨by simpa using h1, fun r h => (h2 r h).resolve_left (by simp)⟩
theorem thinI_mem {rows : Form} {r : Row} (h : r ∈ thinI rows) : r ∈ rows := (thin_sub rows).2 r ((List.mergeSort_perm _ _).mem_iff.mp h)
theorem firstOf_ok {most : Int} (hm : most ≤ 8) {fs : List Form} {g : Form} (hf : ∀ f ∈ fs, FormOk f) (h : firstOf fs most = some g) : FormOk g := by
  have key : ∀ (xs : List Form) (m : Form), FormOk m → (∀ f ∈ xs, FormOk f) → xs.foldlM (fun m f => inRoom (thinI (m ++ f)) most) m = some g → FormOk g := by
    intro xs
    induction xs with
    | nil => intro m hm _ e; cases e; exact hm
    | cons x xs ih =>
      intro m hm2 hx e
      rw [List.foldlM_cons] at e
      cases e1 : inRoom (thinI (m ++ x)) most with
      | none => rw [e1] at e; cases e
      | some m2 =>
        rw [e1] at e
        obtain ⟨e2, e3⟩ := inRoom_ok e1
        refine ih m2 ⟨by rw [e2]; omega, fun r hr => ?_⟩ (fun f hf => hx f (List.mem_cons_of_mem _ hf)) e
        rw [e2] at hr
        rcases List.mem_append.mp (thinI_mem hr) with z | z
        · exact hm2.2 r z
        · exact (hx x List.mem_cons_self).2 r z
  unfold firstOf at h
  cases e1 : inRoom (fs.headD []) most with
  | none => rw [e1] at h; cases h
  | some m =>
    rw [e1] at h
    obtain ⟨e2, e3⟩ := inRoom_ok e1
    refine key _ m ?_ (fun f hf2 => hf f (List.mem_of_mem_tail hf2)) h
    rw [e2]
    cases fs with
    | nil => exact ⟨Nat.zero_le _, fun r hr => by cases hr⟩
    | cons f fs => exact hf f List.mem_cons_self
theorem bothOf_rows {m x : Form} {r : Row} (hm : FormOk m) (hx : FormOk x) (hr : r ∈ bothOf m x) : RowOk r := by
  obtain ⟨a, ha, hr⟩ := List.mem_flatMap.mp (thinI_mem hr)
  obtain ⟨b, hb, rfl⟩ := List.mem_map.mp hr
  exact joinI_ok (hm.2 a ha) (hx.2 b hb)
theorem allOf_ok {most : Int} (hm : most ≤ 8) {fs : List Form} {g : Form} (hf : ∀ f ∈ fs, FormOk f) (h : allOf fs most = some g) : FormOk g := by
  have key : ∀ (xs : List Form) (m : Form), FormOk m → (∀ f ∈ xs, FormOk f) → xs.foldlM (fun m f => inRoom (bothOf m f) most) m = some g → FormOk g := by
    intro xs
    induction xs with
    | nil => intro m hm _ e; cases e; exact hm
    | cons x xs ih =>
      intro m hm2 hx e
      rw [List.foldlM_cons] at e
      cases e1 : inRoom (bothOf m x) most with
      | none => rw [e1] at e; cases e
      | some m2 =>
        rw [e1] at e
        obtain ⟨e2, e3⟩ := inRoom_ok e1
        refine ih m2 ⟨by rw [e2]; omega, fun r hr => ?_⟩ (fun f hf => hx f (List.mem_cons_of_mem _ hf)) e
        rw [e2] at hr
        exact bothOf_rows hm2 (hx x List.mem_cons_self) hr
  unfold allOf at h
  cases e1 : inRoom (fs.headD []) most with
  | none => rw [e1] at h; cases h
  | some m =>
    rw [e1] at h
    obtain ⟨e2, e3⟩ := inRoom_ok e1
    refine key _ m ?_ (fun f hf2 => hf f (List.mem_of_mem_tail hf2)) h
    rw [e2]
    cases fs with
    | nil => exact ⟨Nat.zero_le _, fun r hr => by cases hr⟩
    | cons f fs => exact hf f List.mem_cons_self
def resF (C : Cls) : Option Form → Res
  | some f => .ok (rForm f)
  | none => .err (xc0 C.TM)
section
variable {Γ : Cg} {C : Cls} (G : Gk Γ C)
include G
theorem w_under (D : DfAt Γ "under" 12 ["row", "other"]) : Fn0 Γ 1 "under" ["row", "other"] (Sp0 (fun x : Row × Row => (x.2.map Prod.fst).Nodup) (fun x => [rRow x.1, rRow x.2]) fun x => rB (underB x.1 x.2)) := by
  refine def0 0 Lunder D Sunder rfl rfl (fun _ => rfl) fun ⟨row, other⟩ hn => ?_
  have hn : (other.map Prod.fst).Nodup := hn
  refine ⟨if underB row other then .ret (rB true) else .ret (rB false), by cases underB row other <;> rfl, ?_⟩
  refine rs_cons (r1_ownD 2 (rfd_dict hn (G.bi _ (by decide)) (rv 1))) ?_
  refine rs_look _ (ri_tupZ (rv 0)) (fun p hp => .of (rg_tup (rgs_cons (rg_name 3) (rgs_cons (rg_name 4) rgs_nil))) (rs_guard ?_ fun _ => rs_one (r1_ret re_bl)) ?_) (fun _ => rs_one (r1_ret re_bl))
  · cases e : other.lookup p.1 with
    | none =>
      have le : lookR (kvI other) (Sum.inl p.1) = none := by rw [look_kvI, e]; rfl
      exact RT.eq (rw_or (l := false) (rt_niD (k := Sum.inl p.1) (rv 3) (rd_acc 2)) (fun h => by rw [le] at h; cases h)).pt (by rw [le]; rfl)
    | some w =>
      have le : lookR (kvI other) (Sum.inl p.1) = some (rI w) := by rw [look_kvI, e]; rfl
      exact RT.eq (rw_or (rt_niD (k := Sum.inl p.1) (rv 3) (rd_acc 2)) (fun h => rw_or1 (rt_gt (rv 4) (re_ixD le (rd_acc 2) (rv 3))))).pt (by rw [le]; exact lt_not_le _ _)
  · exact ⟨.inr rfl, .inr rfl, .inr rfl, .inl rfl, .inl rfl, trivial⟩
theorem w_joined (D : DfAt Γ "joined" 13 ["row", "other"]) : Fn0 Γ 1 "joined" ["row", "other"] (Sp0 (fun x : Row × Row => (x.1.map Prod.fst).Nodup ∧ x.1.length + x.2.length ≤ 1000) (fun x => [rRow x.1, rRow x.2]) fun x => rRow (joinI x.1 x.2)) := by
  refine def0 0 Ljoined D Sjoined rfl rfl (fun _ => rfl) fun ⟨row, other⟩ ⟨hn, hlen⟩ => ⟨.ret (rRow (joinI row other)), rfl, ?_⟩
  have hn : (row.map Prod.fst).Nodup := hn
  have hlen : row.length + other.length ≤ 1000 := hlen
  refine rs_cons (r1_ownD 2 (rfd_dict hn (G.bi _ (by decide)) (rv 0))) ?_
  refine rs_cons (r1_foldP (fun b : Row => [.dat (rRow row), .dat (rRow other), .aD (kvI b), .no, .no]) joinStep row rfl (ri_tupZ (rv 1)) fun pre p suf hp => .nx (rg_tup (rgs_cons (rg_name 3) (rgs_cons (rg_name 4) rgs_nil))) (rs_one (r1_put 2 (k := Sum.inl p.1) (re_max2 (G.bi _ (by decide)) (rv 4) (re_getD (r := rI (((pre.foldl joinStep row).lookup p.1).getD p.2)) (k := Sum.inl p.1) ?_ (rd_acc 2) (rv 3) (rv 4))) (rv 3) ?_)) ?_) ?_
  · rw [look_kvI]
    cases (pre.foldl joinStep row).lookup p.1 <;> rfl
  · have hp : other = pre ++ p :: suf := hp
    have h1 := joinF_len pre row
    have h2 : other.length = pre.length + (suf.length + 1) := by rw [hp, List.length_append]; rfl
    unfold kvI
    rw [List.length_map]
    unfold joinF at h1
    omega
  · refine ⟨.inr rfl, .inr rfl, .inr ?_, .inl rfl, .inl rfl, trivial⟩
    show Sl.aD (putR _ _ _) = Sl.aD _
    rw [put_kvI]
    rfl
  · exact rs_one (r1_ret (re_tupleZ (G.bi _ (by decide)) (rp_of (rf_sortItems (G.bi _ (by decide)) (rd_acc 2)).re)))
theorem w_shifted (D : DfAt Γ "shifted" 14 ["row", "wait"]) : Fn0 Γ 1 "shifted" ["row", "wait"] (Sp0 (fun x : Row × Int => x.1.length ≤ 1000) (fun x => [rRow x.1, rI x.2]) fun x => rRow (shiftI x.1 x.2)) := by
  refine def0 0 Lshifted D Sshifted rfl rfl (fun _ => rfl) fun ⟨row, w⟩ hl => ⟨.ret (rRow (shiftI row w)), rfl, ?_⟩
  have hl : row.length ≤ 1000 := hl
  have e1 : (shiftI row w).map rPr = row.map fun p => rPr (p.1, p.2 + w) := by unfold shiftI; rw [List.map_map]; rfl
  refine rs_one (r1_ret (RE.eq (re_tupleZ (G.bi _ (by decide)) (rp_of (rf_lc (h := fun p => rPr (p.1, p.2 + w)) [("thing", 2), ("own", 3)] (ri_tupZ (rv 0)) (fun p hp => rg_tup (rgs_cons (rg_name 2) (rgs_cons (rg_name 3) rgs_nil))) (fun p hp => re_tup (ra_cons (rv 2) (ra_cons (re_add (rv 3) (rv 1)) ra_nil))) (small hl)).re)) ?_))
  unfold rRow
  rw [e1]
theorem w_thing_form (D : DfAt Γ "thing_form" 17 ["thing"]) : Fn0 Γ 1 "thing_form" ["thing"] (Sp0 (fun _ : Int => True) (fun x => [rI x]) fun x => rForm (thingForm x)) := by
  refine def0 0 Lthing_form D Sthing_form rfl rfl (fun _ => rfl) fun t _ => ⟨.ret (rForm (thingForm t)), rfl, ?_⟩
  exact rs_one (r1_ret (rf_lst (ra_cons (re_tupZ (ra_cons (re_tup (ra_cons (rv 0) (ra_cons re_int ra_nil))) ra_nil)) ra_nil)).re)
theorem w_thinned (FU : Fn0 Γ 1 "under" ["row", "other"] (Sp0 (fun x : Row × Row => (x.2.map Prod.fst).Nodup) (fun x => [rRow x.1, rRow x.2]) fun x => rB (underB x.1 x.2))) (D : DfAt Γ "thinned" 15 ["rows"]) :
    Fn0 Γ 2 "thinned" ["rows"] (Sp0 (fun x : Form => x.length ≤ 1000 ∧ ∀ r ∈ x, RowOk r) (fun x => [rForm x]) fun x => rForm (thinI x)) := by
  refine def0 1 Lthinned D Sthinned rfl rfl (fun _ => rfl) fun rows ⟨hl, hr⟩ => ⟨.ret (rForm (thinI rows)), rfl, ?_⟩
  refine rs_cons (r1_set 1 (rf_lst ra_nil).re) ?_
  have sub : ∀ (pre : Form) (x : Row) (suf : Form), rows = pre ++ x :: suf → (pre.foldl thinStep []).length ≤ 1000 ∧ ∀ r ∈ pre.foldl thinStep [], RowOk r := fun pre x suf e => by
    obtain ⟨h1, h2⟩ := thin_sub pre
    have h3 : rows.length = pre.length + (suf.length + 1) := by rw [e, List.length_append]; rfl
    exact ⟨by omega, fun r hq => hr r (by rw [e]; exact List.mem_append_left _ (h2 r hq))⟩
  refine rs_cons (r1_foldP (fun b : Form => [.dat (rForm rows), .dat (rForm b), .no, .no]) thinStep [] rfl (ri_list (f := rRow) (rv 0)) fun pre x suf hp => ?_) ?_
  · obtain ⟨s1, s2⟩ := sub pre x suf hp
    have hx : RowOk x := hr x (by rw [hp]; exact List.mem_append_right _ List.mem_cons_self)
    generalize pre.foldl thinStep [] = left at s1 s2
    cases ha : left.any (fun o => underB o x) with
    | true =>
      have es : thinStep left x = left := by unfold thinStep; rw [ha]; rfl
      rw [es]
      refine .nx (rg_name 2) (rs_one (r1_if (k := false) (RT.eq (rt_not (rt_val (re_any (bs := left.map fun o => underB o x) (G.bi _ (by decide)) (rp_of (RE.eq (rf_lc (h := fun o => rB (underB o x)) [("other", 3)] (ri_list (f := rRow) (rv 1)) (fun o ho => rg_name 3) (fun o ho => re_call FU (o, x) hx.1 (ra_cons (rv 3) (ra_cons (rv 2) ra_nil))) (small s1)).re ?_))))) ?_) (fun h => by cases h) fun _ => rs_nil)) ?_
      · rw [List.map_map]; rfl
      · rw [List.any_map]; show (!left.any (fun o => underB o x)) = false; rw [ha]; rfl
      · exact ⟨.inr rfl, .inr rfl, .inl rfl, .inl rfl, trivial⟩
    | false =>
      have es : thinStep left x = left.filter (fun o => !underB x o) ++ [x] := by unfold thinStep; rw [ha]; rfl
      rw [es]
      have hf := List.length_filter_le (fun o => !underB x o) left
      refine .nx (rg_name 2) (rs_one (r1_if (k := true) (RT.eq (rt_not (rt_val (re_any (bs := left.map fun o => underB o x) (G.bi _ (by decide)) (rp_of (RE.eq (rf_lc (h := fun o => rB (underB o x)) [("other", 3)] (ri_list (f := rRow) (rv 1)) (fun o ho => rg_name 3) (fun o ho => re_call FU (o, x) hx.1 (ra_cons (rv 3) (ra_cons (rv 2) ra_nil))) (small s1)).re ?_))))) ?_) (fun _ => rs_one (r1_set 1 (re_addl ?_
        (rf_lcf (h := rRow) (q := fun o => !underB x o) [("other", 3)] (ri_list (f := rRow) (rv 1)) (fun o ho => rg_name 3) (fun o ho => rt_not (rt_val (re_call FU (x, o) (s2 o ho).1 (ra_cons (rv 2) (ra_cons (rv 3) ra_nil))))) (fun o ho _ => rv 3) (small s1)).re (rf_lst (ra_cons (rv 2) ra_nil)).re))) (fun h => by cases h))) ?_
      · rw [List.map_map]; rfl
      · rw [List.any_map]; show (!left.any (fun o => underB o x)) = true; rw [ha]; rfl
      · rw [List.length_map, sizeLine_eq]
        show _ + 1 ≤ _
        omega
      · refine ⟨.inr rfl, .inr ?_, .inl rfl, .inl rfl, trivial⟩
        unfold rForm
        rw [List.map_append]
        rfl
  · exact rs_one (r1_ret (rf_sortRows (rows := rows.foldl thinStep []) (fun r h => (hr r ((thin_sub rows).2 r h)).2.1) (G.bi _ (by decide)) (rp_of (rv 1))).re)
end
end K60
/-! text W2 -/
set_option Elab.async false
set_option linter.all false
set_option maxRecDepth 100000
set_option maxHeartbeats 4000000
namespace K60
open PySem PyProof.Rows Rl
open PySem.Spec hiding Row
open L2 (E0 XK Hp V atI ixN)
/-- the promises -/
abbrev P_under (Γ : Cg) : Prop := Fn0 Γ 1 "under" ["row", "other"] (Sp0 (fun x : Row × Row => (x.2.map Prod.fst).Nodup) (fun x => [rRow x.1, rRow x.2]) fun x => rB (underB x.1 x.2))
abbrev P_joined (Γ : Cg) : Prop := Fn0 Γ 1 "joined" ["row", "other"] (Sp0 (fun x : Row × Row => (x.1.map Prod.fst).Nodup ∧ x.1.length + x.2.length ≤ 1000) (fun x => [rRow x.1, rRow x.2]) fun x => rRow (joinI x.1 x.2))
abbrev P_shifted (Γ : Cg) : Prop := Fn0 Γ 1 "shifted" ["row", "wait"] (Sp0 (fun x : Row × Int => x.1.length ≤ 1000) (fun x => [rRow x.1, rI x.2]) fun x => rRow (shiftI x.1 x.2))
abbrev P_thing_form (Γ : Cg) : Prop := Fn0 Γ 1 "thing_form" ["thing"] (Sp0 (fun _ : Int => True) (fun x => [rI x]) fun x => rForm (thingForm x))
abbrev P_thinned (Γ : Cg) : Prop := Fn0 Γ 2 "thinned" ["rows"] (Sp0 (fun x : Form => x.length ≤ 1000 ∧ ∀ r ∈ x, RowOk r) (fun x => [rForm x]) fun x => rForm (thinI x))
abbrev P_waited (Γ : Cg) : Prop := Fn0 Γ 2 "waited" ["form", "wait"] (Sp0 (fun x : Form × Int => FormOk x.1) (fun x => [rForm x.1, rI x.2]) fun x => rForm (waitedI x.1 x.2))
abbrev P_in_room (Γ : Cg) (C : Cls) : Prop := FnX Γ 1 "in_room" ["form", "most"] (SpX (fun _ : Form × Int => True) (fun x => [rForm x.1, rI x.2]) fun x => resF C (inRoom x.1 x.2))
abbrev P_first_of (Γ : Cg) (C : Cls) : Prop := FnX Γ 3 "first_of" ["forms", "most"] (SpX (fun x : List Form × Int => x.2 ≤ 8 ∧ x.1 ≠ [] ∧ ∀ f ∈ x.1, FormOk f) (fun x => [rL (x.1.map rForm), rI x.2]) fun x => resF C (firstOf x.1 x.2))
abbrev P_both_of (Γ : Cg) : Prop := Fn0 Γ 3 "both_of" ["one", "other"] (Sp0 (fun x : Form × Form => FormOk x.1 ∧ FormOk x.2) (fun x => [rForm x.1, rForm x.2]) fun x => rForm (bothOf x.1 x.2))
abbrev P_all_of (Γ : Cg) (C : Cls) : Prop := FnX Γ 4 "all_of" ["forms", "most"] (SpX (fun x : List Form × Int => x.2 ≤ 8 ∧ x.1 ≠ [] ∧ ∀ f ∈ x.1, FormOk f) (fun x => [rL (x.1.map rForm), rI x.2]) fun x => resF C (allOf x.1 x.2))
abbrev P_put_into (Γ : Cg) (C : Cls) : Prop := FnX Γ 5 "put_into" ["form", "forms", "most"] (SpX (fun x : Form × List Form × Int => x.2.2 ≤ 8 ∧ x.1 ≠ [] ∧ FormOk x.1 ∧ (∀ f ∈ x.2.1, FormOk f) ∧ ∀ r ∈ x.1, ∀ p ∈ r, p.1 < x.2.1.length) (fun x => [rForm x.1, rL (x.2.1.map rForm), rI x.2.2]) fun x => resF C (putInto x.1 x.2.1 x.2.2))
theorem resF_ok {C : Cls} {f : Form} : resF C (some f) = .ok (rForm f) := rfl
theorem atI_nat {α : Type} {xs : List α} {n : Nat} {x : α} (h : xs[n]? = some x) : atI xs (n : Int) = some x := by
  have hl := (List.getElem?_eq_some_iff.mp h).1
  have e : ixN xs.length (n : Int) = some n := by
    unfold ixN
    rw [if_pos (by omega), if_pos (by omega)]
    simp
  unfold atI
  rw [e]
  exact h
theorem at0 {α : Type} (x : α) (xs : List α) : atI (x :: xs) 0 = some x := atI_nat (n := 0) rfl
theorem flat_len (m x : Form) : (m.flatMap fun row => x.map fun more => joinI row more).length = m.length * x.length := by
  induction m with
  | nil => simp
  | cons r m ih => 
    rw [List.flatMap_cons, List.length_append, List.length_map, ih, List.length_cons, Nat.succ_mul]
    omega
theorem fold_flat {α β : Type} {g : α → List β} : ∀ (xs : List α) (b : List β), xs.foldl (fun b r => b ++ g r) b = b ++ xs.flatMap g
  | [], b => by simp
  | x :: xs, b => by rw [List.foldl_cons, fold_flat xs, List.flatMap_cons, List.append_assoc]
theorem foldM_mapM {α β : Type} (g : α → Option β) (xs : List α) : xs.foldlM (fun b x => (g x).map fun m => b ++ [m]) [] = xs.mapM g := by
  have key : ∀ (xs : List α) (b : List β), xs.foldlM (fun b x => (g x).map fun m => b ++ [m]) b = (xs.mapM g).map (b ++ ·) := by
    intro xs
    induction xs with
    | nil => intro b; simp
    | cons x xs ih =>
      intro b
      rw [List.foldlM_cons, List.mapM_cons]
      cases g x with
      | none => rfl
      | some m =>
        show List.foldlM _ (b ++ [m]) xs = Option.map _ ((xs.mapM g).bind fun ms => some (m :: ms))
        rw [ih]
        cases xs.mapM g <;> simp
  rw [key]
  cases xs.mapM g <;> simp
theorem cat_ok {b x : Form} (hb : FormOk b) (hx : FormOk x) : (b ++ x).length ≤ 1000 ∧ ∀ r ∈ b ++ x, RowOk r := by
  refine ⟨by rw [List.length_append]; have := hb.1; have := hx.1; omega, fun r hr => ?_⟩
  rcases List.mem_append.mp hr with z | z
  · exact hb.2 r z
  · exact hx.2 r z
theorem cat_len {b x : Form} (hb : FormOk b) (hx : FormOk x) : (b.map rRow).length + (x.map rRow).length ≤ sizeLine := by
  rw [List.length_map, List.length_map, sizeLine_eq]
  have := hb.1
  have := hx.1
  omega
theorem cat_rep (b x : Form) : rL (b.map rRow ++ x.map rRow) = rForm (b ++ x) := by
  unfold rForm
  rw [List.map_append]
section
variable {Γ : Cg} {C : Cls} (G : Gk Γ C)
include G
theorem w_waited (F : P_shifted Γ) (D : DfAt Γ "waited" 18 ["form", "wait"]) : P_waited Γ := by
  refine def0 1 Lwaited D Swaited rfl rfl (fun _ => rfl) fun ⟨f, w⟩ hf => ⟨.ret (rForm (waitedI f w)), rfl, ?_⟩
  have hf : FormOk f := hf
  refine rs_one (r1_ret (RE.eq (rf_lc (h := fun row => rRow (shiftI row w)) [("row", 2)] (ri_list (f := rRow) (rv 0)) (fun r hr => rg_name 2) (fun r hr => re_call F (r, w) (by have := (hf.2 r hr).len; show r.length ≤ 1000; omega) (ra_cons (rv 2) (ra_cons (rv 1) ra_nil))) (small (Nat.le_trans hf.1 (by decide)))).re ?_))
  unfold rForm waitedI
  rw [List.map_map]
  rfl
theorem w_in_room (D : DfAt Γ "in_room" 19 ["form", "most"]) : P_in_room Γ C := by
  refine defX 0 Lin_room D Sin_room rfl rfl (fun _ => rfl) fun E ⟨f, m⟩ _ => ⟨if decide ((f.length : Int) > m) then .err (xc0 C.TM) else .ret (rForm f), ?_, ?_⟩
  · show RetO _ (resF C (inRoom f m))
    unfold inRoom
    by_cases h : (f.length : Int) > m
    · rw [if_pos (decide_eq_true h), if_pos h]; rfl
    · rw [if_neg (by simpa using h), if_neg h]; rfl
  · refine rs_ifEnd (RT.eq (rt_gt (re_len (G.bi _ (by decide)) (rp_of (rs := f.map rRow) (rv 0))) (rv 1)) ?_) (fun _ => rs_one (r1_raise G.tm)) (fun _ => rs_one (r1_ret (rv 0)))
    rw [List.length_map]
theorem w_first_of (FT : P_thinned Γ) (FR : P_in_room Γ C) (D : DfAt Γ "first_of" 20 ["forms", "most"]) : P_first_of Γ C := by
  refine defX 2 Lfirst_of D Sfirst_of rfl rfl (fun _ => rfl) fun E ⟨fs, most⟩ ⟨hm, hne, hf⟩ => ?_
  have hm : most ≤ 8 := hm
  obtain ⟨f0, fr, rfl⟩ : ∃ f0 fr, fs = f0 :: fr := by
    cases fs with
    | nil => exact absurd rfl hne
    | cons a b => exact ⟨a, b, rfl⟩
  have hf : ∀ f ∈ f0 :: fr, FormOk f := hf
  cases e1 : inRoom f0 most with
  | none =>
    refine ⟨.err (xc0 C.TM), ?_, ?_⟩
    · show RetO _ (resF C (firstOf (f0 :: fr) most))
      unfold firstOf
      rw [List.headD_cons, e1]
      rfl
    · exact rs_stop (r1_xset (rx_callX FR (f0, most) trivial (by show resF C (inRoom f0 most) = _; rw [e1]; rfl) (ra_cons (rf_list (G.bi _ (by decide)) (rp_of (rs := f0.map rRow) (re_ixL (rs := (f0 :: fr).map rForm) (r := rForm f0) (i := 0) (at0 _ _) (rp_of (rv 0)) re_int))).re (ra_cons (rv 1) ra_nil))) 2)
  | some m =>
    obtain ⟨e2, e3⟩ := inRoom_ok e1
    subst e2
    refine ⟨.opt (fun b => .ret (rForm b)) (xc0 C.TM) (fr.foldlM (fun m f => inRoom (thinI (m ++ f)) most) m), ?_, ?_⟩
    · show RetO _ (resF C (firstOf (m :: fr) most))
      unfold firstOf
      rw [List.headD_cons, e1]
      show RetO _ (resF C (fr.foldlM (fun m f => inRoom (thinI (m ++ f)) most) m))
      cases fr.foldlM (fun m f => inRoom (thinI (m ++ f)) most) m <;> rfl
    · refine rs_cons (r1_set 2 (re_callX FR (m, most) trivial (by show resF C (inRoom m most) = _; rw [e1]; rfl) (ra_cons (rf_list (G.bi _ (by decide)) (rp_of (rs := m.map rRow) (re_ixL (rs := (m :: fr).map rForm) (r := rForm m) (i := 0) (at0 _ _) (rp_of (rv 0)) re_int))).re (ra_cons (rv 1) ra_nil)))) ?_
      refine rs_foldM (fun b : Form => [.dat (rL ((m :: fr).map rForm)), .dat (rI most), .dat (rForm b), .no]) _ (xc0 C.TM) (fun _ => FormOk) m (fun b => .ret (rForm b)) rfl (hf m List.mem_cons_self) (ri_list (f := rForm) (RE.eq (re_slL (rp_of (rs := (m :: fr).map rForm) (rv 0)) (ro_some re_int) ro_none) ?_)) (fun n b x b' hx hn hb hg => ?_) (fun n b x hx hn hb hg => ?_) fun b' _ _ => rs_one (r1_ret (rv 2))
      · rw [cut_tail]; rfl
      · have hx := hf x (List.mem_cons_of_mem _ hx)
        obtain ⟨g1, g2⟩ := inRoom_ok hg
        refine ⟨.nx (rg_name 3) (rs_one (r1_set 2 (re_callX FR (thinI (b ++ x), most) trivial (by show resF C (inRoom (thinI (b ++ x)) most) = _; rw [hg]; rfl) (ra_cons (re_call FT (b ++ x) (cat_ok hb hx) (ra_cons (RE.eq (re_addl (cat_len hb hx) (rv 2) (rv 3)) (cat_rep b x)) ra_nil)) (ra_cons (rv 1) ra_nil))))) ⟨.inr rfl, .inr rfl, .inr rfl, .inl rfl, trivial⟩, ?_⟩
        rw [g1]
        refine ⟨by omega, fun r hr => ?_⟩
        exact (cat_ok hb hx).2 r (thinI_mem hr)
      · have hx := hf x (List.mem_cons_of_mem _ hx)
        exact .err (rg_name 3) (rs_one (r1_xset (rx_callX FR (thinI (b ++ x), most) trivial (by show resF C (inRoom (thinI (b ++ x)) most) = _; rw [hg]; rfl) (ra_cons (re_call FT (b ++ x) (cat_ok hb hx) (ra_cons (RE.eq (re_addl (cat_len hb hx) (rv 2) (rv 3)) (cat_rep b x)) ra_nil)) (ra_cons (rv 1) ra_nil))) 2))
theorem w_both_of (FT : P_thinned Γ) (FJ : P_joined Γ) (D : DfAt Γ "both_of" 21 ["one", "other"]) : P_both_of Γ := by
  refine def0 2 Lboth_of D Sboth_of rfl rfl (fun _ => rfl) fun ⟨one, other⟩ ⟨h1, h2⟩ => ⟨.ret (rForm (bothOf one other)), rfl, ?_⟩
  have h1 : FormOk one := h1
  have h2 : FormOk other := h2
  have step : ∀ (b : Form) (r : Row), True := fun _ _ => trivial
  refine rs_cons (r1_own 2 (rf_lst ra_nil)) ?_
  refine rs_cons (r1_foldP (fun b : Form => [.dat (rForm one), .dat (rForm other), .aL (b.map rRow), .no, .no]) (fun b r => b ++ other.map fun more => joinI r more) [] rfl (ri_list (f := rRow) (xs := one) (rv 0)) fun pre x suf hp => ?_) ?_
  · have hx : x ∈ one := by rw [hp]; exact List.mem_append_right _ List.mem_cons_self
    have e : pre.foldl (fun b r => b ++ other.map fun more => joinI r more) [] = pre.flatMap fun row => other.map fun more => joinI row more := fold_flat pre []
    rw [e]
    have hl := flat_len pre other
    have hp2 : pre.length ≤ 8 := by
      have := h1.1
      rw [hp, List.length_append] at this
      omega
    have ho := h2.1
    have hl2 : (pre.flatMap fun row => other.map fun more => joinI row more).length ≤ 8 * 8 := by rw [hl]; exact Nat.mul_le_mul hp2 ho
    refine .nx (rg_name 3) (rs_one (r1_extend 2 (rf_lc (h := fun more => rRow (joinI x more)) [("more", 4)] (ri_list (f := rRow) (xs := other) (rv 1)) (fun r hr => rg_name 4) (fun r hr => re_call FJ (x, r) ⟨(h1.2 x hx).1, ?_⟩ (ra_cons (rv 3) (ra_cons (rv 4) ra_nil))) (small (Nat.le_trans ho (by decide)))).re ?_)) ?_
    · have := (h1.2 x hx).len
      have := (h2.2 r hr).len
      show x.length + r.length ≤ 1000
      omega
    · rw [List.length_map, List.length_map]
      omega
    · refine ⟨.inr rfl, .inr rfl, .inr ?_, .inl rfl, .inl rfl, trivial⟩
      show Sl.aL _ = Sl.aL _
      rw [List.map_append, List.map_map]
      rfl
  · refine RS.freeze 2 rfl ?_
    have e : one.foldl (fun b r => b ++ other.map fun more => joinI r more) [] = one.flatMap fun row => other.map fun more => joinI row more := fold_flat one []
    rw [e]
    refine rs_one (r1_ret (re_call FT (one.flatMap fun row => other.map fun more => joinI row more) ⟨?_, fun r hr => ?_⟩ (ra_cons (rv 2) ra_nil)))
    · have := Nat.mul_le_mul h1.1 h2.1
      rw [flat_len]
      omega
    · obtain ⟨a, ha, hr⟩ := List.mem_flatMap.mp hr
      obtain ⟨b, hb, rfl⟩ := List.mem_map.mp hr
      exact joinI_ok (h1.2 a ha) (h2.2 b hb)
theorem w_all_of (FB : P_both_of Γ) (FR : P_in_room Γ C) (D : DfAt Γ "all_of" 22 ["forms", "most"]) : P_all_of Γ C := by
  refine defX 3 Lall_of D Sall_of rfl rfl (fun _ => rfl) fun E ⟨fs, most⟩ ⟨hm, hne, hf⟩ => ?_
  have hm : most ≤ 8 := hm
  obtain ⟨f0, fr, rfl⟩ : ∃ f0 fr, fs = f0 :: fr := by
    cases fs with
    | nil => exact absurd rfl hne
    | cons a b => exact ⟨a, b, rfl⟩
  have hf : ∀ f ∈ f0 :: fr, FormOk f := hf
  cases e1 : inRoom f0 most with
  | none =>
    refine ⟨.err (xc0 C.TM), ?_, ?_⟩
    · show RetO _ (resF C (allOf (f0 :: fr) most))
      unfold allOf
      rw [List.headD_cons, e1]
      rfl
    · exact rs_stop (r1_xset (rx_callX FR (f0, most) trivial (by show resF C (inRoom f0 most) = _; rw [e1]; rfl) (ra_cons (rf_list (G.bi _ (by decide)) (rp_of (rs := f0.map rRow) (re_ixL (rs := (f0 :: fr).map rForm) (r := rForm f0) (i := 0) (at0 _ _) (rp_of (rv 0)) re_int))).re (ra_cons (rv 1) ra_nil))) 2)
  | some m =>
    obtain ⟨e2, e3⟩ := inRoom_ok e1
    subst e2
    refine ⟨.opt (fun b => .ret (rForm b)) (xc0 C.TM) (fr.foldlM (fun m f => inRoom (bothOf m f) most) m), ?_, ?_⟩
    · show RetO _ (resF C (allOf (m :: fr) most))
      unfold allOf
      rw [List.headD_cons, e1]
      show RetO _ (resF C (fr.foldlM (fun m f => inRoom (bothOf m f) most) m))
      cases fr.foldlM (fun m f => inRoom (bothOf m f) most) m <;> rfl
    · refine rs_cons (r1_set 2 (re_callX FR (m, most) trivial (by show resF C (inRoom m most) = _; rw [e1]; rfl) (ra_cons (rf_list (G.bi _ (by decide)) (rp_of (rs := m.map rRow) (re_ixL (rs := (m :: fr).map rForm) (r := rForm m) (i := 0) (at0 _ _) (rp_of (rv 0)) re_int))).re (ra_cons (rv 1) ra_nil)))) ?_
      refine rs_foldM (fun b : Form => [.dat (rL ((m :: fr).map rForm)), .dat (rI most), .dat (rForm b), .no]) _ (xc0 C.TM) (fun _ => FormOk) m (fun b => .ret (rForm b)) rfl (hf m List.mem_cons_self) (ri_list (f := rForm) (RE.eq (re_slL (rp_of (rs := (m :: fr).map rForm) (rv 0)) (ro_some re_int) ro_none) ?_)) (fun n b x b' hx hn hb hg => ?_) (fun n b x hx hn hb hg => ?_) fun b' _ _ => rs_one (r1_ret (rv 2))
      · rw [cut_tail]; rfl
      · have hx := hf x (List.mem_cons_of_mem _ hx)
        obtain ⟨g1, g2⟩ := inRoom_ok hg
        refine ⟨.nx (rg_name 3) (rs_one (r1_set 2 (re_callX FR (bothOf b x, most) trivial (by show resF C (inRoom (bothOf b x) most) = _; rw [hg]; rfl) (ra_cons (re_call FB (b, x) ⟨hb, hx⟩ (ra_cons (rv 2) (ra_cons (rv 3) ra_nil))) (ra_cons (rv 1) ra_nil))))) ⟨.inr rfl, .inr rfl, .inr rfl, .inl rfl, trivial⟩, ?_⟩
        rw [g1]
        exact ⟨by omega, fun r hr => bothOf_rows hb hx hr⟩
      · have hx := hf x (List.mem_cons_of_mem _ hx)
        exact .err (rg_name 3) (rs_one (r1_xset (rx_callX FR (bothOf b x, most) trivial (by show resF C (inRoom (bothOf b x) most) = _; rw [hg]; rfl) (ra_cons (re_call FB (b, x) ⟨hb, hx⟩ (ra_cons (rv 2) (ra_cons (rv 3) ra_nil))) (ra_cons (rv 1) ra_nil))) 2))
theorem w_put_into (FW : P_waited Γ) (FA : P_all_of Γ C) (FF : P_first_of Γ C) (D : DfAt Γ "put_into" 23 ["form", "forms", "most"]) : P_put_into Γ C := by
  refine defX 4 Lput_into D Sput_into rfl rfl (fun _ => rfl) fun E ⟨form, fs, most⟩ ⟨hm, hne, hf, hfs, hk⟩ => ?_
  have hm : most ≤ 8 := hm
  have hf : FormOk form := hf
  have hfs : ∀ f ∈ fs, FormOk f := hfs
  have hk : ∀ r ∈ form, ∀ p ∈ r, p.1 < fs.length := hk
  have hne : form ≠ [] := hne
  let g : Row → Option Form := fun row => allOf (row.map fun p => waitedI (formAt fs p.1) p.2) most
  have at_ : ∀ r ∈ form, ∀ p ∈ r, fs[p.1.toNat]? = some (formAt fs p.1) := fun r hr p hp => by
    have h1 := hk r hr p hp
    have h2 := ((hf.2 r hr).2.2 p hp).1
    unfold formAt
    rw [List.getD_eq_getElem?_getD, List.getElem?_eq_getElem (by omega)]
    rfl
  have wok : ∀ r ∈ form, (∀ f ∈ r.map (fun p => waitedI (formAt fs p.1) p.2), FormOk f) := fun r hr f hf2 => by
    obtain ⟨p, hp, rfl⟩ := List.mem_map.mp hf2
    exact waitedI_ok _ (hfs _ (List.mem_of_getElem? (at_ r hr p hp)))
  have wne : ∀ r ∈ form, r.map (fun p => waitedI (formAt fs p.1) p.2) ≠ [] := fun r hr e => (hf.2 r hr).2.1 (by simpa using e)
  refine ⟨.opt (fun ms => .opt (fun r => .ret (rForm r)) (xc0 C.TM) (firstOf ms most)) (xc0 C.TM) (form.foldlM (fun b row => (g row).map fun m => b ++ [m]) []), ?_, ?_⟩
  · show RetO _ (resF C (putInto form fs most))
    unfold putInto
    rw [foldM_mapM]
    show RetO _ (resF C ((form.mapM g).bind _))
    cases form.mapM g with
    | none => rfl
    | some ms =>
      show RetO (.opt _ _ (firstOf ms most)) (resF C (firstOf ms most))
      cases firstOf ms most <;> rfl
  · refine rs_cons (r1_own 3 (rf_lst ra_nil)) ?_
    refine rs_foldM (fun b : List Form => [.dat (rForm form), .dat (rL (fs.map rForm)), .dat (rI most), .aL (b.map rForm), .no, .no, .no]) _ (xc0 C.TM) (fun n b => b.length = n ∧ (∀ f ∈ b, FormOk f)) [] _ rfl ⟨rfl, fun f hf => by cases hf⟩ (ri_list (f := rRow) (xs := form) (rv 0)) (fun n b x b' hx hn hb hg => ?_) (fun n b x hx hn hb hg => ?_) (fun b' hb' hI => ?_)
    · have hg : (g x).map (fun m => b ++ [m]) = some b' := hg
      cases e : g x with
      | none => rw [e] at hg; cases hg
      | some m =>
        rw [e] at hg
        cases hg
        have e : allOf (x.map fun p => waitedI (formAt fs p.1) p.2) most = some m := e
        refine ⟨.nx (rg_name 4) (rs_one (r1_append 3 (re_callX FA (x.map fun p => waitedI (formAt fs p.1) p.2, most) ⟨hm, wne x hx, wok x hx⟩ (by show resF C (allOf _ most) = _; rw [e]; rfl) (ra_cons (RE.eq (rf_lc (h := fun p => rForm (waitedI (formAt fs p.1) p.2)) [("thing", 5), ("wait", 6)] (ri_tupZ (f := rPr) (xs := x) (rv 4)) (fun p hp => rg_tup (rgs_cons (rg_name 5) (rgs_cons (rg_name 6) rgs_nil))) (fun p hp => re_call FW (formAt fs p.1, p.2) (hfs _ (List.mem_of_getElem? (at_ x hx p hp))) (ra_cons (re_ixL (rs := fs.map rForm) (i := p.1) ?_ (rp_of (rv 1)) (rv 5)) (ra_cons (rv 6) ra_nil))) (small ?_)).re ?_) (ra_cons (rv 2) ra_nil))) ?_)) ?_, ?_⟩
        · have h1 := at_ x hx p hp
          have h2 := ((hf.2 x hx).2.2 p hp).1
          have : p.1 = (p.1.toNat : Int) := by omega
          rw [this]
          exact atI_nat (by rw [List.getElem?_map, h1]; rfl)
        · have := (hf.2 x hx).len
          omega
        · rw [List.map_map]; rfl
        · have := hf.1
          have hn := (List.getElem?_eq_some_iff.mp hn).1
          rw [List.length_map]
          omega
        · refine ⟨.inr rfl, .inr rfl, .inr rfl, .inr ?_, .inl rfl, .inl rfl, .inl rfl, trivial⟩
          show Sl.aL _ = Sl.aL _
          rw [List.map_append]
          rfl
        · refine ⟨by rw [List.length_append, hb.1]; rfl, fun f hf3 => ?_⟩
          rcases List.mem_append.mp hf3 with z | z
          · exact hb.2 f z
          · have z : f = m := by simpa using z
            subst z
            exact allOf_ok hm (wok x hx) e
    · have e : allOf (x.map fun p => waitedI (formAt fs p.1) p.2) most = none := by
        have hg : (g x).map (fun m => b ++ [m]) = none := hg
        cases e : g x with
        | none => exact e
        | some m => rw [e] at hg; cases hg
      refine .err (rg_name 4) (rs_one (r1_xexpr (rx_append 3 (rx_callX FA (x.map fun p => waitedI (formAt fs p.1) p.2, most) ⟨hm, wne x hx, wok x hx⟩ (by show resF C (allOf _ most) = _; rw [e]; rfl) (ra_cons (RE.eq (rf_lc (h := fun p => rForm (waitedI (formAt fs p.1) p.2)) [("thing", 5), ("wait", 6)] (ri_tupZ (f := rPr) (xs := x) (rv 4)) (fun p hp => rg_tup (rgs_cons (rg_name 5) (rgs_cons (rg_name 6) rgs_nil))) (fun p hp => re_call FW (formAt fs p.1, p.2) (hfs _ (List.mem_of_getElem? (at_ x hx p hp))) (ra_cons (re_ixL (rs := fs.map rForm) (i := p.1) ?_ (rp_of (rv 1)) (rv 5)) (ra_cons (rv 6) ra_nil))) (small ?_)).re ?_) (ra_cons (rv 2) ra_nil))))))
      · have h1 := at_ x hx p hp
        have h2 := ((hf.2 x hx).2.2 p hp).1
        have : p.1 = (p.1.toNat : Int) := by omega
        rw [this]
        exact atI_nat (by rw [List.getElem?_map, h1]; rfl)
      · have := (hf.2 x hx).len
        omega
      · rw [List.map_map]; rfl
    · refine RS.freeze 3 rfl (rs_one ?_)
      have hb2 : b' ≠ [] := fun z => by
        have := hI.1
        rw [z] at this
        exact hne (List.eq_nil_of_length_eq_zero this.symm)
      cases e : firstOf b' most with
      | none => exact r1_xret (rx_callX FF (b', most) ⟨hm, hb2, hI.2⟩ (by show resF C (firstOf b' most) = _; rw [e]; rfl) (ra_cons (rv 3) (ra_cons (rv 2) ra_nil)))
      | some r => exact r1_ret (re_callX FF (b', most) ⟨hm, hb2, hI.2⟩ (by show resF C (firstOf b' most) = _; rw [e]; rfl) (ra_cons (rv 3) (ra_cons (rv 2) ra_nil)))
end
end K60
/-! text W3 -/
set_option Elab.async false
set_option linter.all false
set_option maxRecDepth 100000
set_option maxHeartbeats 4000000
namespace K60
open PySem PyProof.Rows Rl
open PySem.Spec hiding Row
open L2 (E0 XK Hp V atI ixN)
/-! ### lags -/
def mxO (m : Option Int) (i : Int) : Int := match m with
  | none => i
  | some k => if i > k then i else k
def moreStep (other : Row) (m : Option Int) (p : Int × Int) : Option (Option Int) := (other.lookup p.1).map fun w => some (mxO m (p.2 - w))
def moreI (row other : Row) : Option Int := (row.foldlM (moreStep other) none).getD none
abbrev P_more_waited (Γ : Cg) : Prop := Fn0 Γ 1 "more_waited" ["row", "other"] (Sp0 (fun x : Row × Row => (x.2.map Prod.fst).Nodup) (fun x => [rRow x.1, rRow x.2]) fun x => rOI (moreI x.1 x.2))
def nearStep (form : Form) (row : Row) (best : Option (Int × Int)) (n : Nat) : Option (Int × Int) := match moreI (form.getD n []) row with
  | none => best
  | some m => match best with
    | none => some (n, m)
    | some b => if m < b.2 then some (n, m) else some b
def nearI (form : Form) (row : Row) : Option (Int × Int) := (List.range form.length).foldl (nearStep form row) none
def rBest : Option (Int × Int) → Rp
  | none => rN
  | some b => rPr b
def lateI (one : Form) (turns : Int) : Int := one.foldl (fun l mine => mine.foldl (fun l p => max l (turns - p.2)) l) turns
def hourStep (hs : List Int) (p : Int × Int) : List Int := hs.set p.1.toNat (0 - p.2)
def hoursI (one : Form) (row : Row) (turns many : Int) : List Int := row.foldl hourStep (List.replicate many.toNat (lateI one turns))
def farI (one : Form) (row : Row) (turns : Int) : Bool := match nearI one row with
  | none => true
  | some b => decide (b.2 ≥ turns)
def laterI (one other : Form) (turns many : Int) : Option (List Int) := (other.find? fun row => farI one row turns).map fun row => hoursI one row turns many
def rHours (hs : List Int) : Rp := rL (hs.map rI)
def rOH : Option (List Int) → Rp
  | none => rN
  | some hs => rHours hs
def KeysLt (f : Form) (many : Int) : Prop := ∀ r ∈ f, ∀ p ∈ r, p.1 < many
abbrev P_nearest (Γ : Cg) : Prop := Fn0 Γ 2 "nearest_row" ["form", "row"] (Sp0 (fun x : Form × Row => FormOk x.1 ∧ (x.2.map Prod.fst).Nodup) (fun x => [rForm x.1, rRow x.2]) fun x => rBest (nearI x.1 x.2))
abbrev P_hours (Γ : Cg) : Prop := Fn0 Γ 1 "hours_against" ["one", "row", "turns", "many"] (Sp0 (fun x : Form × Row × Int × Int => FormOk x.1 ∧ RowOk x.2.1 ∧ 0 ≤ x.2.2.2 ∧ x.2.2.2 ≤ 1000 ∧ ∀ p ∈ x.2.1, p.1 < x.2.2.2) (fun x => [rForm x.1, rRow x.2.1, rI x.2.2.1, rI x.2.2.2]) fun x => rHours (hoursI x.1 x.2.1 x.2.2.1 x.2.2.2))
abbrev P_later (Γ : Cg) : Prop := Fn0 Γ 3 "later_by" ["one", "other", "turns", "many"] (Sp0 (fun x : Form × Form × Int × Int => FormOk x.1 ∧ FormOk x.2.1 ∧ 0 ≤ x.2.2.2 ∧ x.2.2.2 ≤ 1000 ∧ KeysLt x.2.1 x.2.2.2) (fun x => [rForm x.1, rForm x.2.1, rI x.2.2.1, rI x.2.2.2]) fun x => rOH (laterI x.1 x.2.1 x.2.2.1 x.2.2.2))
abbrev P_compared (Γ : Cg) : Prop := Fn0 Γ 4 "compared" ["one", "other", "many"] (Sp0 (fun x : Form × Form × Int => FormOk x.1 ∧ FormOk x.2.1 ∧ 0 ≤ x.2.2 ∧ x.2.2 ≤ 1000 ∧ KeysLt x.1 x.2.2 ∧ KeysLt x.2.1 x.2.2) (fun x => [rForm x.1, rForm x.2.1, rI x.2.2]) fun x => rT [rOH (laterI x.2.1 x.1 1 x.2.2), rOH (laterI x.1 x.2.1 1 x.2.2)])
theorem notN_i {i : Int} : NotN (rI i) := notN_V (fun z => nomatch z)
section
variable {Γ : Cg} {C : Cls} (G : Gk Γ C)
include G
theorem w_more_waited (D : DfAt Γ "more_waited" 25 ["row", "other"]) : P_more_waited Γ := by
  refine def0 0 Lmore_waited D Smore_waited rfl rfl (fun _ => rfl) fun ⟨row, other⟩ hn => ?_
  have hn : (other.map Prod.fst).Nodup := hn
  refine ⟨.optR (fun m => .ret (rOI m)) rN (row.foldlM (moreStep other) none), ?_, ?_⟩
  · show RetO _ (.ok (rOI (moreI row other)))
    unfold moreI
    cases row.foldlM (moreStep other) none <;> rfl
  refine rs_cons (r1_ownD 2 (rfd_dict hn (G.bi _ (by decide)) (rv 1))) ?_
  refine rs_cons (r1_set 3 re_non) ?_
  refine rs_foldR (fun m : Option Int => [.dat (rRow row), .dat (rRow other), .aD (kvI other), .dat (rOI m), .no, .no]) _ rN (fun _ _ => True) none _ rfl trivial (ri_tupZ (f := rPr) (xs := row) (rv 0)) (fun n m p m' hp _ _ hg => ⟨?_, trivial⟩) (fun n m p hp _ _ hg => ?_) (fun m _ _ => rs_one (r1_ret (rv 3)))
  · unfold moreStep at hg
    cases e : other.lookup p.1 with
    | none => rw [e] at hg; cases hg
    | some w =>
      rw [e] at hg
      cases hg
      have le : lookR (kvI other) (Sum.inl p.1) = some (rI w) := by rw [look_kvI, e]; rfl
      cases m with
      | none =>
        refine .nx (rg_tup (rgs_cons (rg_name 4) (rgs_cons (rg_name 5) rgs_nil))) (rs_cons (r1_if (k := false) (RT.eq (rt_niD (k := Sum.inl p.1) (rv 4) (rd_acc 2)) (by rw [le]; rfl)) (fun h => by cases h) fun _ => rs_nil) (rs_one (r1_if (k := true) (rw_or (k := true) (l := false) (rt_isN true (r := rN) (rv 3) (.inl ⟨rfl, rfl⟩)) (fun h => by cases h)).pt (fun _ => rs_one (r1_set 3 (re_sub (rv 5) (re_ixD le (rd_acc 2) (rv 4))))) fun h => by cases h))) ⟨.inr rfl, .inr rfl, .inr rfl, .inr rfl, .inl rfl, .inl rfl, trivial⟩
      | some k =>
        cases hk : decide (p.2 - w > k) with
        | true =>
          have e2 : mxO (some k) (p.2 - w) = p.2 - w := if_pos (of_decide_eq_true hk)
          show TurnR _ _ _ _ _ _ _ _ (.on (some (mxO (some k) (p.2 - w))))
          rw [e2]
          refine .nx (rg_tup (rgs_cons (rg_name 4) (rgs_cons (rg_name 5) rgs_nil))) (rs_cons (r1_if (k := false) (RT.eq (rt_niD (k := Sum.inl p.1) (rv 4) (rd_acc 2)) (by rw [le]; rfl)) (fun h => by cases h) fun _ => rs_nil) (rs_one (r1_if (k := true) (RT.eq (rw_or (k := false) (rt_isN false (r := rI k) (rv 3) (.inr ⟨rfl, notN_i⟩)) (fun _ => rw_or1 (rt_gt (re_sub (rv 5) (re_ixD le (rd_acc 2) (rv 4))) (rv 3)))).pt hk) (fun _ => rs_one (r1_set 3 (re_sub (rv 5) (re_ixD le (rd_acc 2) (rv 4))))) fun h => by cases h))) ⟨.inr rfl, .inr rfl, .inr rfl, .inr rfl, .inl rfl, .inl rfl, trivial⟩
        | false =>
          have e2 : mxO (some k) (p.2 - w) = k := if_neg (of_decide_eq_false hk)
          show TurnR _ _ _ _ _ _ _ _ (.on (some (mxO (some k) (p.2 - w))))
          rw [e2]
          refine .nx (rg_tup (rgs_cons (rg_name 4) (rgs_cons (rg_name 5) rgs_nil))) (rs_cons (r1_if (k := false) (RT.eq (rt_niD (k := Sum.inl p.1) (rv 4) (rd_acc 2)) (by rw [le]; rfl)) (fun h => by cases h) fun _ => rs_nil) (rs_one (r1_if (k := false) (RT.eq (rw_or (k := false) (rt_isN false (r := rI k) (rv 3) (.inr ⟨rfl, notN_i⟩)) (fun _ => rw_or1 (rt_gt (re_sub (rv 5) (re_ixD le (rd_acc 2) (rv 4))) (rv 3)))).pt hk) (fun h => by cases h) fun _ => rs_nil))) ⟨.inr rfl, .inr rfl, .inr rfl, .inr rfl, .inl rfl, .inl rfl, trivial⟩
  · unfold moreStep at hg
    cases e : other.lookup p.1 with
    | none =>
      have le : lookR (kvI other) (Sum.inl p.1) = none := by rw [look_kvI, e]; rfl
      exact .ret (rg_tup (rgs_cons (rg_name 4) (rgs_cons (rg_name 5) rgs_nil))) (rs_stop (r1_if (k := true) (RT.eq (rt_niD (k := Sum.inl p.1) (rv 4) (rd_acc 2)) (by rw [le]; rfl)) (fun _ => rs_one (r1_ret re_non)) fun h => by cases h))
    | some w => rw [e] at hg; cases hg
theorem w_nearest (FM : P_more_waited Γ) (D : DfAt Γ "nearest_row" 26 ["form", "row"]) : P_nearest Γ := by
  refine def0 1 Lnearest_row D Snearest_row rfl rfl (fun _ => rfl) fun ⟨form, row⟩ ⟨hf, hn⟩ => ⟨.ret (rBest (nearI form row)), rfl, ?_⟩
  have hf : FormOk form := hf
  have hn : (row.map Prod.fst).Nodup := hn
  refine rs_cons (r1_set 2 re_non) ?_
  refine rs_cons (r1_fold (fun b : Option (Int × Int) => [.dat (rForm form), .dat (rRow row), .dat (rBest b), .no, .no]) (nearStep form row) (fun _ => True) none rfl trivial (ri_range (n := form.length) (by have := hf.1; omega) (G.bi _ (by decide)) (RE.eq (re_len (G.bi _ (by decide)) (rp_of (rs := form.map rRow) (rv 0))) (by rw [List.length_map]))) fun b n hn _ => ⟨?_, trivial⟩) (rs_one (r1_ret (rv 2)))
  have hn2 : n < form.length := List.mem_range.mp hn
  have hg : form[n]? = some (form.getD n []) := by
    rw [List.getD_eq_getElem?_getD, List.getElem?_eq_getElem hn2]; rfl
  have he : ∀ {env : List Sl} {L E a b pos} (ha : RE Γ L E a env (rForm form)) (hb : RE Γ L E b env (rI n)) (hs : L2.PlainIx b), RE Γ L E (.Subscript a b pos) env (rRow (form.getD n [])) := fun ha hb hs => re_ixL (rs := form.map rRow) (i := n) (atI_nat (by rw [List.getElem?_map, hg]; rfl)) (rp_of ha) hb hs
  cases e : moreI (form.getD n []) row with
  | none =>
    have e2 : nearStep form row b n = b := by unfold nearStep; rw [e]
    rw [e2]
    exact .nx (rg_name 3) (rs_cons (r1_set 4 (RE.eq (re_call FM (form.getD n [], row) ‹_› (ra_cons (he (rv 0) (rv 3) (by intro _ _; rfl)) (ra_cons (rv 1) ra_nil))) (by show rOI (moreI (form.getD n []) row) = rN; rw [e]; rfl))) (rs_one (r1_if (k := false) (rw_and (k := false) (l := false) (rt_notN false (r := rN) (rv 4) (.inl ⟨rfl, rfl⟩)) (fun h => by cases h)).pt (fun h => by cases h) fun _ => rs_nil))) ⟨.inr rfl, .inr rfl, .inr rfl, .inl rfl, .inl rfl, trivial⟩
  | some m =>
    have hq : rOI (moreI (form.getD n []) row) = rI m := by rw [e]; rfl
    cases b with
    | none =>
      have e2 : nearStep form row none n = some ((n : Int), m) := by unfold nearStep; rw [e]
      rw [e2]
      exact .nx (rg_name 3) (rs_cons (r1_set 4 (RE.eq (re_call FM (form.getD n [], row) ‹_› (ra_cons (he (rv 0) (rv 3) (by intro _ _; rfl)) (ra_cons (rv 1) ra_nil))) hq)) (rs_one (r1_if (k := true) (rw_and (k := true) (l := true) (rt_notN true (r := rI m) (rv 4) (.inr ⟨rfl, notN_i⟩)) (fun _ => rw_and1 (rw_or (k := true) (l := false) (rt_isN true (r := rN) (rv 2) (.inl ⟨rfl, rfl⟩)) (fun h => by cases h)).pt)).pt (fun _ => rs_one (r1_set 2 (re_tup (ra_cons (rv 3) (ra_cons (rv 4) ra_nil))))) (fun h => by cases h)))) ⟨.inr rfl, .inr rfl, .inr rfl, .inl rfl, .inl rfl, trivial⟩
    | some b =>
      have ib : ∀ (env : List Sl) L E a pos p2 j, RE Γ L E a env (rPr b) → RE Γ L E (.Subscript a (.Constant (.int 1) j p2) pos) env (rI b.2) := fun env L E a pos p2 j h => re_ixT (rs := [rI b.1, rI b.2]) (i := 1) (atI_nat (n := 1) rfl) h re_int
      cases hk : decide (m < b.2) with
      | true =>
        have e2 : nearStep form row (some b) n = some ((n : Int), m) := by unfold nearStep; rw [e]; exact if_pos (of_decide_eq_true hk)
        rw [e2]
        exact .nx (rg_name 3) (rs_cons (r1_set 4 (RE.eq (re_call FM (form.getD n [], row) ‹_› (ra_cons (he (rv 0) (rv 3) (by intro _ _; rfl)) (ra_cons (rv 1) ra_nil))) hq)) (rs_one (r1_if (k := true) (rw_and (k := true) (l := true) (rt_notN true (r := rI m) (rv 4) (.inr ⟨rfl, notN_i⟩)) (fun _ => rw_and1 (RT.eq (rw_or (k := false) (rt_isN false (r := rPr b) (rv 2) (.inr ⟨rfl, notN_T⟩)) (fun _ => rw_or1 (rt_lt (rv 4) (ib _ _ _ _ _ _ _ (rv 2))))).pt hk))).pt (fun _ => rs_one (r1_set 2 (re_tup (ra_cons (rv 3) (ra_cons (rv 4) ra_nil))))) (fun h => by cases h)))) ⟨.inr rfl, .inr rfl, .inr rfl, .inl rfl, .inl rfl, trivial⟩
      | false =>
        have e2 : nearStep form row (some b) n = some b := by unfold nearStep; rw [e]; exact if_neg (of_decide_eq_false hk)
        rw [e2]
        exact .nx (rg_name 3) (rs_cons (r1_set 4 (RE.eq (re_call FM (form.getD n [], row) ‹_› (ra_cons (he (rv 0) (rv 3) (by intro _ _; rfl)) (ra_cons (rv 1) ra_nil))) hq)) (rs_one (r1_if (k := false) (rw_and (k := true) (l := false) (rt_notN true (r := rI m) (rv 4) (.inr ⟨rfl, notN_i⟩)) (fun _ => rw_and1 (RT.eq (rw_or (k := false) (rt_isN false (r := rPr b) (rv 2) (.inr ⟨rfl, notN_T⟩)) (fun _ => rw_or1 (rt_lt (rv 4) (ib _ _ _ _ _ _ _ (rv 2))))).pt hk))).pt (fun h => by cases h) fun _ => rs_nil))) ⟨.inr rfl, .inr rfl, .inr rfl, .inl rfl, .inl rfl, trivial⟩
theorem w_hours (D : DfAt Γ "hours_against" 27 ["one", "row", "turns", "many"]) : P_hours Γ := by
  refine def0 0 Lhours_against D Shours_against rfl rfl (fun _ => rfl) fun ⟨one, row, turns, many⟩ ⟨h1, h2, h3, h4, h5⟩ => ⟨.ret (rHours (hoursI one row turns many)), rfl, ?_⟩
  have h1 : FormOk one := h1
  have h2 : RowOk row := h2
  have h3 : 0 ≤ many := h3
  have h4 : many ≤ 1000 := h4
  have h5 : ∀ p ∈ row, p.1 < many := h5
  refine rs_cons (r1_set 4 (rv 2)) ?_
  refine rs_cons (r1_fold (fun l : Int => [.dat (rForm one), .dat (rRow row), .dat (rI turns), .dat (rI many), .dat (rI l), .no, .no, .no, .no, .no]) (fun l mine => mine.foldl (fun l p => max l (turns - p.2)) l) (fun _ => True) turns rfl trivial (ri_list (f := rRow) (xs := one) (rv 0)) fun l mine hm _ => ⟨.nx (rg_name 5) (rs_one (r1_fold (fun l : Int => [.dat (rForm one), .dat (rRow row), .dat (rI turns), .dat (rI many), .dat (rI l), .dat (rRow mine), .no, .no, .no, .no]) (fun l p => max l (turns - p.2)) (fun _ => True) l rfl trivial (ri_tupZ (f := rPr) (xs := mine) (rv 5)) fun l p hp _ => ⟨.nx (rg_name 6) (rs_one (r1_set 4 (re_max2 (G.bi _ (by decide)) (rv 4) (re_sub (rv 2) (re_ixT (rs := [rI p.1, rI p.2]) (i := 1) (atI_nat (n := 1) rfl) (rv 6) re_int))))) ⟨.inr rfl, .inr rfl, .inr rfl, .inr rfl, .inr rfl, .inr rfl, .inl rfl, .inr rfl, .inr rfl, .inr rfl, trivial⟩, trivial⟩)) ⟨.inr rfl, .inr rfl, .inr rfl, .inr rfl, .inr rfl, .inl rfl, .inr rfl, .inr rfl, .inr rfl, .inr rfl, trivial⟩, trivial⟩) ?_
  refine rs_cons (r1_own 7 (rf_rep h3 h4 (rf_lst (ra_cons (rv 4) ra_nil)).re (rv 3))) ?_
  refine rs_cons (r1_fold (fun hs : List Int => [.dat (rForm one), .dat (rRow row), .dat (rI turns), .dat (rI many), .dat (rI (lateI one turns)), .no, .no, .aL (hs.map rI), .no, .no]) hourStep (fun hs => hs.length = many.toNat) (List.replicate many.toNat (lateI one turns)) ?_ (by rw [List.length_replicate]) (ri_tupZ (f := rPr) (xs := row) (rv 1)) fun hs p hp hI => ⟨?_, by unfold hourStep; rw [List.length_set]; exact hI⟩) ?_
  · rw [List.map_replicate]; rfl
  · have a1 := h5 p hp
    have a2 := (h2.2.2 p hp).1
    refine .nx (rg_tup (rgs_cons (rg_name 8) (rgs_cons (rg_name 9) rgs_nil))) (rs_one (r1_setL 7 (j := p.1.toNat) (re_sub re_int (rv 9)) (rv 8) ?_)) ?_
    · rw [List.length_map, hI]
      unfold ixN
      rw [if_pos a2, if_pos (by omega)]
    · refine ⟨.inr rfl, .inr rfl, .inr rfl, .inr rfl, .inr rfl, .inl rfl, .inl rfl, .inr ?_, .inl rfl, .inl rfl, trivial⟩
      unfold hourStep
      rw [List.map_set]
  · exact rs_one (r1_retL 7)
theorem w_later (FN : P_nearest Γ) (FH : P_hours Γ) (D : DfAt Γ "later_by" 28 ["one", "other", "turns", "many"]) : P_later Γ := by
  refine def0 2 Llater_by D Slater_by rfl rfl (fun _ => rfl) fun ⟨one, other, turns, many⟩ ⟨h1, h2, h3, h4, h5⟩ => ?_
  have h1 : FormOk one := h1
  have h2 : FormOk other := h2
  have h5 : KeysLt other many := h5
  refine ⟨.fnd (.ret rN) (fun row => rHours (hoursI one row turns many)) (other.find? fun row => farI one row turns), ?_, ?_⟩
  · show RetO _ (.ok (rOH (laterI one other turns many)))
    unfold laterI
    cases other.find? fun row => farI one row turns <;> rfl
  refine rs_find _ _ (ri_list (f := rRow) (xs := other) (rv 1)) (fun row hr => ?_) (fun _ => rs_one (r1_ret re_non))
  have hro := h2.2 row hr
  refine .of (e2 := [.dat (rForm one), .dat (rForm other), .dat (rI turns), .dat (rI many), .dat (rRow row), .dat (rBest (nearI one row))]) (rg_name 4) (rs_cons (r1_set 5 (re_call FN (one, row) ⟨h1, hro.1⟩ (ra_cons (rv 0) (ra_cons (rv 4) ra_nil)))) (rs_guard ?_ fun _ => rs_one (r1_ret (re_call FH (one, row, turns, many) ⟨h1, hro, h3, h4, h5 row hr⟩ (ra_cons (rv 0) (ra_cons (rv 4) (ra_cons (rv 2) (ra_cons (rv 3) ra_nil)))))))) ⟨.inr rfl, .inr rfl, .inr rfl, .inr rfl, .inl rfl, .inl rfl, trivial⟩
  rw [Bool.not_not]
  show RT _ _ _ _ [.dat (rForm one), .dat (rForm other), .dat (rI turns), .dat (rI many), .dat (rRow row), .dat (rBest (nearI one row))] (farI one row turns)
  unfold farI
  cases nearI one row with
  | none => exact (rw_or (k := true) (l := false) (rt_isN true (r := rN) (rv 5) (.inl ⟨rfl, rfl⟩)) (fun h => by cases h)).pt
  | some b => exact (rw_or (k := false) (rt_isN false (r := rPr b) (rv 5) (.inr ⟨rfl, notN_T⟩)) (fun _ => rw_or1 (rt_ge (re_ixT (rs := [rI b.1, rI b.2]) (i := 1) (atI_nat (n := 1) rfl) (rv 5) re_int) (rv 2)))).pt
theorem w_compared (FL : P_later Γ) (D : DfAt Γ "compared" 29 ["one", "other", "many"]) : P_compared Γ := by
  refine def0 3 Lcompared D Scompared rfl rfl (fun _ => rfl) fun ⟨one, other, many⟩ ⟨h1, h2, h3, h4, h5, h6⟩ => ⟨.ret (rT [rOH (laterI other one 1 many), rOH (laterI one other 1 many)]), rfl, ?_⟩
  exact rs_one (r1_ret (re_tup (ra_cons (re_call FL (other, one, 1, many) ⟨h2, h1, h3, h4, h5⟩ (ra_cons (rv 1) (ra_cons (rv 0) (ra_cons re_int (ra_cons (rv 2) ra_nil))))) (ra_cons (re_call FL (one, other, 1, many) ⟨h1, h2, h3, h4, h6⟩ (ra_cons (rv 0) (ra_cons (rv 1) (ra_cons re_int (ra_cons (rv 2) ra_nil))))) ra_nil))))
end
end K60
/-! text W4 -/
set_option Elab.async false
set_option linter.all false
set_option maxRecDepth 100000
set_option maxHeartbeats 4000000
namespace K60
open PySem PyProof.Rows Rl
open PySem.Spec hiding Row
open L2 (E0 XK Hp V atI ixN)
/-! ### plans -/
structure MRow where
  name : Str
  how : Str
  items : Row
structure MPlan where
  name : Str
  givens : List Str
  rows : List MRow
abbrev MBook := List MPlan
def rMRow (r : MRow) : Rp := rT [rS r.name, rS r.how, rT (r.items.map rPr)]
def fPlan (p : MPlan) : List (Str × Rp) := [("name", rS p.name), ("givens", rL (p.givens.map rS)), ("rows", rL (p.rows.map rMRow))]
def rPlan (C : Cls) (p : MPlan) : Rp := rO C.PL (fPlan p)
def rBook (C : Cls) (b : MBook) : Rp := rO C.BK [("plans", rL (b.map (rPlan C)))]
def planBy (b : MBook) (name : Str) : Option MPlan := b.find? fun p => decide (p.name = name)
def resP (C : Cls) : Option MPlan → Res
  | some p => .ok (rPlan C p)
  | none => .err (xc0 C.NP)
def resFs (C : Cls) : Option (List Form) → Res
  | some fs => .ok (rL (fs.map rForm))
  | none => .err (xc0 C.TM)
/-- forms_of, n deep -/
def madeWith (rec : Str → Option (List Form)) (how : Str) (parts : List Form) (most : Int) : Option Form :=
  if how = "all" then allOf parts most else if how = "first" then firstOf parts most else ((rec how).map fun fs => fs.getLastD []).bind fun f => putInto f parts most
def partsOf (found : List Form) (items : Row) : List Form := items.map fun p => waitedI (formAt found p.1) p.2
def formsRow (rec : Str → Option (List Form)) (most : Int) (found : List Form) (r : MRow) : Option (List Form) := (madeWith rec r.how (partsOf found r.items) most).map fun m => found ++ [m]
def formsN (b : MBook) (most : Int) : Nat → Str → Option (List Form)
  | 0, _ => none
  | n + 1, name => match planBy b name with
    | none => none
    | some p => p.rows.foldlM (formsRow (formsN b most n) most) ((List.range p.givens.length).map fun (k : Nat) => thingForm k)
/-- what is wanted of a book's plans: each row's things stand ahead, each part is a plan ahead of as many given things -/
structure RowGood (b : MBook) (at_ : Nat) (ahead : Nat) (r : MRow) : Prop where
  ne : r.items ≠ []
  few : r.items.length ≤ 40
  th : ∀ p ∈ r.items, 0 ≤ p.1 ∧ p.1 < ahead
  how : r.how = "all" ∨ r.how = "first" ∨ ∃ j p, j < at_ ∧ b[j]? = some p ∧ p.name = r.how ∧ p.givens.length = r.items.length ∧ r.how ≠ "all" ∧ r.how ≠ "first"
structure PlanGood (b : MBook) (at_ : Nat) (p : MPlan) : Prop where
  g1 : 1 ≤ p.givens.length
  g2 : p.givens.length ≤ 12
  rne : p.rows ≠ []
  few : p.rows.length ≤ 40
  row : ∀ k r, p.rows[k]? = some r → RowGood b at_ (p.givens.length + k) r
structure BookGood (b : MBook) : Prop where
  nd : (b.map (·.name)).Nodup
  plan : ∀ i p, b[i]? = some p → PlanGood b i p
abbrev P_plan_by (Γ : Cg) (C : Cls) : Prop := FnX Γ 1 "plan_by" ["book", "name"] (SpX (fun _ : MBook × Str => True) (fun x => [rBook C x.1, rS x.2]) fun x => resP C (planBy x.1 x.2))
def Deep (b : MBook) (n : Nat) (name : Str) : Prop := ∃ i p, i < n ∧ b[i]? = some p ∧ p.name = name
abbrev P_forms (Γ : Cg) (C : Cls) (n : Nat) : Prop := FnX Γ (6 + 3 * n) "forms_of" ["book", "name", "most"] (SpX (fun x : MBook × Str × Int => BookGood x.1 ∧ Deep x.1 n x.2.1 ∧ x.2.2 ≤ 8 ∧ 1 ≤ x.2.2) (fun x => [rBook C x.1, rS x.2.1, rI x.2.2]) fun x => resFs C (formsN x.1 x.2.2 n x.2.1))
def lastF (o : Option (List Form)) : Option Form := o.map fun fs => fs.getLastD []
abbrev P_told (Γ : Cg) (C : Cls) (n : Nat) : Prop := FnX Γ (6 + 3 * n + 1) "told_form" ["book", "name", "most"] (SpX (fun x : MBook × Str × Int => BookGood x.1 ∧ Deep x.1 n x.2.1 ∧ x.2.2 ≤ 8 ∧ 1 ≤ x.2.2) (fun x => [rBook C x.1, rS x.2.1, rI x.2.2]) fun x => resF C (lastF (formsN x.1 x.2.2 n x.2.1)))
abbrev P_made (Γ : Cg) (C : Cls) (n : Nat) : Prop := FnX Γ (6 + 3 * n + 1 + 1) "made_form" ["book", "how", "parts", "most"] (SpX (fun x : MBook × Str × List Form × Int => BookGood x.1 ∧ x.2.2.2 ≤ 8 ∧ 1 ≤ x.2.2.2 ∧ x.2.2.1 ≠ [] ∧ (∀ f ∈ x.2.2.1, FormOk f) ∧
  (x.2.1 = "all" ∨ x.2.1 = "first" ∨ (∃ i p, i < n ∧ x.1[i]? = some p ∧ p.name = x.2.1 ∧ p.givens.length = x.2.2.1.length ∧ x.2.1 ≠ "all" ∧ x.2.1 ≠ "first"))) (fun x => [rBook C x.1, rS x.2.1, rL (x.2.2.1.map rForm), rI x.2.2.2]) fun x => resF C (madeWith (formsN x.1 x.2.2.2 n) x.2.1 x.2.2.1 x.2.2.2))
section
variable {Γ : Cg} {C : Cls} (G : Gk Γ C)
include G
theorem re_plans {L E env e pos b} (h : RE Γ L E e env (rBook C b)) (hb : ∀ en : Env, attributeBase e "plans" en (eval e en) = eval e en) : RE Γ L E (.Attribute e "plans" pos) env (rL (b.map (rPlan C))) := re_fld G.bkc G.bkn rfl h hb
theorem re_pname {L E env e pos p} (h : RE Γ L E e env (rPlan C p)) (hb : ∀ en : Env, attributeBase e "name" en (eval e en) = eval e en) : RE Γ L E (.Attribute e "name" pos) env (rS p.name) := re_fld G.plc (G.pln _ (by decide)) rfl h hb
theorem re_pgiv {L E env e pos p} (h : RE Γ L E e env (rPlan C p)) (hb : ∀ en : Env, attributeBase e "givens" en (eval e en) = eval e en) : RE Γ L E (.Attribute e "givens" pos) env (rL (p.givens.map rS)) := re_fld G.plc (G.pln _ (by decide)) (fs := fPlan p) (r := rL (p.givens.map rS)) rfl h hb
theorem re_prow {L E env e pos p} (h : RE Γ L E e env (rPlan C p)) (hb : ∀ en : Env, attributeBase e "rows" en (eval e en) = eval e en) : RE Γ L E (.Attribute e "rows" pos) env (rL (p.rows.map rMRow)) := re_fld G.plc (G.pln _ (by decide)) (fs := fPlan p) (r := rL (p.rows.map rMRow)) rfl h hb
theorem w_plan_by (D : DfAt Γ "plan_by" 33 ["book", "name"]) : P_plan_by Γ C := by
  refine defX 0 Lplan_by D Splan_by rfl rfl (fun _ => rfl) fun E ⟨b, name⟩ _ => ⟨.fnd (.err (xc0 C.NP)) (rPlan C) (planBy b name), ?_, ?_⟩
  · show RetO _ (resP C (planBy b name))
    cases planBy b name <;> rfl
  · refine rs_find _ _ (ri_list (f := rPlan C) (xs := b) (re_plans G (rv 0) (by intro _; rfl))) (fun p hp => .of (rg_name 2) (rs_guard (RT.eq (rt_eqS (re_pname G (rv 2) (by intro _; rfl)) (rv 1)) (Bool.not_not _).symm) fun _ => rs_one (r1_ret (rv 2))) ⟨.inr rfl, .inr rfl, .inl rfl, trivial⟩) (fun _ => rs_one (r1_raise G.np))
end
end K60
/-! text M1 -/
set_option Elab.async false
set_option linter.all false
set_option maxRecDepth 100000
set_option maxHeartbeats 4000000
namespace K60
open PySem PyProof.Rows Rl
open PySem.Spec hiding Row
open L2 (E0 XK Hp V atI ixN)
/-! ### forms keep to their things -/
structure FormGood (m : Int) (f : Form) : Prop where
  ok : FormOk f
  ne : f ≠ []
  ky : KeysLt f m
theorem thin_ne {rows : Form} (h : rows ≠ []) : thinI rows ≠ [] := by
  have key : ∀ (xs left : Form), left ≠ [] ∨ xs ≠ [] → xs.foldl thinStep left ≠ [] := by
    intro xs
    induction xs with
    | nil => intro left h; exact h.resolve_right (by simp)
    | cons x xs ih =>
      intro left _
      refine ih _ (.inl ?_)
      unfold thinStep
      split
      · rename_i h2
        obtain ⟨o, ho, _⟩ := List.any_eq_true.mp h2
        exact fun e => by rw [e] at ho; cases ho
      · simp
  intro e
  have pm := List.mergeSort_perm (rows.foldl thinStep []) leR
  unfold thinI at e
  rw [e] at pm
  exact key rows [] (.inr h) (List.nil_perm.mp pm)
theorem thin_keys {rows : Form} {m : Int} (h : KeysLt rows m) : KeysLt (thinI rows) m := fun r hr => h r (thinI_mem hr)
theorem both_keys {a b : Form} {m : Int} (ha : FormGood m a) (hb : FormGood m b) : KeysLt (bothOf a b) m := fun r hr p hp => by
  obtain ⟨x, hx, hr⟩ := List.mem_flatMap.mp (thinI_mem hr)
  obtain ⟨y, hy, rfl⟩ := List.mem_map.mp hr
  have pm := List.mergeSort_perm (joinF x y) leP
  rcases (joinF_keys y x (ha.ok.2 x hx).1).2.2 p (pm.mem_iff.mp hp) with ⟨q, hq, e⟩ | ⟨q, hq, e⟩
  · rw [← e]; exact ha.ky x hx q hq
  · rw [← e]; exact hb.ky y hy q hq
theorem both_ne {a b : Form} (ha : a ≠ []) (hb : b ≠ []) : bothOf a b ≠ [] := by
  refine thin_ne fun e => ?_
  obtain ⟨x, hx⟩ := List.exists_mem_of_ne_nil a ha
  obtain ⟨y, hy⟩ := List.exists_mem_of_ne_nil b hb
  have : joinI x y ∈ a.flatMap fun row => b.map fun more => joinI row more := List.mem_flatMap.mpr ⟨x, hx, List.mem_map.mpr ⟨y, hy, rfl⟩⟩
  rw [e] at this
  cases this
theorem good_thing {t m : Int} (h0 : 0 ≤ t) (h1 : t < m) (h2 : m ≤ 12) : FormGood m (thingForm t) := by
  refine ⟨⟨Nat.le_of_ble_eq_true rfl, fun r hr => ?_⟩, by simp [thingForm], fun r hr p hp => ?_⟩
  · have : r = [(t, 0)] := by simpa [thingForm] using hr
    subst this
    exact ⟨by simp, by simp, fun p hp => by
      have : p = (t, 0) := by simpa using hp
      subst this
      exact ⟨h0, by show t < 12; omega⟩⟩
  · have : r = [(t, 0)] := by simpa [thingForm] using hr
    subst this
    have : p = (t, 0) := by simpa using hp
    subst this
    exact h1
theorem good_waited {f : Form} {m : Int} (w : Int) (h : FormGood m f) : FormGood m (waitedI f w) := by
  refine ⟨waitedI_ok w h.ok, fun e => h.ne (by unfold waitedI at e; simpa using e), fun r hr p hp => ?_⟩
  unfold waitedI at hr
  obtain ⟨q, hq, rfl⟩ := List.mem_map.mp hr
  unfold shiftI at hp
  obtain ⟨z, hz, rfl⟩ := List.mem_map.mp hp
  exact h.ky q hq z hz
/-- a fold of forms in room -/
theorem good_fold {most m : Int} (hm : most ≤ 8) (op : Form → Form → Form) (hop : ∀ a b, FormGood m a → FormGood m b → (∀ r ∈ op a b, RowOk r) ∧ op a b ≠ [] ∧ KeysLt (op a b) m) : ∀ (xs : List Form) (a g : Form), FormGood m a → (∀ f ∈ xs, FormGood m f) → xs.foldlM (fun m f => inRoom (op m f) most) a = some g → FormGood m g
  | [], a, g, ha, _, e => by cases e; exact ha
  | x :: xs, a, g, ha, hx, e => by
    rw [List.foldlM_cons] at e
    cases e1 : inRoom (op a x) most with
    | none => rw [e1] at e; cases e
    | some m2 =>
      rw [e1] at e
      obtain ⟨e2, e3⟩ := inRoom_ok e1
      obtain ⟨h1, h2, h3⟩ := hop a x ha (hx x List.mem_cons_self)
      refine good_fold hm op hop xs m2 g ?_ (fun f hf => hx f (List.mem_cons_of_mem _ hf)) e
      rw [e2]
      exact ⟨⟨by omega, h1⟩, h2, h3⟩
theorem good_first {most m : Int} (hm : most ≤ 8) {fs : List Form} {g : Form} (hne : fs ≠ []) (hf : ∀ f ∈ fs, FormGood m f) (h : firstOf fs most = some g) : FormGood m g := by
  cases fs with
  | nil => exact absurd rfl hne
  | cons f fs =>
    unfold firstOf at h
    cases e1 : inRoom ((f :: fs).headD []) most with
    | none => rw [e1] at h; cases h
    | some a =>
      rw [e1] at h
      obtain ⟨e2, e3⟩ := inRoom_ok e1
      have e2 : a = f := e2
      subst e2
      refine good_fold hm (fun m f => thinI (m ++ f)) (fun a b ha hb => ⟨fun r hr => ?_, thin_ne (by simp [ha.ne]), thin_keys fun r hr => ?_⟩) fs a g (hf a List.mem_cons_self) (fun x hx => hf x (List.mem_cons_of_mem _ hx)) h
      · rcases List.mem_append.mp (thinI_mem hr) with z | z
        · exact ha.ok.2 r z
        · exact hb.ok.2 r z
      · rcases List.mem_append.mp hr with z | z
        · exact ha.ky r z
        · exact hb.ky r z
theorem good_all {most m : Int} (hm : most ≤ 8) {fs : List Form} {g : Form} (hne : fs ≠ []) (hf : ∀ f ∈ fs, FormGood m f) (h : allOf fs most = some g) : FormGood m g := by
  cases fs with
  | nil => exact absurd rfl hne
  | cons f fs =>
    unfold allOf at h
    cases e1 : inRoom ((f :: fs).headD []) most with
    | none => rw [e1] at h; cases h
    | some a =>
      rw [e1] at h
      obtain ⟨e2, e3⟩ := inRoom_ok e1
      have e2 : a = f := e2
      subst e2
      exact good_fold hm bothOf (fun a b ha hb => ⟨fun r hr => bothOf_rows ha.ok hb.ok hr, both_ne ha.ne hb.ne, both_keys ha hb⟩) fs a g (hf a List.mem_cons_self) (fun x hx => hf x (List.mem_cons_of_mem _ hx)) h
theorem mapM_mem {α β : Type} {g : α → Option β} : ∀ {xs : List α} {ys : List β}, xs.mapM g = some ys → ys.length = xs.length ∧ ∀ y ∈ ys, ∃ x ∈ xs, g x = some y
  | [], ys, e => by
    have : ys = [] := by simpa using e.symm
    subst this
    exact ⟨rfl, fun y hy => by cases hy⟩
  | x :: xs, ys, e => by
    rw [List.mapM_cons] at e
    cases e1 : g x with
    | none => rw [e1] at e; cases e
    | some y =>
      rw [e1] at e
      cases e2 : xs.mapM g with
      | none => rw [e2] at e; cases e
      | some zs =>
        rw [e2] at e
        have e : some (y :: zs) = some ys := e
        cases e
        obtain ⟨h1, h2⟩ := mapM_mem e2
        refine ⟨by rw [List.length_cons, List.length_cons, h1], fun z hz => ?_⟩
        rcases List.mem_cons.mp hz with hz | hz
        · subst hz; exact ⟨x, List.mem_cons_self, e1⟩
        · obtain ⟨w, h3, h4⟩ := h2 z hz
          exact ⟨w, List.mem_cons_of_mem _ h3, h4⟩
theorem formAt_mem {fs : List Form} {t : Int} (h0 : 0 ≤ t) (h1 : t < fs.length) : formAt fs t ∈ fs := by
  unfold formAt
  rw [List.getD_eq_getElem?_getD, List.getElem?_eq_getElem (by omega)]
  exact List.getElem_mem _
theorem good_put {most m : Int} (hm : most ≤ 8) {form : Form} {fs : List Form} {g : Form} (hne : form ≠ []) (hok : FormOk form) (hk : KeysLt form fs.length) (hf : ∀ f ∈ fs, FormGood m f) (h : putInto form fs most = some g) : FormGood m g := by
  unfold putInto at h
  cases e : form.mapM fun row => allOf (row.map fun p => waitedI (formAt fs p.1) p.2) most with
  | none => rw [e] at h; cases h
  | some ms =>
    rw [e] at h
    obtain ⟨h1, h2⟩ := mapM_mem e
    refine good_first hm (fs := ms) (fun z => hne (List.eq_nil_of_length_eq_zero (by rw [← h1, z]; rfl))) (fun f hf2 => ?_) h
    obtain ⟨row, hr, e2⟩ := h2 f hf2
    refine good_all hm (fun z => (hok.2 row hr).2.1 (by simpa using z)) (fun f3 hf3 => ?_) e2
    obtain ⟨p, hp, rfl⟩ := List.mem_map.mp hf3
    exact good_waited _ (hf _ (formAt_mem ((hok.2 row hr).2.2 p hp).1 (hk row hr p hp)))
theorem parts_good {m : Int} {found : List Form} {items : Row} (hf : ∀ f ∈ found, FormGood m f) (hi : ∀ p ∈ items, 0 ≤ p.1 ∧ p.1 < found.length) : ∀ f ∈ partsOf found items, FormGood m f := fun f hf2 => by
  obtain ⟨p, hp, rfl⟩ := List.mem_map.mp hf2
  exact good_waited _ (hf _ (formAt_mem (hi p hp).1 (hi p hp).2))
/-- what forms_of gives -/
def FormsGood (b : MBook) (name : Str) (fs : List Form) : Prop := ∃ p, planBy b name = some p ∧ fs.length = p.givens.length + p.rows.length ∧ ∀ f ∈ fs, FormGood p.givens.length f
theorem planBy_at {b : MBook} (hn : (b.map (·.name)).Nodup) {i : Nat} {p : MPlan} (h : b[i]? = some p) : planBy b p.name = some p := by
  induction b generalizing i with
  | nil => cases h
  | cons q b ih =>
    unfold planBy
    rw [List.find?_cons]
    have hn2 := List.nodup_cons.mp hn
    cases i with
    | zero =>
      have h : q = p := by simpa using h
      subst h
      simp
    | succ i =>
      have h : b[i]? = some p := by simpa using h
      have hm := List.mem_of_getElem? h
      have : q.name ≠ p.name := fun e => hn2.1 (List.mem_map.mpr ⟨p, hm, e.symm⟩)
      simp only [decide_eq_false this]
      exact ih hn2.2 h
theorem planBy_mem {b : MBook} {name : Str} {p : MPlan} (h : planBy b name = some p) : p ∈ b ∧ p.name = name := by
  unfold planBy at h
  exact ⟨List.mem_of_find?_eq_some h, by simpa using List.find?_some h⟩
theorem getLastD_mem {fs : List Form} (h : fs ≠ []) : fs.getLastD [] ∈ fs := by
  cases fs with
  | nil => exact absurd rfl h
  | cons a l => rw [List.getLastD_cons]; exact List.getLastD_mem_cons
theorem made_good {b : MBook} {most : Int} (hm : most ≤ 8) {rec : Str → Option (List Form)} {at_ : Nat} {m : Int} {ahead : Nat} {r : MRow} {found : List Form} {g : Form} (hr : RowGood b at_ ahead r) (hl : found.length = ahead) (hf : ∀ f ∈ found, FormGood m f) (hnd : (b.map (·.name)).Nodup) (hpl : ∀ (i : Nat) (p : MPlan), b[i]? = some p → p.rows ≠ [])
    (hrec : ∀ j p fs, j < at_ → b[j]? = some p → rec p.name = some fs → FormsGood b p.name fs) (h : madeWith rec r.how (partsOf found r.items) most = some g) : FormGood m g := by
  have pg := parts_good hf (items := r.items) (by rw [hl]; exact hr.th)
  have pne : partsOf found r.items ≠ [] := fun z => hr.ne (by unfold partsOf at z; simpa using z)
  unfold madeWith at h
  by_cases h1 : r.how = "all"
  · rw [if_pos h1] at h
    exact good_all hm pne pg h
  · rw [if_neg h1] at h
    by_cases h2 : r.how = "first"
    · rw [if_pos h2] at h
      exact good_first hm pne pg h
    · rw [if_neg h2] at h
      rcases hr.how with z | z | ⟨j, p, hj, hp, hpn, hpg, _, _⟩
      · exact absurd z h1
      · exact absurd z h2
      · cases e : rec r.how with
        | none => rw [e] at h; cases h
        | some fs =>
          rw [e] at h
          obtain ⟨p2, e2, e3, e4⟩ := hrec j p fs hj hp (by rw [hpn]; exact e)
          rw [planBy_at hnd hp] at e2
          cases e2
          have fne : fs ≠ [] := fun z => by
            rw [z] at e3
            exact hpl j p hp (List.eq_nil_of_length_eq_zero (by have e3 : 0 = p.givens.length + p.rows.length := e3; omega))
          have lg := e4 _ (getLastD_mem fne)
          have h : putInto (fs.getLastD []) (partsOf found r.items) most = some g := h
          refine good_put hm lg.ne lg.ok ?_ pg h
          have : (partsOf found r.items).length = r.items.length := by unfold partsOf; rw [List.length_map]
          rw [this, ← hpg]
          exact lg.ky
theorem forms_good {b : MBook} (hb : BookGood b) {most : Int} (hm : most ≤ 8) : ∀ (n : Nat) (i : Nat) (p : MPlan) (fs : List Form), i < n → b[i]? = some p → formsN b most n p.name = some fs → FormsGood b p.name fs
  | 0, i, p, fs, hi, _, _ => absurd hi (Nat.not_lt_zero _)
  | n + 1, i, p, fs, hi, hp, h => by
    unfold formsN at h
    rw [planBy_at hb.nd hp] at h
    have pg := hb.plan i p hp
    refine ⟨p, planBy_at hb.nd hp, ?_⟩
    have key : ∀ (rs pre : List MRow) (found : List Form), p.rows = pre ++ rs → found.length = p.givens.length + pre.length → (∀ f ∈ found, FormGood p.givens.length f) → rs.foldlM (formsRow (formsN b most n) most) found = some fs → fs.length = p.givens.length + p.rows.length ∧ ∀ f ∈ fs, FormGood p.givens.length f := by
      intro rs
      induction rs with
      | nil =>
        intro pre found e1 e2 e3 e4
        cases e4
        rw [List.append_nil] at e1
        rw [e1]
        exact ⟨e2, e3⟩
      | cons r rs ih =>
        intro pre found e1 e2 e3 e4
        rw [List.foldlM_cons] at e4
        unfold formsRow at e4
        cases e5 : madeWith (formsN b most n) r.how (partsOf found r.items) most with
        | none => rw [e5] at e4; cases e4
        | some g =>
          rw [e5] at e4
          have hrow : RowGood b i (p.givens.length + pre.length) r := pg.row pre.length r (by rw [e1, List.getElem?_append_right (Nat.le_refl _), Nat.sub_self]; rfl)
          have gg := made_good hm hrow e2 e3 hb.nd (fun i p hp => (hb.plan i p hp).rne) (fun j q fs hj hq hfs => forms_good hb hm n j q fs (by omega) hq hfs) e5
          refine ih (pre ++ [r]) (found ++ [g]) (by rw [e1, List.append_assoc]; rfl) (by rw [List.length_append, List.length_append, e2]; rfl) (fun f hf => ?_) e4
          rcases List.mem_append.mp hf with z | z
          · exact e3 f z
          · have z : f = g := by simpa using z
            rw [z]; exact gg
    refine key p.rows [] _ rfl (by rw [List.length_map, List.length_range]; rfl) (fun f hf => ?_) h
    obtain ⟨k, hk, rfl⟩ := List.mem_map.mp hf
    have := List.mem_range.mp hk
    have := pg.g2
    exact good_thing (by omega) (by omega) (by omega)
end K60
/-! text W5 -/
set_option Elab.async false
set_option linter.all false
set_option maxRecDepth 100000
set_option maxHeartbeats 4000000
namespace K60
open PySem PyProof.Rows Rl
open PySem.Spec hiding Row
open L2 (E0 XK Hp V atI ixN)
theorem atI_last {α : Type} {xs : List α} {x : α} (h : xs[xs.length - 1]? = some x) : atI xs (-1) = some x := by
  have hl := (List.getElem?_eq_some_iff.mp h).1
  have e : ixN xs.length (-1) = some (xs.length - 1) := by
    unfold ixN
    rw [if_neg (by decide), if_pos (by omega)]
    congr 1
    omega
  unfold atI
  rw [e]
  exact h
theorem last_at {fs : List Form} (h : fs ≠ []) : fs[fs.length - 1]? = some (fs.getLastD []) := by
  rw [List.getLastD_eq_getLast?, List.getLast?_eq_getElem?]
  cases e : fs[fs.length - 1]? with
  | none =>
    have := List.getElem?_eq_none_iff.mp e
    have : fs.length ≠ 0 := fun z => h (List.eq_nil_of_length_eq_zero z)
    omega
  | some x => rfl
theorem resF_none {C : Cls} {o : Option Form} (h : o = none) : resF C o = .err (xc0 C.TM) := by rw [h]; rfl
theorem resF_some {C : Cls} {o : Option Form} {f : Form} (h : o = some f) : resF C o = .ok (rForm f) := by rw [h]; rfl
theorem deep_plan {b : MBook} (hb : BookGood b) {n : Nat} {name : Str} (h : Deep b n name) : ∃ i p, i < n ∧ b[i]? = some p ∧ p.name = name ∧ planBy b name = some p := by
  obtain ⟨i, p, h1, h2, h3⟩ := h
  exact ⟨i, p, h1, h2, h3, by rw [← h3]; exact planBy_at hb.nd h2⟩
theorem lv (n : Nat) {j : Nat} (h : j ≤ 6) : j ≤ 6 + 3 * n + 1 := by omega
theorem lv2 (n : Nat) {j : Nat} (h : j ≤ 6) : j ≤ 6 + 3 * n + 1 + 1 := by omega
theorem at_form {fs : List Form} {t : Int} (h0 : 0 ≤ t) (h1 : t < fs.length) : atI (fs.map rForm) t = some (rForm (formAt fs t)) := by
  have e : fs[t.toNat]? = some (formAt fs t) := by
    unfold formAt
    rw [List.getD_eq_getElem?_getD, List.getElem?_eq_getElem (by omega)]
    rfl
  have : t = (t.toNat : Int) := by omega
  rw [this]
  exact atI_nat (by rw [List.getElem?_map, ← this, e]; rfl)
theorem parts_rep (found : List Form) (items : Row) : rL ((partsOf found items).map rForm) = rL (items.map fun q => rForm (waitedI (formAt found q.1) q.2)) := by
  unfold partsOf
  rw [List.map_map]
  rfl
theorem mpre {b : MBook} {most : Int} (hb : BookGood b) (hm : most ≤ 8) (hm1 : 1 ≤ most) {i n : Nat} {ahead m : Nat} {r : MRow} {found : List Form} (rgd : RowGood b i ahead r) (hi : i < n + 1) (hl : found.length = ahead) (hf : ∀ f ∈ found, FormGood m f) :
    BookGood b ∧ most ≤ 8 ∧ 1 ≤ most ∧ partsOf found r.items ≠ [] ∧ (∀ f ∈ partsOf found r.items, FormOk f) ∧ (r.how = "all" ∨ r.how = "first" ∨ (∃ i p, i < n ∧ b[i]? = some p ∧ p.name = r.how ∧ p.givens.length = (partsOf found r.items).length ∧ r.how ≠ "all" ∧ r.how ≠ "first")) := by
  refine ⟨hb, hm, hm1, fun z => rgd.ne (by unfold partsOf at z; simpa using z), fun f hf2 => (parts_good hf (by rw [hl]; exact rgd.th) f hf2).ok, ?_⟩
  rcases rgd.how with z | z | ⟨j, p, h1, h2, h3, h4, h5, h6⟩
  · exact .inl z
  · exact .inr (.inl z)
  · exact .inr (.inr ⟨j, p, by omega, h2, h3, by unfold partsOf; rw [List.length_map]; exact h4, h5, h6⟩)
section
variable {Γ : Cg} {C : Cls} (G : Gk Γ C)
include G
theorem w_told {n : Nat} (FF : P_forms Γ C n) (D : DfAt Γ "told_form" 37 ["book", "name", "most"]) : P_told Γ C n := by
  refine defX (6 + 3 * n) Ltold_form D Stold_form rfl rfl (fun _ => rfl) fun E ⟨b, name, most⟩ ⟨hb, hd, hm, hm1⟩ => ?_
  obtain ⟨i, p, hi, hp, hn, hpl⟩ := deep_plan hb hd
  have hn : p.name = name := hn
  subst hn
  cases e : formsN b most n p.name with
  | none =>
    refine ⟨.err (xc0 C.TM), ?_, ?_⟩
    · rfl
    · exact rs_one (r1_xret (rx_ix (rx_callX FF (b, p.name, most) ⟨hb, hd, hm, hm1⟩ (by show resFs C (formsN b most n p.name) = _; rw [e]; rfl) (ra_cons (rv 0) (ra_cons (rv 1) (ra_cons (rv 2) ra_nil))) (Nat.le_refl _))))
  | some fs =>
    have hm : most ≤ 8 := hm
    obtain ⟨p2, e2, e3, e4⟩ := forms_good hb hm n i p fs hi hp e
    have fne : fs ≠ [] := fun z => by
      rw [z] at e3
      rw [planBy_at hb.nd hp] at e2
      cases e2
      exact (hb.plan i p hp).rne (List.eq_nil_of_length_eq_zero (by have e3 : 0 = p.givens.length + p.rows.length := e3; omega))
    refine ⟨.ret (rForm (fs.getLastD [])), ?_, ?_⟩
    · rfl
    · exact rs_one (r1_ret (re_ixL (rs := fs.map rForm) (i := -1) (atI_last (by rw [List.length_map, List.getElem?_map, last_at fne]; rfl)) (rp_of (re_callX FF (b, p.name, most) ⟨hb, hd, hm, hm1⟩ (by show resFs C (formsN b most n p.name) = _; rw [e]; rfl) (ra_cons (rv 0) (ra_cons (rv 1) (ra_cons (rv 2) ra_nil))) (Nat.le_refl _))) (re_neg re_int)))
theorem w_made {n : Nat} (FA : P_all_of Γ C) (FF : P_first_of Γ C) (FP : P_put_into Γ C) (FT : P_told Γ C n) (D : DfAt Γ "made_form" 35 ["book", "how", "parts", "most"]) : P_made Γ C n := by
  refine defX (6 + 3 * n + 1) Lmade_form D Smade_form rfl rfl (fun _ => rfl) fun E ⟨b, how, parts, most⟩ ⟨hb, hm, hm1, hpe, hpf, hh⟩ => ?_
  have hm : most ≤ 8 := hm
  have hpf : ∀ f ∈ parts, FormOk f := hpf
  by_cases h1 : how = "all"
  · have er : madeWith (formsN b most n) how parts most = allOf parts most := if_pos h1
    have hc : ∀ {L E env e e2 pos}, RE Γ L E e env (rS how) → RE Γ L E e2 env (rS "all") → RT Γ L E (.Compare e [.Eq] [e2] pos) env true := fun a b => RT.eq (rt_eqS a b) (decide_eq_true h1)
    cases e : allOf parts most with
    | none =>
      refine ⟨.err (xc0 C.TM), by show RetO _ (resF C (madeWith (formsN b most n) how parts most)); rw [er, e]; rfl, ?_⟩
      exact rs_stop (r1_if (k := true) (hc (rv 1) re_str) (fun _ => rs_one (r1_xret (rx_callX FA (parts, most) ⟨hm, hpe, hpf⟩ (resF_none e) (ra_cons (rv 2) (ra_cons (rv 3) ra_nil)) (lv n (by decide))))) fun h => by cases h)
    | some f =>
      refine ⟨.ret (rForm f), by show RetO _ (resF C (madeWith (formsN b most n) how parts most)); rw [er, e]; rfl, ?_⟩
      exact rs_stop (r1_if (k := true) (hc (rv 1) re_str) (fun _ => rs_one (r1_ret (re_callX FA (parts, most) ⟨hm, hpe, hpf⟩ (resF_some e) (ra_cons (rv 2) (ra_cons (rv 3) ra_nil)) (lv n (by decide))))) fun h => by cases h)
  · have hc : ∀ {L E env e e2 pos}, RE Γ L E e env (rS how) → RE Γ L E e2 env (rS "all") → RT Γ L E (.Compare e [.Eq] [e2] pos) env false := fun a b => RT.eq (rt_eqS a b) (decide_eq_false h1)
    by_cases h2 : how = "first"
    · have er : madeWith (formsN b most n) how parts most = firstOf parts most := by unfold madeWith; rw [if_neg h1, if_pos h2]
      have hc2 : ∀ {L E env e e2 pos}, RE Γ L E e env (rS how) → RE Γ L E e2 env (rS "first") → RT Γ L E (.Compare e [.Eq] [e2] pos) env true := fun a b => RT.eq (rt_eqS a b) (decide_eq_true h2)
      cases e : firstOf parts most with
      | none =>
        refine ⟨.err (xc0 C.TM), by show RetO _ (resF C (madeWith (formsN b most n) how parts most)); rw [er, e]; rfl, ?_⟩
        exact rs_cons (r1_if (k := false) (hc (rv 1) re_str) (fun h => by cases h) fun _ => rs_nil) (rs_stop (r1_if (k := true) (hc2 (rv 1) re_str) (fun _ => rs_one (r1_xret (rx_callX FF (parts, most) ⟨hm, hpe, hpf⟩ (resF_none e) (ra_cons (rv 2) (ra_cons (rv 3) ra_nil)) (lv n (by decide))))) fun h => by cases h))
      | some f =>
        refine ⟨.ret (rForm f), by show RetO _ (resF C (madeWith (formsN b most n) how parts most)); rw [er, e]; rfl, ?_⟩
        exact rs_cons (r1_if (k := false) (hc (rv 1) re_str) (fun h => by cases h) fun _ => rs_nil) (rs_stop (r1_if (k := true) (hc2 (rv 1) re_str) (fun _ => rs_one (r1_ret (re_callX FF (parts, most) ⟨hm, hpe, hpf⟩ (resF_some e) (ra_cons (rv 2) (ra_cons (rv 3) ra_nil)) (lv n (by decide))))) fun h => by cases h))
    · have hc2 : ∀ {L E env e e2 pos}, RE Γ L E e env (rS how) → RE Γ L E e2 env (rS "first") → RT Γ L E (.Compare e [.Eq] [e2] pos) env false := fun a b => RT.eq (rt_eqS a b) (decide_eq_false h2)
      obtain ⟨i, p, hi, hp, hpn, hpg, _, _⟩ := (hh.resolve_left h1).resolve_left h2
      have hpn : p.name = how := hpn
      subst hpn
      have hd : Deep b n p.name := ⟨i, p, hi, hp, rfl⟩
      have er : madeWith (formsN b most n) p.name parts most = (lastF (formsN b most n p.name)).bind fun f => putInto f parts most := by unfold madeWith; rw [if_neg h1, if_neg h2]; rfl
      cases e0 : lastF (formsN b most n p.name) with
      | none =>
        refine ⟨.err (xc0 C.TM), by show RetO _ (resF C (madeWith (formsN b most n) p.name parts most)); rw [er, e0]; rfl, ?_⟩
        exact rs_cons (r1_if (k := false) (hc (rv 1) re_str) (fun h => by cases h) fun _ => rs_nil) (rs_cons (r1_if (k := false) (hc2 (rv 1) re_str) (fun h => by cases h) fun _ => rs_nil) (rs_one (r1_xret (rx_argX FP (rxa_here (rx_callX FT (b, p.name, most) ⟨hb, hd, hm, hm1⟩ (resF_none e0) (ra_cons (rv 0) (ra_cons (rv 1) (ra_cons (rv 3) ra_nil))) (Nat.le_refl _))) (lv n (by decide))))))
      | some f =>
        have hf : FormOk f ∧ f ≠ [] ∧ KeysLt f parts.length := by
          cases e1 : formsN b most n p.name with
          | none => rw [e1] at e0; cases e0
          | some fs =>
            rw [e1] at e0
            have e0 : fs.getLastD [] = f := Option.some.inj e0
            obtain ⟨p2, e2, e3, e4⟩ := forms_good hb hm n i p fs hi hp e1
            rw [planBy_at hb.nd hp] at e2
            cases e2
            have fne : fs ≠ [] := fun z => by
              rw [z] at e3
              exact (hb.plan i p hp).rne (List.eq_nil_of_length_eq_zero (by have e3 : 0 = p.givens.length + p.rows.length := e3; omega))
            have lg := e4 _ (getLastD_mem fne)
            rw [e0] at lg
            have hpg : p.givens.length = parts.length := hpg
            exact ⟨lg.ok, lg.ne, by rw [← hpg]; exact lg.ky⟩
        have cl : putInto f parts most = none ∨ ∃ g, putInto f parts most = some g := by
          cases putInto f parts most with
          | none => exact .inl rfl
          | some g => exact .inr ⟨g, rfl⟩
        rcases cl with e | ⟨g, e⟩
        · refine ⟨.err (xc0 C.TM), by show RetO _ (resF C (madeWith (formsN b most n) p.name parts most)); rw [er, e0]; show RetO _ (resF C (putInto f parts most)); rw [e]; rfl, ?_⟩
          exact rs_cons (r1_if (k := false) (hc (rv 1) re_str) (fun h => by cases h) fun _ => rs_nil) (rs_cons (r1_if (k := false) (hc2 (rv 1) re_str) (fun h => by cases h) fun _ => rs_nil) (rs_one (r1_xret (rx_callX FP (f, parts, most) ⟨hm, hf.2.1, hf.1, hpf, hf.2.2⟩ (resF_none e) (ra_cons (re_callX FT (b, p.name, most) ⟨hb, hd, hm, hm1⟩ (resF_some e0) (ra_cons (rv 0) (ra_cons (rv 1) (ra_cons (rv 3) ra_nil))) (Nat.le_refl _)) (ra_cons (rv 2) (ra_cons (rv 3) ra_nil))) (lv n (by decide))))))
        · refine ⟨.ret (rForm g), by show RetO _ (resF C (madeWith (formsN b most n) p.name parts most)); rw [er, e0]; show RetO _ (resF C (putInto f parts most)); rw [e]; rfl, ?_⟩
          exact rs_cons (r1_if (k := false) (hc (rv 1) re_str) (fun h => by cases h) fun _ => rs_nil) (rs_cons (r1_if (k := false) (hc2 (rv 1) re_str) (fun h => by cases h) fun _ => rs_nil) (rs_one (r1_ret (re_callX FP (f, parts, most) ⟨hm, hf.2.1, hf.1, hpf, hf.2.2⟩ (resF_some e) (ra_cons (re_callX FT (b, p.name, most) ⟨hb, hd, hm, hm1⟩ (resF_some e0) (ra_cons (rv 0) (ra_cons (rv 1) (ra_cons (rv 3) ra_nil))) (Nat.le_refl _)) (ra_cons (rv 2) (ra_cons (rv 3) ra_nil))) (lv n (by decide))))))
theorem w_forms {n : Nat} (FPB : P_plan_by Γ C) (FTF : P_thing_form Γ) (FW : P_waited Γ) (FM : P_made Γ C n) (D : DfAt Γ "forms_of" 36 ["book", "name", "most"]) : P_forms Γ C (n + 1) := by
  have key : FnX Γ (6 + 3 * n + 1 + 1 + 1) "forms_of" ["book", "name", "most"] (SpX (fun x : MBook × Str × Int => BookGood x.1 ∧ Deep x.1 (n + 1) x.2.1 ∧ x.2.2 ≤ 8 ∧ 1 ≤ x.2.2) (fun x => [rBook C x.1, rS x.2.1, rI x.2.2]) fun x => resFs C (formsN x.1 x.2.2 (n + 1) x.2.1)) := by
    refine defX (6 + 3 * n + 1 + 1) Lforms_of D Sforms_of rfl rfl (fun _ => rfl) fun E ⟨b, name, most⟩ ⟨hb, hd, hm, hm1⟩ => ?_
    obtain ⟨i, p, hi, hp, hn, hpl⟩ := deep_plan hb hd
    have hn : p.name = name := hn
    subst hn
    have hm : most ≤ 8 := hm
    have hb : BookGood b := hb
    have hp : b[i]? = some p := hp
    have pg := hb.plan i p hp
    have i0 : List Form := (List.range p.givens.length).map fun (k : Nat) => thingForm k
    refine ⟨.opt (fun fs => .ret (rL (fs.map rForm))) (xc0 C.TM) (p.rows.foldlM (formsRow (formsN b most n) most) ((List.range p.givens.length).map fun (k : Nat) => thingForm k)), ?_, ?_⟩
    · show RetO _ (resFs C (formsN b most (n + 1) p.name))
      unfold formsN
      rw [hpl]
      show RetO _ (resFs C (p.rows.foldlM (formsRow (formsN b most n) most) ((List.range p.givens.length).map fun (k : Nat) => thingForm k)))
      cases p.rows.foldlM (formsRow (formsN b most n) most) ((List.range p.givens.length).map fun (k : Nat) => thingForm k) <;> rfl
    refine rs_cons (r1_set 3 (re_callX FPB (b, p.name) trivial (by show resP C (planBy b p.name) = _; rw [hpl]; rfl) (ra_cons (rv 0) (ra_cons (rv 1) ra_nil)) (lv2 n (by decide)))) ?_
    refine rs_cons (r1_own 4 (rf_lc (h := fun (k : Nat) => rForm (thingForm k)) [("thing", 5)] (ri_range (n := p.givens.length) (by have := pg.g2; omega) (G.bi _ (by decide)) (RE.eq (re_len (G.bi _ (by decide)) (rp_of (re_pgiv G (rv 3) (by intro _; rfl)))) (by rw [List.length_map]))) (fun k hk => rg_name 5) (fun k hk => re_call FTF (k : Int) trivial (ra_cons (rv 5) ra_nil) (lv2 n (by decide))) (by rw [List.length_range]; exact small (by have := pg.g2; omega))) (by decide +kernel) (sw_cell (by decide +kernel))) ?_
    refine rs_foldM (fun found : List Form => [.dat (rBook C b), .dat (rS p.name), .dat (rI most), .dat (rPlan C p), .aL (found.map rForm), .no, .no, .no, .no]) _ (xc0 C.TM) (fun k found => found.length = p.givens.length + k ∧ (∀ f ∈ found, FormGood p.givens.length f)) _ _ ?_ ⟨?_, ?_⟩ (ri_list (f := rMRow) (xs := p.rows) (re_prow G (rv 3) (by intro _; rfl))) (fun k found r found' hr hk hI hg => ?_) (fun k found r hr hk hI hg => ?_) (fun found _ _ => rs_one (r1_retL 4))
    · rw [List.map_map]; rfl
    · rw [List.length_map, List.length_range]; rfl
    · intro f hf
      obtain ⟨k, hk, rfl⟩ := List.mem_map.mp hf
      have := List.mem_range.mp hk
      have := pg.g2
      exact good_thing (by omega) (by omega) (by omega)
    · have rgd := pg.row k r hk
      have hl := hI.1
      have fok : ∀ q ∈ r.items, FormOk (formAt found q.1) := fun q hq => (hI.2 _ (formAt_mem (rgd.th q hq).1 (by rw [hl]; exact (rgd.th q hq).2))).ok
      have fat : ∀ q ∈ r.items, atI (found.map rForm) q.1 = some (rForm (formAt found q.1)) := fun q hq => at_form (rgd.th q hq).1 (by rw [hl]; exact (rgd.th q hq).2)
      have hg : (madeWith (formsN b most n) r.how (partsOf found r.items) most).map (fun m => found ++ [m]) = some found' := hg
      cases e : madeWith (formsN b most n) r.how (partsOf found r.items) most with
      | none => rw [e] at hg; cases hg
      | some g =>
        rw [e] at hg
        cases hg
        have gg := made_good hm rgd hl hI.2 hb.nd (fun i p hp => (hb.plan i p hp).rne) (fun j q fs hj hq hfs => forms_good hb hm n j q fs (by omega) hq hfs) e
        refine ⟨.nx (rg_name 6) (rs_cons (r1_setlc (q := fun _ => true) (h := fun q => rForm (waitedI (formAt found q.1) q.2)) 7 [("thing", 5), ("wait", 8)] (ri_tup (f := rPr) (xs := r.items) (re_ixT (rs := [rS r.name, rS r.how, rT (r.items.map rPr)]) (i := 2) (atI_nat (n := 2) rfl) (rv 6) re_int)) (fun q hq => rg_tup (rgs_cons (rg_name 5) (rgs_cons (rg_name 8) rgs_nil))) (fun q hq => rts_nil) (fun q hq _ => re_call FW (formAt found q.1, q.2) (fok q hq) (ra_cons (re_ixL (rs := found.map rForm) (i := q.1) (fat q hq) (rp_acc 4) (rv 5)) (ra_cons (rv 8) ra_nil)) (lv2 n (by decide))) (small (by have := rgd.few; omega))) (RS.freeze 7 rfl (rs_one (r1_append 4 (RE.eq (re_callX FM (b, r.how, partsOf found r.items, most) (mpre hb hm hm1 rgd hi hl hI.2) (resF_some e) (ra_cons (rv 0) (ra_cons (re_ixT (rs := [rS r.name, rS r.how, rT (r.items.map rPr)]) (i := 1) (atI_nat (n := 1) rfl) (rv 6) re_int) (ra_cons (RE.eq (rv 7) ?_) (ra_cons (rv 2) ra_nil)))) (Nat.le_refl _)) rfl) ?_)))) ?_, ?_, ?_⟩
        · rw [filter_true]; exact (parts_rep found r.items).symm
        · rw [List.length_map, hl]
          have := pg.g2
          have := pg.few
          have := (List.getElem?_eq_some_iff.mp hk).1
          omega
        · refine ⟨.inr rfl, .inr rfl, .inr rfl, .inr rfl, .inr ?_, .inl rfl, .inl rfl, .inl rfl, .inl rfl, trivial⟩
          show Sl.aL _ = Sl.aL _
          rw [List.map_append]
          rfl
        · rw [List.length_append, hl]; rfl
        · intro f hf
          rcases List.mem_append.mp hf with z | z
          · exact hI.2 f z
          · have z : f = g := by simpa using z
            rw [z]; exact gg
    · have rgd := pg.row k r hk
      have hl := hI.1
      have fok : ∀ q ∈ r.items, FormOk (formAt found q.1) := fun q hq => (hI.2 _ (formAt_mem (rgd.th q hq).1 (by rw [hl]; exact (rgd.th q hq).2))).ok
      have fat : ∀ q ∈ r.items, atI (found.map rForm) q.1 = some (rForm (formAt found q.1)) := fun q hq => at_form (rgd.th q hq).1 (by rw [hl]; exact (rgd.th q hq).2)
      have e : madeWith (formsN b most n) r.how (partsOf found r.items) most = none := by
        have hg : (madeWith (formsN b most n) r.how (partsOf found r.items) most).map (fun m => found ++ [m]) = none := hg
        cases e : madeWith (formsN b most n) r.how (partsOf found r.items) most with
        | none => rfl
        | some g => rw [e] at hg; cases hg
      refine .err (rg_name 6) (rs_cons (r1_setlc (q := fun _ => true) (h := fun q => rForm (waitedI (formAt found q.1) q.2)) 7 [("thing", 5), ("wait", 8)] (ri_tup (f := rPr) (xs := r.items) (re_ixT (rs := [rS r.name, rS r.how, rT (r.items.map rPr)]) (i := 2) (atI_nat (n := 2) rfl) (rv 6) re_int)) (fun q hq => rg_tup (rgs_cons (rg_name 5) (rgs_cons (rg_name 8) rgs_nil))) (fun q hq => rts_nil) (fun q hq _ => re_call FW (formAt found q.1, q.2) (fok q hq) (ra_cons (re_ixL (rs := found.map rForm) (i := q.1) (fat q hq) (rp_acc 4) (rv 5)) (ra_cons (rv 8) ra_nil)) (lv2 n (by decide))) (small (by have := rgd.few; omega))) (RS.freeze 7 rfl (rs_one (r1_xexpr (rx_append 4 (rx_callX FM (b, r.how, partsOf found r.items, most) (mpre hb hm hm1 rgd hi hl hI.2) (resF_none e) (ra_cons (rv 0) (ra_cons (re_ixT (rs := [rS r.name, rS r.how, rT (r.items.map rPr)]) (i := 1) (atI_nat (n := 1) rfl) (rv 6) re_int) (ra_cons (RE.eq (rv 7) ?_) (ra_cons (rv 2) ra_nil)))) (Nat.le_refl _)))))))
      rw [filter_true]; exact (parts_rep found r.items).symm
  exact key.mono (by omega)
end
end K60
/-! text W6 -/
set_option Elab.async false
set_option linter.all false
set_option maxRecDepth 100000
set_option maxHeartbeats 4000000
namespace K60
open PySem PyProof.Rows Rl
open PySem.Spec hiding Row
open L2 (E0 XK Hp V atI ixN)
/-! ### looking -/
def isName (s : Str) : Bool := if decide (s = "") || (decide ((s.length : Int) > 12) || (decide (s ∈ words) || !decide (s.cps.toList.headD 0 ∈ lettersS.cps.toList))) then false else s.cps.toList.all fun c => !(!decide (c ∈ lettersS.cps.toList) && !decide (c ∈ figsS.cps.toList))
abbrev P_is_name (Γ : Cg) : Prop := Fn0 Γ 1 "is_name" ["text"] (Sp0 (fun s : Str => s.length ≤ sizeLine) (fun s => [rS s]) fun s => rB (isName s))
def seenStep (seen : List Str) (s : Str) : Option (List Str) := if !isName s || decide (s ∈ seen) then none else some (seen ++ [s])
def resU (C : Addr) : Bool → Res
  | true => .ok rN
  | false => .err (xc0 C)
def namesOk (ns : List Str) : Bool := (ns.foldlM seenStep []).isSome
abbrev P_look_names (Γ : Cg) (C : Cls) : Prop := FnX Γ 2 "look_at_names" ["names"] (SpX (fun ns : List Str => ns.length ≤ 1000 ∧ ∀ s ∈ ns, s.length ≤ sizeLine) (fun ns => [rL (ns.map rS)]) fun ns => resU C.BN (namesOk ns))
theorem str_ne_len {s : Str} (h : s ≠ "") : 0 < s.cps.toList.length := by
  rcases Nat.eq_zero_or_pos s.cps.toList.length with z | z
  · exfalso
    apply h
    have : s.cps = #[] := by
      have : s.cps.toList = [] := List.eq_nil_of_length_eq_zero z
      exact Array.toList_inj.mp this
    cases s
    simp only at this
    rw [this]
    rfl
  · exact z
theorem look_seen (seen : List Str) (s : Str) : (lookR (seen.map fun s => ((Sum.inr s : L2.Key), rB true)) (Sum.inr s)).isSome = decide (s ∈ seen) := by
  unfold lookR
  induction seen with
  | nil => rfl
  | cons x xs ih =>
    rw [List.map_cons, List.find?_cons]
    by_cases h : x = s
    · subst h
      simp
    · have h2 : ¬ s = x := fun e => h e.symm
      simp [h, h2] at ih ⊢
      exact ih
theorem put_seen (seen : List Str) (s : Str) (h : s ∉ seen) : putR (seen.map fun s => ((Sum.inr s : L2.Key), rB true)) (Sum.inr s) (rB true) = (seen ++ [s]).map fun s => (Sum.inr s, rB true) := by
  unfold putR
  have : ((seen.map fun s => ((Sum.inr s : L2.Key), rB true)).any fun kv => decide (kv.1 = Sum.inr s)) = false := by
    rw [List.any_map, List.any_eq_false]
    intro x hx
    simp only [Function.comp, decide_eq_true_eq]
    intro e
    cases e
    exact h hx
  rw [this, List.map_append]
  rfl
theorem zipIdx_at {α : Type} {xs : List α} {y : α × Nat} (h : y ∈ xs.zipIdx) : xs[y.2]? = some y.1 := by
  obtain ⟨i, hi⟩ := List.mem_iff_getElem?.mp h
  rw [List.getElem?_zipIdx] at hi
  cases e : xs[i]? with
  | none => rw [e] at hi; cases hi
  | some a =>
    rw [e] at hi
    cases hi
    simpa using e
theorem look_ah (x : List (Str × Int)) (t : Str) : lookR (x.map fun q => ((Sum.inr q.1 : L2.Key), rI q.2)) (Sum.inr t) = (x.lookup t).map rI := by
  induction x with
  | nil => rfl
  | cons p x ih =>
    obtain ⟨k, v⟩ := p
    unfold lookR at *
    rw [List.map_cons, List.find?_cons, List.lookup_cons]
    by_cases h : k = t
    · subst h
      simp
    · have h2 : (t == k) = false := by simpa using fun e => h e.symm
      rw [h2]
      simpa [h] using ih
section
variable {Γ : Cg} {C : Cls} (G : Gk Γ C)
include G
theorem w_is_name (D : DfAt Γ "is_name" 43 ["text"]) : P_is_name Γ := by
  refine def0 0 Lis_name D Sis_name rfl rfl (fun _ => rfl) fun s hs => ?_
  obtain ⟨wa, hw1, hw2⟩ := G.wd
  obtain ⟨lu, hl1, hl2⟩ := G.lt
  obtain ⟨fu, hf1, hf2⟩ := G.fl
  refine ⟨if decide (s = "") || (decide ((s.length : Int) > 12) || (decide (s ∈ words) || !decide (s.cps.toList.headD 0 ∈ lettersS.cps.toList))) then .ret (rB false) else (if s.cps.toList.all (fun c => !(!decide (c ∈ lettersS.cps.toList) && !decide (c ∈ figsS.cps.toList))) then .ret (rB true) else .ret (rB false)), ?_, ?_⟩
  · show RetO _ (.ok (rB (isName s)))
    unfold isName
    split
    · rfl
    · split
      · rename_i h; rw [h]; rfl
      · rename_i h
        have h2 : (s.cps.toList.all fun c => !(!decide (c ∈ lettersS.cps.toList) && !decide (c ∈ figsS.cps.toList))) = false := by simpa using h
        rw [h2]; rfl
  refine rs_ifEnd ?_ (fun _ => rs_one (r1_ret re_bl)) fun _ => ?_
  · refine (rw_or (rt_eqS (rv 0) re_str) fun h1 => rw_or (rt_gt (re_lenS hs (G.bi _ (by decide)) (rv 0)) re_int) fun h2 => rw_or (rt_inK hw1 hw2 (rv 0)) fun h3 => rw_or1 (rt_niC (re_ixS (i := 0) (ch := s.cps.toList.headD 0) ?_ hs (rv 0) re_int) (re_glob hl1 hl2))).pt
    have hne : s ≠ "" := of_decide_eq_false h1
    have hp := str_ne_len hne
    refine atI_nat (n := 0) ?_
    cases e : s.cps.toList with
    | nil => rw [e] at hp; exact absurd hp (Nat.lt_irrefl 0)
    | cons a b => rfl
  · exact rs_look _ (ri_str (rv 0)) (fun c hc => .of (rg_name 1) (rs_guard (RT.eq (rw_and (rt_niC (rv 1) (re_glob hl1 hl2)) fun _ => rw_and1 (rt_niC (rv 1) (re_glob hf1 hf2))).pt (Bool.not_not _).symm) fun _ => rs_one (r1_ret re_bl)) ⟨.inr rfl, .inl rfl, trivial⟩) fun _ => rs_one (r1_ret re_bl)
theorem w_look_names (FI : P_is_name Γ) (D : DfAt Γ "look_at_names" 44 ["names"]) : P_look_names Γ C := by
  refine defX 1 Llook_at_names D Slook_at_names rfl rfl (fun _ => rfl) fun E ns ⟨hl, hs⟩ => ⟨.opt (fun _ => .nx [.no, .no, .no]) (xc0 C.BN) (ns.foldlM seenStep []), ?_, ?_⟩
  · show RetO _ (resU C.BN (namesOk ns))
    unfold namesOk
    cases ns.foldlM seenStep [] <;> rfl
  refine rs_cons (r1_ownD 1 rfd_new) ?_
  refine rs_foldM (fun seen : List Str => [.dat (rL (ns.map rS)), .aD (seen.map fun s => (Sum.inr s, rB true)), .no]) seenStep (xc0 C.BN) (fun n seen => seen.length = n) [] _ rfl rfl (ri_list (f := rS) (xs := ns) (rv 0)) (fun n seen s seen' hx hn hI hg => ?_) (fun n seen s hx hn hI hg => ?_) (fun seen _ _ => rs_nilw (EnvLe.of ⟨.inl rfl, .inl rfl, .inl rfl, trivial⟩))
  · unfold seenStep at hg
    cases hc : (!isName s || decide (s ∈ seen)) with
    | true => rw [hc] at hg; cases hg
    | false =>
      rw [hc] at hg
      cases hg
      have hn2 : decide (s ∈ seen) = false := by simp only [Bool.or_eq_false_iff] at hc; exact hc.2
      have hl2 := (List.getElem?_eq_some_iff.mp hn).1
      refine ⟨.nx (rg_name 2) (rs_cons (r1_if (k := false) (RT.eq (rw_or (rt_not (rt_val (re_call FI s (hs s hx) (ra_cons (rv 2) ra_nil)))) fun _ => rw_or1 (RT.eq (rt_inD (k := Sum.inr s) (rv 2) (rd_acc 1)) (look_seen seen s))).pt hc) (fun h => by cases h) fun _ => rs_nil) (rs_one (r1_put 1 (k := Sum.inr s) re_bl (rv 2) ?_))) ?_, by rw [List.length_append, hI]; rfl⟩
      · rw [List.length_map, hI]; omega
      · refine ⟨.inr rfl, .inr ?_, .inl rfl, trivial⟩
        show Sl.aD (putR _ _ _) = Sl.aD _
        rw [put_seen _ _ (of_decide_eq_false hn2)]
  · unfold seenStep at hg
    cases hc : (!isName s || decide (s ∈ seen)) with
    | false => rw [hc] at hg; cases hg
    | true => exact .err (rg_name 2) (rs_stop (r1_if (k := true) (RT.eq (rw_or (rt_not (rt_val (re_call FI s (hs s hx) (ra_cons (rv 2) ra_nil)))) fun _ => rw_or1 (RT.eq (rt_inD (k := Sum.inr s) (rv 2) (rd_acc 1)) (look_seen seen s))).pt hc) (fun _ => rs_one (r1_raise G.bn)) fun h => by cases h))
/-! plans and parts -/
structure PlanFits (p : MPlan) : Prop where
  g1 : 1 ≤ p.givens.length
  g2 : p.givens.length ≤ 12
  r1 : 1 ≤ p.rows.length
  r2 : p.rows.length ≤ 40
  row : ∀ k r, p.rows[k]? = some r → 1 ≤ r.items.length ∧ r.items.length ≤ 40 ∧ ∀ q ∈ r.items, 0 ≤ q.1 ∧ q.1 < ((p.givens.length + k : Nat) : Int) ∧ -FARi < q.2 ∧ q.2 < FARi
abbrev P_look_plan (Γ : Cg) (C : Cls) : Prop := Fn0 Γ 1 "look_at_plan" ["plan"] (Sp0 PlanFits (fun p => [rPlan C p]) fun _ => rN)
theorem w_look_plan (D : DfAt Γ "look_at_plan" 45 ["plan"]) : P_look_plan Γ C := by
  refine def0 0 Llook_at_plan D Slook_at_plan rfl rfl (fun _ => rfl) fun p hp => ⟨.nx [.no, .no, .no, .no, .no], rfl, ?_⟩
  obtain ⟨fu, hf1, hf2⟩ := G.far
  have g1 := hp.g1
  have g2 := hp.g2
  have r1 := hp.r1
  have r2 := hp.r2
  refine rs_cons (r1_if (k := false) (RT.eq (rw_or (rt_not (rt_chainI (p := fun i j => decide (i ≤ j)) (p' := fun i j => decide (i ≤ j)) (fun _ _ => L2.op_le) (fun _ _ => L2.op_le) rfl re_int (re_len (G.bi _ (by decide)) (rp_of (re_pgiv G (rv 0) (by intro _; rfl)))) re_int)) fun _ => rw_or1 (rt_not (rt_chainI (p := fun i j => decide (i ≤ j)) (p' := fun i j => decide (i ≤ j)) (fun _ _ => L2.op_le) (fun _ _ => L2.op_le) rfl re_int (re_len (G.bi _ (by decide)) (rp_of (re_prow G (rv 0) (by intro _; rfl)))) re_int))).pt ?_) (fun h => by cases h) fun _ => rs_nil) ?_
  · rw [List.length_map, List.length_map]
    have a1 : decide ((1 : Int) ≤ p.givens.length) = true := decide_eq_true (by omega)
    have a2 : decide ((p.givens.length : Int) ≤ 12) = true := decide_eq_true (by omega)
    have a3 : decide ((1 : Int) ≤ p.rows.length) = true := decide_eq_true (by omega)
    have a4 : decide ((p.rows.length : Int) ≤ 40) = true := decide_eq_true (by omega)
    rw [a1, a2, a3, a4]; rfl
  refine rs_cons (r1_fold (fun _ : Unit => [.dat (rPlan C p), .no, .no, .no, .no]) (fun _ _ => ()) (fun _ => True) () rfl trivial (ri_enum (f := rMRow) (xs := p.rows) (G.bi _ (by decide)) (re_prow G (rv 0) (by intro _; rfl))) fun _ y hy _ => ⟨?_, trivial⟩) (rs_nilw (EnvLe.of ⟨.inl rfl, .inr rfl, .inr rfl, .inr rfl, .inr rfl, trivial⟩))
  obtain ⟨r, k⟩ := y
  have hk : p.rows[k]? = some r := zipIdx_at hy
  obtain ⟨c1, c2, c3⟩ := hp.row k r hk
  refine .nx (rg_tup (rgs_cons (rg_name 1) (rgs_cons (rg_name 2) rgs_nil))) (rs_cons (r1_if (k := false) (RT.eq (rt_not (rt_chainI (p := fun i j => decide (i ≤ j)) (p' := fun i j => decide (i ≤ j)) (fun _ _ => L2.op_le) (fun _ _ => L2.op_le) rfl re_int (re_lenT (G.bi _ (by decide)) (re_ixT (rs := [rS r.name, rS r.how, rT (r.items.map rPr)]) (i := 2) (atI_nat (n := 2) rfl) (rv 2) re_int)) re_int)) ?_) (fun h => by cases h) fun _ => rs_nil) (rs_one (r1_fold (fun _ : Unit => [.dat (rPlan C p), .dat (rI k), .dat (rMRow r), .no, .no]) (fun _ _ => ()) (fun _ => True) () rfl trivial (ri_tup (f := rPr) (xs := r.items) (re_ixT (rs := [rS r.name, rS r.how, rT (r.items.map rPr)]) (i := 2) (atI_nat (n := 2) rfl) (rv 2) re_int)) fun _ q hq _ => ⟨.nx (rg_tup (rgs_cons (rg_name 3) (rgs_cons (rg_name 4) rgs_nil))) (rs_cons (r1_if (k := false) (RT.eq (rt_not (rt_chainI (p := fun i j => decide (i ≤ j)) (p' := fun i j => decide (i < j)) (fun _ _ => L2.op_le) (fun _ _ => L2.op_lt) rfl re_int (rv 3) (re_add (re_len (G.bi _ (by decide)) (rp_of (re_pgiv G (rv 0) (by intro _; rfl)))) (rv 1)))) ?_) (fun h => by cases h) fun _ => rs_nil) (rs_one (r1_if (k := false) (RT.eq (rt_not (rt_chainI (p := fun i j => decide (i < j)) (p' := fun i j => decide (i < j)) (fun _ _ => L2.op_lt) (fun _ _ => L2.op_lt) rfl (re_neg (re_glob hf1 hf2)) (rv 4) (re_glob hf1 hf2))) ?_) (fun h => by cases h) fun _ => rs_nil))) ⟨.inr rfl, .inr rfl, .inr rfl, .inl rfl, .inl rfl, trivial⟩, trivial⟩))) ⟨.inr rfl, .inl rfl, .inl rfl, .inr rfl, .inr rfl, trivial⟩
  · rw [List.length_map]
    have a1 : decide ((1 : Int) ≤ r.items.length) = true := decide_eq_true (by omega)
    have a2 : decide ((r.items.length : Int) ≤ 40) = true := decide_eq_true (by omega)
    rw [a1, a2]; rfl
  · obtain ⟨d1, d2, d3, d4⟩ := c3 q hq
    rw [List.length_map]
    have a1 : decide ((0 : Int) ≤ q.1) = true := decide_eq_true d1
    have a2 : decide (q.1 < (p.givens.length : Int) + (k : Int)) = true := decide_eq_true (by omega)
    rw [a1, a2]; rfl
  · obtain ⟨d1, d2, d3, d4⟩ := c3 q hq
    have a1 : decide (-FARi < q.2) = true := decide_eq_true d3
    have a2 : decide (q.2 < FARi) = true := decide_eq_true d4
    rw [a1, a2]; rfl
def partOk (ah : List (Str × Int)) (r : MRow) : Bool := decide (r.how ∈ (["all", "first"] : List Str)) || (match ah.lookup r.how with | none => false | some n => decide ((r.items.length : Int) = n))
abbrev P_look_parts (Γ : Cg) (C : Cls) : Prop := FnX Γ 1 "look_at_parts" ["plan", "ahead"] (SpX (fun _ : MPlan × List (Str × Int) => True) (fun x => [rPlan C x.1, rD (x.2.map fun q => (Sum.inr q.1, rI q.2))]) fun x => resU C.BQ (x.1.rows.all (partOk x.2)))
theorem w_look_parts (D : DfAt Γ "look_at_parts" 46 ["plan", "ahead"]) : P_look_parts Γ C := by
  refine defX 0 Llook_at_parts D Slook_at_parts rfl rfl (fun _ => rfl) fun E ⟨p, ah⟩ _ => ⟨if p.rows.all (partOk ah) then .nx [.no, .no, .no] else .err (xc0 C.BQ), ?_, ?_⟩
  · show RetO _ (resU C.BQ (p.rows.all (partOk ah)))
    cases p.rows.all (partOk ah) <;> rfl
  refine rs_look2 _ (ri_list (f := rMRow) (xs := p.rows) (re_prow G (rv 0) (by intro _; rfl))) (fun r hr => ?_) (fun _ => rs_nilw (EnvLe.of ⟨.inl rfl, .inl rfl, .inr rfl, trivial⟩))
  have cin : ∀ {env : List Sl} {e p1 p2 p3 p4 x1 j1 j2}, RE Γ Llook_at_parts ⟨E, 0⟩ e env (rS r.how) → RT Γ Llook_at_parts ⟨E, 0⟩ (.Compare e [.In] [.Tuple [.Constant (.str "all") j1 p1, .Constant (.str "first") j2 p2] x1 p3] p4) env (decide (r.how ∈ (["all", "first"] : List Str))) := fun h => rt_inT h (re_tup (ra_cons re_str (ra_cons re_str ra_nil)))
  cases hin : decide (r.how ∈ (["all", "first"] : List Str)) with
  | true =>
    refine ⟨fun _ => .ct (rg_name 2) (rs_stop (r1_if (k := true) (RT.eq (cin (re_ixT (rs := [rS r.name, rS r.how, rT (r.items.map rPr)]) (i := 1) (atI_nat (n := 1) rfl) (rv 2) re_int)) hin) (fun _ => rs_one r1_ct) fun h => by cases h)) ⟨.inr rfl, .inr rfl, .inl rfl, trivial⟩, fun h => ?_⟩
    unfold partOk at h
    rw [hin] at h
    cases h
  | false =>
    have hq : partOk ah r = (match ah.lookup r.how with | none => false | some n => decide ((r.items.length : Int) = n)) := by unfold partOk; rw [hin]; rfl
    rw [hq]
    cases e : ah.lookup r.how with
    | none =>
      have le : lookR (ah.map fun q => ((Sum.inr q.1 : L2.Key), rI q.2)) (Sum.inr r.how) = none := by rw [look_ah, e]; rfl
      exact ⟨(fun h => by cases h), fun _ => ⟨_, _, _, rg_name 2, (rs_cons (r1_if (k := false) (RT.eq (cin (re_ixT (rs := [rS r.name, rS r.how, rT (r.items.map rPr)]) (i := 1) (atI_nat (n := 1) rfl) (rv 2) re_int)) hin) (fun h => by cases h) fun _ => rs_nil) (rs_one (r1_if (k := true) (RT.eq (rw_or (l := false) (rt_niD (k := Sum.inr r.how) (re_ixT (rs := [rS r.name, rS r.how, rT (r.items.map rPr)]) (i := 1) (atI_nat (n := 1) rfl) (rv 2) re_int) (rd_of (rv 1))) (fun h => by rw [le] at h; cases h)).pt (by rw [le]; rfl)) (fun _ => rs_one (r1_raise G.bq)) fun h => by cases h))), EnvLe.refl _⟩⟩
    | some n =>
      have le : lookR (ah.map fun q => ((Sum.inr q.1 : L2.Key), rI q.2)) (Sum.inr r.how) = some (rI n) := by rw [look_ah, e]; rfl
      refine ⟨fun h => .nx (rg_name 2) (rs_cons (r1_if (k := false) (RT.eq (cin (re_ixT (rs := [rS r.name, rS r.how, rT (r.items.map rPr)]) (i := 1) (atI_nat (n := 1) rfl) (rv 2) re_int)) hin) (fun h => by cases h) fun _ => rs_nil) (rs_one (r1_if (k := false) (RT.eq (rw_or (rt_niD (k := Sum.inr r.how) (re_ixT (rs := [rS r.name, rS r.how, rT (r.items.map rPr)]) (i := 1) (atI_nat (n := 1) rfl) (rv 2) re_int) (rd_of (rv 1))) fun _ => rw_or1 (rt_neI (re_lenT (G.bi _ (by decide)) (re_ixT (rs := [rS r.name, rS r.how, rT (r.items.map rPr)]) (i := 2) (atI_nat (n := 2) rfl) (rv 2) re_int)) (re_ixD le (rd_of (rv 1)) (re_ixT (rs := [rS r.name, rS r.how, rT (r.items.map rPr)]) (i := 1) (atI_nat (n := 1) rfl) (rv 2) re_int)))).pt (by rw [le, List.length_map]; simpa using h)) (fun h => by cases h) fun _ => rs_nil))) ⟨.inr rfl, .inr rfl, .inl rfl, trivial⟩, fun h => ⟨_, _, _, rg_name 2, (rs_cons (r1_if (k := false) (RT.eq (cin (re_ixT (rs := [rS r.name, rS r.how, rT (r.items.map rPr)]) (i := 1) (atI_nat (n := 1) rfl) (rv 2) re_int)) hin) (fun h => by cases h) fun _ => rs_nil) (rs_one (r1_if (k := true) (RT.eq (rw_or (rt_niD (k := Sum.inr r.how) (re_ixT (rs := [rS r.name, rS r.how, rT (r.items.map rPr)]) (i := 1) (atI_nat (n := 1) rfl) (rv 2) re_int) (rd_of (rv 1))) fun _ => rw_or1 (rt_neI (re_lenT (G.bi _ (by decide)) (re_ixT (rs := [rS r.name, rS r.how, rT (r.items.map rPr)]) (i := 2) (atI_nat (n := 2) rfl) (rv 2) re_int)) (re_ixD le (rd_of (rv 1)) (re_ixT (rs := [rS r.name, rS r.how, rT (r.items.map rPr)]) (i := 1) (atI_nat (n := 1) rfl) (rv 2) re_int)))).pt (by rw [le, List.length_map]; simpa using h)) (fun _ => rs_one (r1_raise G.bq)) fun h => by cases h))), EnvLe.refl _⟩⟩
end
end K60
/-! text W7 -/
set_option Elab.async false
set_option linter.all false
set_option maxRecDepth 100000
set_option maxHeartbeats 4000000
namespace K60
open PySem PyProof.Rows Rl
open PySem.Spec hiding Row
open L2 (E0 XK Hp V atI ixN)
/-! ### weights, looked -/
def plainHow (h : Str) : Bool := decide (h ∈ (["all", "first"] : List Str))
def rowWeight (found : List (Str × Int)) (r : MRow) : Int := 1 + (if plainHow r.how then 0 else (found.lookup r.how).getD 0)
def planWeight (found : List (Str × Int)) (p : MPlan) : Int := p.rows.foldl (fun t r => t + rowWeight found r) 0
def weightsI (b : MBook) : List (Str × Int) := b.foldl (fun found p => found ++ [(p.name, planWeight found p)]) []
def kvS (x : List (Str × Int)) : List (L2.Key × Rp) := x.map fun q => (Sum.inr q.1, rI q.2)
def PartsAhead (b : MBook) : Prop := ∀ (i : Nat) (p : MPlan) (r : MRow), b[i]? = some p → r ∈ p.rows → plainHow r.how = true ∨ ∃ (j : Nat) (q : MPlan), j < i ∧ b[j]? = some q ∧ q.name = r.how
abbrev P_weights (Γ : Cg) (C : Cls) : Prop := Fn0 Γ 1 "weights_of" ["book"] (SpD (fun b : MBook => b.length ≤ 1000 ∧ (b.map (·.name)).Nodup ∧ PartsAhead b) (fun b => [rBook C b]) fun b => kvS (weightsI b))
theorem put_kvS (x : List (Str × Int)) (s : Str) (w : Int) (h : s ∉ x.map Prod.fst) : putR (kvS x) (Sum.inr s) (rI w) = kvS (x ++ [(s, w)]) := by
  unfold putR
  have : ((kvS x).any fun kv => decide (kv.1 = Sum.inr s)) = false := by
    unfold kvS
    rw [List.any_map, List.any_eq_false]
    intro y hy
    simp only [Function.comp, decide_eq_true_eq]
    intro e
    have e : y.1 = s := Sum.inr.inj e
    exact h (List.mem_map.mpr ⟨y, hy, e⟩)
  rw [this]
  unfold kvS
  rw [List.map_append]
  rfl
theorem lookup_some {x : List (Str × Int)} {s : Str} (h : s ∈ x.map Prod.fst) : ∃ w, x.lookup s = some w := by
  induction x with
  | nil => cases h
  | cons p x ih =>
    rw [List.lookup_cons]
    cases e : s == p.1 with
    | true => exact ⟨p.2, rfl⟩
    | false =>
      refine ih ?_
      rw [List.map_cons] at h
      rcases List.mem_cons.mp h with h | h
      · rw [h] at e; simp at e
      · exact h
theorem lookup_mem {x : List (Str × Int)} {s : Str} {w : Int} (h : x.lookup s = some w) : (s, w) ∈ x := by
  induction x with
  | nil => cases h
  | cons p x ih =>
    rw [List.lookup_cons] at h
    cases e : s == p.1 with
    | true =>
      rw [e] at h
      have h : p.2 = w := Option.some.inj h
      have e : s = p.1 := by simpa using e
      rw [e, ← h]
      exact List.mem_cons_self
    | false => rw [e] at h; exact List.mem_cons_of_mem _ (ih h)
theorem take_drop_at {α : Type} {b : List α} {n : Nat} {p : α} (h : b[n]? = some p) : b = b.take n ++ p :: b.drop (n + 1) := by
  obtain ⟨h1, h2⟩ := List.getElem?_eq_some_iff.mp h
  rw [← h2, ← List.drop_eq_getElem_cons h1, List.take_append_drop]
theorem fold_keys {f : List (Str × Int) → MPlan → Int} : ∀ (b : MBook) (x : List (Str × Int)), (b.foldl (fun found p => found ++ [(p.name, f found p)]) x).map Prod.fst = x.map Prod.fst ++ b.map (·.name)
  | [], x => by simp
  | p :: b, x => by
    rw [List.foldl_cons, fold_keys b, List.map_append, List.append_assoc]
    rfl
theorem nodup_mid {b : MBook} {pre : MBook} {p : MPlan} {suf : MBook} (h : (b.map (·.name)).Nodup) (e : b = pre ++ p :: suf) : p.name ∉ pre.map (·.name) := by
  rw [e, List.map_append, List.nodup_append] at h
  intro hm
  exact h.2.2 _ hm _ (by rw [List.map_cons]; exact List.mem_cons_self) rfl
section
variable {Γ : Cg} {C : Cls} (G : Gk Γ C)
include G
theorem w_weights (D : DfAt Γ "weights_of" 47 ["book"]) : P_weights Γ C := by
  refine defD 0 Lweights_of D Sweights_of rfl rfl (fun _ => rfl) fun b ⟨hl, hn, hp⟩ => ?_
  refine rsd_cons (r1_ownD 1 rfd_new) (rsd_cons (r1_foldP (fun x : List (Str × Int) => [.dat (rBook C b), .aD (kvS x), .no, .no, .no]) (fun found p => found ++ [(p.name, planWeight found p)]) [] rfl (ri_list (f := rPlan C) (xs := b) (re_plans G (rv 0) (by intro _; rfl))) fun pre p suf e => ?_) (rsd_ret 1))
  have hk : (pre.foldl (fun found p => found ++ [(p.name, planWeight found p)]) []).map Prod.fst = pre.map (·.name) := by rw [fold_keys]; rfl
  generalize pre.foldl (fun found p => found ++ [(p.name, planWeight found p)]) [] = found at hk
  have hnew : p.name ∉ found.map Prod.fst := by rw [hk]; exact nodup_mid hn e
  have hb : b[pre.length]? = some p := by rw [e, List.getElem?_append_right (Nat.le_refl _), Nat.sub_self]; rfl
  refine .nx (rg_name 2) (rs_cons (r1_set 3 re_int) (rs_cons (r1_fold (fun t : Int => [.dat (rBook C b), .aD (kvS found), .dat (rPlan C p), .dat (rI t), .no]) (fun t r => t + rowWeight found r) (fun _ => True) 0 rfl trivial (ri_list (f := rMRow) (xs := p.rows) (re_prow G (rv 2) (by intro _; rfl))) fun t r hr _ => ⟨?_, trivial⟩) (rs_one (r1_put 1 (k := Sum.inr p.name) (rv 3) (re_pname G (rv 2) (by intro _; rfl)) ?_)))) ?_
  · have cin : ∀ {env : List Sl} {e p1 p2 p3 p4 x1 j1 j2}, RE Γ Lweights_of ⟨E0, 0⟩ e env (rS r.how) → RT Γ Lweights_of ⟨E0, 0⟩ (.Compare e [.NotIn] [.Tuple [.Constant (.str "all") j1 p1, .Constant (.str "first") j2 p2] x1 p3] p4) env (!plainHow r.how) := fun h => rt_niT h (re_tup (ra_cons re_str (ra_cons re_str ra_nil)))
    cases hin : plainHow r.how with
    | true =>
      have e2 : rowWeight found r = 1 := by unfold rowWeight; rw [hin]; rfl
      rw [e2]
      exact .nx (rg_name 4) (rs_cons (r1_aug 3 re_int) (rs_one (r1_if (k := false) (RT.eq (cin (re_ixT (rs := [rS r.name, rS r.how, rT (r.items.map rPr)]) (i := 1) (atI_nat (n := 1) rfl) (rv 4) re_int)) (by rw [hin]; rfl)) (fun h => by cases h) fun _ => rs_nil))) ⟨.inr rfl, .inr rfl, .inr rfl, .inr rfl, .inl rfl, trivial⟩
    | false =>
      have hmem : r.how ∈ found.map Prod.fst := by
        rcases hp pre.length p r hb hr with z | ⟨j, q, h1, h2, h3⟩
        · rw [hin] at z; cases z
        · rw [hk, ← h3]
          refine List.mem_map.mpr ⟨q, ?_, rfl⟩
          have h2 : b[j]? = some q := h2
          rw [e, List.getElem?_append_left h1] at h2
          exact List.mem_of_getElem? h2
      obtain ⟨w, hw⟩ := lookup_some hmem
      have le : lookR (kvS found) (Sum.inr r.how) = some (rI w) := by unfold kvS; rw [look_ah, hw]; rfl
      have e2 : t + rowWeight found r = t + 1 + w := by unfold rowWeight; rw [hin, hw]; show t + (1 + w) = _; omega
      rw [e2]
      exact .nx (rg_name 4) (rs_cons (r1_aug 3 re_int) (rs_one (r1_if (k := true) (RT.eq (cin (re_ixT (rs := [rS r.name, rS r.how, rT (r.items.map rPr)]) (i := 1) (atI_nat (n := 1) rfl) (rv 4) re_int)) (by rw [hin]; rfl)) (fun _ => rs_one (r1_aug 3 (re_ixD le (rd_acc 1) (re_ixT (rs := [rS r.name, rS r.how, rT (r.items.map rPr)]) (i := 1) (atI_nat (n := 1) rfl) (rv 4) re_int)))) (fun h => by cases h)))) ⟨.inr rfl, .inr rfl, .inr rfl, .inr rfl, .inl rfl, trivial⟩
  · unfold kvS
    have := congrArg List.length hk
    rw [List.length_map, List.length_map] at this
    rw [List.length_map, this]
    have := congrArg List.length e
    rw [List.length_append] at this
    have hl : b.length ≤ 1000 := hl
    omega
  · refine ⟨.inr rfl, .inr ?_, .inl rfl, .inl rfl, .inl rfl, trivial⟩
    show Sl.aD (putR _ _ _) = Sl.aD _
    rw [put_kvS _ _ _ hnew]
    rfl
end
def aheadStep (ah : List (Str × Int)) (p : MPlan) : Option (List (Str × Int)) := if p.rows.all (partOk ah) then some (ah ++ [(p.name, (p.givens.length : Int))]) else none
def partsOkB (b : MBook) : Bool := (b.foldlM aheadStep []).isSome
def planNames (p : MPlan) : List Str := p.givens ++ p.rows.map (·.name)
structure LookPre (b : MBook) : Prop where
  ne : b ≠ []
  few : b.length ≤ 20
  nl : ∀ p ∈ b, p.name.length ≤ sizeLine
  nd : namesOk (b.map (·.name)) = true → (b.map (·.name)).Nodup
  own : ∀ p ∈ b, namesOk (planNames p) = true ∧ (∀ s ∈ planNames p, s.length ≤ sizeLine) ∧ PlanFits p
  wt : namesOk (b.map (·.name)) = true → partsOkB b = true → PartsAhead b ∧ ∀ q ∈ weightsI b, q.2 ≤ 2000
def lookedRes (C : Cls) (b : MBook) : Res := if namesOk (b.map (·.name)) then (if partsOkB b then .ok rN else .err (xc0 C.BQ)) else .err (xc0 C.BN)
abbrev P_looked (Γ : Cg) (C : Cls) : Prop := FnX Γ 3 "looked" ["book"] (SpX LookPre (fun b => [rBook C b]) (lookedRes C))
section
variable {Γ : Cg} {C : Cls} (G : Gk Γ C)
include G
theorem w_looked (FN : P_look_names Γ C) (FP : P_look_plan Γ C) (FA : P_look_parts Γ C) (FW : P_weights Γ C) (D : DfAt Γ "looked" 48 ["book"]) : P_looked Γ C := by
  refine defX 2 Llooked D Slooked rfl rfl (fun _ => rfl) fun E b hp => ?_
  have few := hp.few
  have nm : ∀ s ∈ b.map (·.name), s.length ≤ sizeLine := fun s hs => by
    obtain ⟨p, hp2, rfl⟩ := List.mem_map.mp hs
    exact hp.nl p hp2
  cases hn : namesOk (b.map (·.name)) with
  | false =>
    refine ⟨.err (xc0 C.BN), by show RetO _ (lookedRes C b); unfold lookedRes; rw [hn]; rfl, ?_⟩
    refine rs_stop (r1_xexpr (rx_callX FN (b.map (·.name)) ⟨by rw [List.length_map]; omega, nm⟩ (by rw [hn]; rfl) (ra_cons (RE.eq (rf_lc (h := fun p => rS p.name) [("plan", 1)] (ri_list (f := rPlan C) (xs := b) (re_plans G (rv 0) (by intro _; rfl))) (fun p hp => rg_name 1) (fun p hp => re_pname G (rv 1) (by intro _; rfl)) (small (by omega))).re ?_) ra_nil)))
    rw [List.map_map]; rfl
  | true =>
    refine ⟨.opt (fun _ => .nx [.no, .no, .no, .no, .no, .no]) (xc0 C.BQ) (b.foldlM aheadStep []), ?_, ?_⟩
    · show RetO _ (lookedRes C b)
      unfold lookedRes partsOkB
      rw [hn]
      cases b.foldlM aheadStep [] <;> rfl
    refine rs_cons (r1_expr (re_callX FN (b.map (·.name)) ⟨by rw [List.length_map]; omega, nm⟩ (by rw [hn]; rfl) (ra_cons (RE.eq (rf_lc (h := fun p => rS p.name) [("plan", 1)] (ri_list (f := rPlan C) (xs := b) (re_plans G (rv 0) (by intro _; rfl))) (fun p hp => rg_name 1) (fun p hp => re_pname G (rv 1) (by intro _; rfl)) (small (by omega))).re ?_) ra_nil))) ?_
    · rw [List.map_map]; rfl
    refine rs_cons (r1_fold (fun _ : Unit => [.dat (rBook C b), .no, .no, .no, .no, .no]) (fun _ _ => ()) (fun _ => True) () rfl trivial (ri_list (f := rPlan C) (xs := b) (re_plans G (rv 0) (by intro _; rfl))) fun _ p hb _ => ⟨?_, trivial⟩) ?_
    · obtain ⟨o1, o2, o3⟩ := hp.own p hb
      have a1 := o3.g2
      have a2 := o3.r2
      refine .nx (rg_name 1) (rs_one (r1_expr (re_callX FN (planNames p) ⟨by unfold planNames; rw [List.length_append, List.length_map]; omega, o2⟩ (by rw [o1]; rfl) (ra_cons (RE.eq (re_addl ?_ (re_pgiv G (rv 1) (by intro _; rfl)) (rf_lc (h := fun r => rS r.name) [("row", 2)] (ri_list (f := rMRow) (xs := p.rows) (re_prow G (rv 1) (by intro _; rfl))) (fun r hr => rg_name 2) (fun r hr => re_ixT (rs := [rS r.name, rS r.how, rT (r.items.map rPr)]) (i := 0) (at0 _ _) (rv 2) re_int) (small (by omega))).re) ?_) ra_nil)))) ⟨.inr rfl, .inl rfl, .inr rfl, .inr rfl, .inr rfl, .inr rfl, trivial⟩
      · rw [List.length_map, List.length_map, sizeLine_eq]; omega
      · unfold planNames
        rw [List.map_append, List.map_map]; rfl
    have hb1 : 1 ≤ b.length := by
      have := hp.ne
      rcases Nat.eq_zero_or_pos b.length with z | z
      · exact absurd (List.eq_nil_of_length_eq_zero z) this
      · exact z
    refine rs_cons (r1_if (k := false) (RT.eq (rt_not (rt_chainI (p := fun i j => decide (i ≤ j)) (p' := fun i j => decide (i ≤ j)) (fun _ _ => L2.op_le) (fun _ _ => L2.op_le) rfl re_int (re_len (G.bi _ (by decide)) (rp_of (re_plans G (rv 0) (by intro _; rfl)))) re_int)) ?_) (fun h => by cases h) fun _ => rs_nil) ?_
    · rw [List.length_map]
      have a1 : decide ((1 : Int) ≤ b.length) = true := decide_eq_true (by omega)
      have a2 : decide ((b.length : Int) ≤ 20) = true := decide_eq_true (by omega)
      rw [a1, a2]; rfl
    refine rs_cons (r1_fold (fun _ : Unit => [.dat (rBook C b), .no, .no, .no, .no, .no]) (fun _ _ => ()) (fun _ => True) () rfl trivial (ri_list (f := rPlan C) (xs := b) (re_plans G (rv 0) (by intro _; rfl))) fun _ p hb _ => ⟨.nx (rg_name 1) (rs_one (r1_expr (re_call FP p (hp.own p hb).2.2 (ra_cons (rv 1) ra_nil)))) ⟨.inr rfl, .inl rfl, .inr rfl, .inr rfl, .inr rfl, .inr rfl, trivial⟩, trivial⟩) ?_
    refine rs_cons (r1_ownD 3 rfd_new) ?_
    have nd := hp.nd hn
    refine rs_foldM (fun ah : List (Str × Int) => [.dat (rBook C b), .no, .no, .aD (kvS ah), .no, .no]) aheadStep (xc0 C.BQ) (fun n ah => ah.map Prod.fst = (b.take n).map (·.name)) [] _ rfl rfl (ri_list (f := rPlan C) (xs := b) (re_plans G (rv 0) (by intro _; rfl))) (fun n ah p ah' hb hx hI hg => ?_) (fun n ah p hb hx hI hg => ?_) (fun ah hah _ => ?_)
    · unfold aheadStep at hg
      cases ha : p.rows.all (partOk ah) with
      | false => rw [ha] at hg; cases hg
      | true =>
        rw [ha] at hg
        cases hg
        have hsplit : b = b.take n ++ p :: b.drop (n + 1) := take_drop_at hx
        refine ⟨.nx (rg_name 1) (rs_cons (r1_expr (RE.borrowD (i := 3) (xs := kvS ah) rfl (re_callX FA (p, ah) trivial (by show resU C.BQ (p.rows.all (partOk ah)) = _; rw [ha]; rfl) (ra_cons (rv 1) (ra_cons (rv 3) ra_nil))))) (rs_one (r1_put 3 (k := Sum.inr p.name) (re_len (G.bi _ (by decide)) (rp_of (re_pgiv G (rv 1) (by intro _; rfl)))) (re_pname G (rv 1) (by intro _; rfl)) ?_))) ?_, ?_⟩
        · unfold kvS
          have := congrArg List.length hI
          rw [List.length_map, List.length_map, List.length_take] at this
          rw [List.length_map, this]
          omega
        · refine ⟨.inr rfl, .inl rfl, .inr rfl, .inr ?_, .inr rfl, .inr rfl, trivial⟩
          show Sl.aD (putR _ _ _) = Sl.aD _
          rw [List.length_map, put_kvS _ _ _ (by rw [hI]; exact nodup_mid nd hsplit)]
        · have e2 : b.take (n + 1) = b.take n ++ [p] := by rw [List.take_add_one, hx]; rfl
          rw [List.map_append, e2, List.map_append, hI]
          rfl
    · unfold aheadStep at hg
      cases ha : p.rows.all (partOk ah) with
      | true => rw [ha] at hg; cases hg
      | false => exact .err (rg_name 1) (rs_stop (r1_xexpr (RX.borrowD (i := 3) (xs := kvS ah) rfl (rx_callX FA (p, ah) trivial (by show resU C.BQ (p.rows.all (partOk ah)) = _; rw [ha]; rfl) (ra_cons (rv 1) (ra_cons (rv 3) ra_nil))))))
    · obtain ⟨wa, ww⟩ := hp.wt hn (by unfold partsOkB; rw [hah]; rfl)
      refine rs_cons (r1_ownD 4 (rfd_call FW b ⟨by omega, nd, wa⟩ (ra_cons (rv 0) ra_nil))) ?_
      refine RS.eq (rs_one (r1_forD 4 (kvs := kvS (weightsI b)) rfl (r1_fold (fun _ : Unit => [.dat (rBook C b), .no, .no, .aD (kvS ah), .dat (rDz (kvS (weightsI b))), .no]) (fun _ _ => ()) (fun _ => True) () rfl trivial (ri_keysZ (rv 4)) fun _ kv hkv _ => ⟨?_, trivial⟩))) rfl
      unfold kvS at hkv
      obtain ⟨q, hq, rfl⟩ := List.mem_map.mp hkv
      obtain ⟨w, hw⟩ := lookup_some (x := weightsI b) (List.mem_map.mpr ⟨q, hq, rfl⟩)
      have le : lookR (kvS (weightsI b)) (Sum.inr q.1) = some (rI w) := by unfold kvS; rw [look_ah, hw]; rfl
      have hw2 : w ≤ 2000 := ww _ (lookup_mem hw)
      exact .nx (rg_name 5) (rs_one (r1_if (k := false) (RT.eq (rt_gt (re_ixDz (k := Sum.inr q.1) le (rv 4) (rv 5)) re_int) (decide_eq_false (by omega))) (fun h => by cases h) fun _ => rs_nil)) ⟨.inr rfl, .inr rfl, .inr rfl, .inr rfl, .inr rfl, .inl rfl, trivial⟩
end
end K60
/-! text M2 -/
set_option Elab.async false
set_option linter.all false
set_option maxRecDepth 100000
set_option maxHeartbeats 4000000
namespace K60
open PySem PyProof.Rows Rl
open PySem.Spec hiding Row
open L2 (E0 XK Hp V atI ixN)
open TL (tl tl_append ext_tl len_tl mk_tl tl_mk numL tl_num split_join partition_app partition_none tl_join joinL)
/-! ### texts -/
def signs (l : List Nat) : Str := ⟨l.toArray⟩
def sp : Str := " "
theorem tl_sp : tl sp = [32] := by decide +kernel
theorem lstrip_none {x : Str} {a : Nat} {r : List Nat} (e : tl x = a :: r) (h : a ≠ 32) : Txt.lstripChars x sp = x := by
  unfold Txt.lstripChars Txt.stripBy
  have h1 : stripLo sp.cps.contains true x = 0 := by
    unfold stripLo
    rw [if_pos rfl]
    have e : x.cps.toList = a :: r := e
    rw [e, List.takeWhile_cons]
    have : sp.cps.contains a = false := by
      have e2 : sp.cps = #[32] := Array.toList_inj.mp tl_sp
      rw [e2]
      simp [h]
    rw [this]
    rfl
  have h2 : stripSame sp.cps.contains true false x = true := by
    unfold stripSame
    rw [h1]
    unfold stripHi
    simp
  rw [if_pos h2]
theorem lstrip_one {x : Str} {a : Nat} {r : List Nat} (e : tl x = a :: r) (h : a ≠ 32) : Txt.lstripChars (sp ++ x) sp = x := by
  unfold Txt.lstripChars
  rw [stripBy_eq]
  have e0 : (sp ++ x).cps.toList = 32 :: a :: r := by
    have := tl_append sp x
    rw [tl_sp, e] at this
    exact this
  have h1 : stripLo sp.cps.contains true (sp ++ x) = 1 := by
    unfold stripLo
    rw [if_pos rfl, e0, List.takeWhile_cons, List.takeWhile_cons]
    have e2 : sp.cps = #[32] := Array.toList_inj.mp tl_sp
    rw [e2]
    simp [h]
  rw [h1]
  unfold stripHi
  rw [if_neg Bool.false_ne_true]
  refine ext_tl ?_
  rw [TL.tl_strSub_end]
  have e0 : tl (sp ++ x) = 32 :: a :: r := e0
  rw [e0, e]
  rfl
/-! names -/
theorem letters_at : ∀ c, c ∈ lettersS.cps.toList → 97 ≤ c ∧ c ≤ 122 := by
  intro c hc
  have : lettersS.cps.toList = (List.range 26).map (· + 97) := by decide +kernel
  rw [this] at hc
  obtain ⟨k, hk, rfl⟩ := List.mem_map.mp hc
  have := List.mem_range.mp hk
  omega
theorem figs_at : ∀ c, c ∈ figsS.cps.toList → 48 ≤ c ∧ c ≤ 57 := by
  intro c hc
  have : figsS.cps.toList = (List.range 10).map (· + 48) := by decide +kernel
  rw [this] at hc
  obtain ⟨k, hk, rfl⟩ := List.mem_map.mp hc
  have := List.mem_range.mp hk
  omega
structure NameFacts (s : Str) : Prop where
  ne : s ≠ ""
  len : s.length ≤ 12
  word : s ∉ words
  head : ∃ a r, tl s = a :: r ∧ 97 ≤ a ∧ a ≤ 122
  all : ∀ c ∈ tl s, (97 ≤ c ∧ c ≤ 122) ∨ (48 ≤ c ∧ c ≤ 57)
theorem isName_facts {s : Str} (h : isName s = true) : NameFacts s := by
  unfold isName at h
  split at h
  · cases h
  · rename_i h0
    simp only [Bool.or_eq_true, decide_eq_true_eq, Bool.not_eq_true', decide_eq_false_iff_not, not_or, Classical.not_not] at h0
    obtain ⟨h1, h2, h3, h4⟩ := h0
    refine ⟨h1, by omega, h3, ?_, fun c hc => ?_⟩
    · have hp := str_ne_len h1
      cases e : s.cps.toList with
      | nil => rw [e] at hp; exact absurd hp (Nat.lt_irrefl 0)
      | cons a r =>
        rw [e] at h4
        exact ⟨a, r, e, letters_at a h4⟩
    · have := List.all_eq_true.mp h c hc
      simp only [Bool.not_eq_true', Bool.and_eq_false_iff, Bool.not_eq_false', decide_eq_true_eq] at this
      rcases this with z | z
      · exact .inl (letters_at c z)
      · exact .inr (figs_at c z)
theorem NameFacts.free {s : Str} (h : NameFacts s) {c : Nat} (hc : c < 48 := by decide) : c ∉ tl s := fun hm => by
  rcases h.all c hm with z | z <;> omega
/-! figures -/
def numS (n : Nat) : Str := Str.ofString (toString ((n : Nat) : Int))
theorem numL_head {n : Nat} (h : 0 < n) : ∃ a r, numL n = a :: r ∧ a ≠ 48 := by
  induction n using Nat.strongRecOn with
  | _ n ih =>
    by_cases h1 : n < 10
    · rw [TL.numL_lt h1]
      exact ⟨_, _, rfl, by omega⟩
    · rw [TL.numL_step (by omega)]
      obtain ⟨a, r, e, h2⟩ := ih (n / 10) (by omega) (by omega)
      rw [e]
      exact ⟨a, _, rfl, h2⟩
def isFigs (s : Str) : Bool := if decide (s = "") || (decide ((s.length : Int) > 30) || decide ((⟨#[s.cps.toList.headD 0]⟩ : Str) = "0")) then false else s.cps.toList.all fun c => !(!decide (c ∈ figsS.cps.toList))
theorem numS_figs {n : Nat} (h0 : 0 < n) (h1 : n < 10 ^ 30) : isFigs (numS n) = true := by
  obtain ⟨a, r, e, ha⟩ := numL_head h0
  have et : tl (numS n) = numL n := tl_num n
  have el : (numS n).length ≤ 30 := by rw [len_tl, et]; exact TL.numL_len (by decide) h1
  unfold isFigs
  have ne : numS n ≠ "" := fun z => by
    rw [z] at et
    rw [e] at et
    cases et
  have hd : (numS n).cps.toList.headD 0 = a := by
    show (tl (numS n)).headD 0 = a
    rw [et, e]; rfl
  have c1 : decide (numS n = "") = false := decide_eq_false ne
  have c2 : decide (((numS n).length : Int) > 30) = false := decide_eq_false (by omega)
  have c3 : decide ((⟨#[(numS n).cps.toList.headD 0]⟩ : Str) = "0") = false := decide_eq_false (by
    rw [hd]
    intro z
    have z2 : tl (⟨#[a]⟩ : Str) = tl ("0" : Str) := by rw [z]
    have z3 : tl ("0" : Str) = [48] := by decide +kernel
    rw [z3] at z2
    have z4 : [a] = [48] := z2
    exact ha (by simpa using z4))
  rw [c1, c2, c3]
  refine List.all_eq_true.mpr fun c hc => ?_
  have hc : c ∈ numL n := by rw [← et]; exact hc
  have hd := TL.numL_digits n c hc
  have : figsS.cps.toList = (List.range 10).map (· + 48) := by decide +kernel
  have hm : c ∈ figsS.cps.toList := by
    rw [this]
    exact List.mem_map.mpr ⟨c - 48, List.mem_range.mpr (by omega), by omega⟩
  rw [decide_eq_true hm]
  rfl
theorem numS_int {n : Nat} (h1 : n < 10 ^ 30) : intText? (numS n) = some (n : Int) := TL.int_num (Nat.le_trans (TL.numL_len (by decide) h1) (by decide))
theorem numS_len {n : Nat} (h1 : n < 10 ^ 30) : (numS n).length ≤ 30 := by
  have et : tl (numS n) = numL n := tl_num n
  rw [len_tl, et]
  exact TL.numL_len (by decide) h1
/-! items -/
abbrev NItem := Str × Int
def plusS : Str := "+"
def minusS : Str := "-"
def itemText (q : NItem) : Str := if q.2 = 0 then q.1 else q.1 ++ (if q.2 > 0 then plusS else minusS) ++ numS q.2.natAbs
structure ItemOk (q : NItem) : Prop where
  nm : isName q.1 = true
  wt : q.2.natAbs < 10 ^ 30
theorem tl_plus : tl plusS = [43] := by decide +kernel
theorem tl_minus : tl minusS = [45] := by decide +kernel
theorem itemText_all {q : NItem} (h : ItemOk q) : (∀ c ∈ tl (itemText q), c ≠ 32 ∧ c ≠ 44 ∧ c ≠ 10) ∧ (itemText q).length ≤ 43 ∧ ∃ a r, tl (itemText q) = a :: r ∧ a ≠ 32 := by
  have hf := isName_facts h.nm
  have hl := hf.len
  obtain ⟨a, r, e, h1, h2⟩ := hf.head
  have nmc : ∀ c ∈ tl q.1, c ≠ 32 ∧ c ≠ 44 ∧ c ≠ 10 := fun c hc => by rcases hf.all c hc with z | z <;> omega
  unfold itemText
  split
  · exact ⟨nmc, by omega, a, r, e, by omega⟩
  · have et : tl (numS q.2.natAbs) = numL q.2.natAbs := tl_num _
    have nl := numS_len h.wt
    have key : ∀ s : Str, ∀ x, tl s = [x] → x ≠ 32 → x ≠ 44 → x ≠ 10 → (∀ c ∈ tl (q.1 ++ s ++ numS q.2.natAbs), c ≠ 32 ∧ c ≠ 44 ∧ c ≠ 10) ∧ (q.1 ++ s ++ numS q.2.natAbs).length ≤ 43 ∧ ∃ a r, tl (q.1 ++ s ++ numS q.2.natAbs) = a :: r ∧ a ≠ 32 := by
      intro s x ex x1 x2 x3
      refine ⟨fun c hc => ?_, ?_, a, r ++ ([x] ++ numL q.2.natAbs), ?_, by omega⟩
      · rw [tl_append, tl_append, et, ex] at hc
        rcases List.mem_append.mp hc with hc | hc
        · rcases List.mem_append.mp hc with hc | hc
          · exact nmc c hc
          · have : c = x := by simpa using hc
            subst this
            exact ⟨x1, x2, x3⟩
        · have := TL.numL_digits _ c hc
          omega
      · rw [len_tl, tl_append, tl_append, List.length_append, List.length_append, ← len_tl, ← len_tl, ← len_tl]
        have : s.length = 1 := by rw [len_tl, ex]; rfl
        omega
      · rw [tl_append, tl_append, e, ex, et]
        simp
    split
    · exact key plusS 43 tl_plus (by decide) (by decide) (by decide)
    · exact key minusS 45 tl_minus (by decide) (by decide) (by decide)
theorem item_zero {q : NItem} (h : ItemOk q) (hz : q.2 = 0) : itemText q = q.1 ∧ Txt.partition (itemText q) plusS = (itemText q, Str.empty, Str.empty) ∧ Txt.partition (itemText q) minusS = (itemText q, Str.empty, Str.empty) := by
  have hf := isName_facts h.nm
  have e : itemText q = q.1 := by unfold itemText; rw [if_pos hz]
  rw [e]
  exact ⟨rfl, partition_none tl_plus hf.free, partition_none tl_minus hf.free⟩
theorem item_pos {q : NItem} (h : ItemOk q) (hz : 0 < q.2) : Txt.partition (itemText q) plusS = (q.1, plusS, numS q.2.natAbs) := by
  have hf := isName_facts h.nm
  have e : itemText q = q.1 ++ plusS ++ numS q.2.natAbs := by unfold itemText; rw [if_neg (by omega), if_pos hz]
  rw [e]
  exact partition_app tl_plus hf.free
theorem item_neg {q : NItem} (h : ItemOk q) (hz : q.2 < 0) : Txt.partition (itemText q) plusS = (itemText q, Str.empty, Str.empty) ∧ Txt.partition (itemText q) minusS = (q.1, minusS, numS q.2.natAbs) := by
  have hf := isName_facts h.nm
  have e : itemText q = q.1 ++ minusS ++ numS q.2.natAbs := by unfold itemText; rw [if_neg (by omega), if_neg (by omega)]
  refine ⟨partition_none tl_plus ?_, ?_⟩
  · rw [e, tl_append, tl_append, tl_minus]
    intro hm
    rcases List.mem_append.mp hm with hm | hm
    · rcases List.mem_append.mp hm with hm | hm
      · exact hf.free (by decide) hm
      · simp at hm
    · have et : tl (numS q.2.natAbs) = numL q.2.natAbs := tl_num _
      rw [et] at hm
      have := TL.numL_digits _ _ hm
      omega
  · rw [e]
    exact partition_app tl_minus hf.free
end K60
/-! text W8 -/
set_option Elab.async false
set_option linter.all false
set_option maxRecDepth 100000
set_option maxHeartbeats 4000000
namespace K60
open PySem PyProof.Rows Rl
open PySem.Spec hiding Row
open L2 (E0 XK Hp V atI ixN)
open TL (tl tl_append ext_tl len_tl mk_tl tl_mk numL tl_num split_join partition_app partition_none tl_join joinL)
/-! ### records -/
inductive NRec where
  | plan (n : Str)
  | given (n : Str)
  | made (n how : Str) (items : List NItem)
def rItem (q : NItem) : Rp := rT [rS q.1, rI q.2]
def rRec : NRec → Rp
  | .plan n => rT [rS "plan", rS n]
  | .given n => rT [rS "given", rS n]
  | .made n how items => rT [rS "made", rS n, rS how, rT (items.map rItem)]
def comS : Str := ", "
def partS : Str := "part"
def planS : Str := "plan"
def givenS : Str := "given"
theorem tl_com : tl comS = 44 :: [32] := by decide +kernel
def itemsText (items : List NItem) : Str := Txt.join comS (items.map itemText)
def madeRest (how : Str) (items : List NItem) : Str := if plainHow how then how ++ sp ++ itemsText items else partS ++ sp ++ (how ++ sp ++ itemsText items)
def recText : NRec → Str
  | .plan n => planS ++ sp ++ n
  | .given n => sp ++ (givenS ++ sp ++ n)
  | .made n how items => sp ++ (n ++ sp ++ madeRest how items)
def HowOk (how : Str) : Prop := plainHow how = true ∨ isName how = true
structure ItemsOk (items : List NItem) : Prop where
  ne : items ≠ []
  few : items.length ≤ 40
  ok : ∀ q ∈ items, ItemOk q
def RecOk : NRec → Prop
  | .plan n => isName n = true
  | .given n => isName n = true
  | .made n how items => isName n = true ∧ HowOk how ∧ ItemsOk items
theorem plain_cases {h : Str} (p : plainHow h = true) : h = "all" ∨ h = "first" := by
  unfold plainHow at p
  have := of_decide_eq_true p
  simpa using this
theorem how_free {h : Str} (p : HowOk h) : 32 ∉ tl h ∧ h.length ≤ 12 := by
  rcases p with p | p
  · rcases plain_cases p with rfl | rfl
    · decide +kernel
    · decide +kernel
  · exact ⟨(isName_facts p).free, (isName_facts p).len⟩
theorem names_not_plain {h : Str} (p : isName h = true) : plainHow h = false := by
  cases e : plainHow h with
  | false => rfl
  | true =>
    have := (isName_facts p).word
    rcases plain_cases e with rfl | rfl
    · exact absurd (by decide +kernel) this
    · exact absurd (by decide +kernel) this
theorem sumlen_le {xs : List Str} {k : Nat} (h : ∀ x ∈ xs, x.length ≤ k) : (xs.map (·.length)).sum ≤ xs.length * k := by
  induction xs with
  | nil => simp
  | cons x xs ih =>
    rw [List.map_cons, List.sum_cons, List.length_cons, Nat.succ_mul]
    have h1 := h x List.mem_cons_self
    have h2 := ih fun y hy => h y (List.mem_cons_of_mem _ hy)
    omega
theorem join_len (y : Str) : ∀ parts : List Str, (Txt.join y parts).length ≤ (parts.map (·.length)).sum + parts.length * y.length := by
  intro parts
  rw [TL.join_eq, len_tl, tl_join]
  have key : ∀ ps : List Str, (joinL (tl y) (ps.map tl)).length ≤ (ps.map (·.length)).sum + ps.length * y.length := by
    intro ps
    induction ps with
    | nil => simp [joinL]
    | cons p ps ih =>
      cases ps with
      | nil =>
        show (tl p).length ≤ _
        rw [← len_tl]
        simp
      | cons q qs =>
        show (tl p ++ (tl y ++ joinL (tl y) ((q :: qs).map tl))).length ≤ _
        rw [List.length_append, List.length_append, ← len_tl, ← len_tl]
        have e1 : ((p :: q :: qs).map (·.length)).sum = p.length + ((q :: qs).map (·.length)).sum := rfl
        have e2 : (p :: q :: qs).length * y.length = (q :: qs).length * y.length + y.length := Nat.succ_mul _ _
        rw [e1, e2]
        have ih : (joinL (tl y) (tl q :: List.map tl qs)).length ≤ ((q :: qs).map (·.length)).sum + (q :: qs).length * y.length := ih
        have e3 : joinL (tl y) ((q :: qs).map tl) = joinL (tl y) (tl q :: List.map tl qs) := rfl
        rw [e3]
        omega
  exact key parts
theorem itemsText_len {items : List NItem} (h : ItemsOk items) : (itemsText items).length ≤ 2000 := by
  have h1 := join_len comS (items.map itemText)
  have h2 : ((items.map itemText).map (·.length)).sum ≤ (items.map itemText).length * 43 := sumlen_le fun x hx => by
    obtain ⟨q, hq, rfl⟩ := List.mem_map.mp hx
    exact (itemText_all (h.ok q hq)).2.1
  have h3 : comS.length = 2 := by rw [len_tl, tl_com]; rfl
  rw [List.length_map] at h1 h2
  rw [h3] at h1
  have := h.few
  unfold itemsText
  omega
theorem itemsText_free {items : List NItem} (h : ItemsOk items) : 10 ∉ tl (itemsText items) := by
  unfold itemsText
  rw [TL.join_eq, tl_join, tl_com]
  have key : ∀ ps : List (List Nat), (∀ p ∈ ps, 10 ∉ p) → 10 ∉ joinL [44, 32] ps := by
    intro ps
    induction ps with
    | nil => intro _ hm; simp [joinL] at hm
    | cons p ps ih =>
      intro hp
      cases ps with
      | nil => exact hp p List.mem_cons_self
      | cons q qs =>
        intro hm
        have hm : 10 ∈ p ++ ([44, 32] ++ joinL [44, 32] (q :: qs)) := hm
        rcases List.mem_append.mp hm with z | z
        · exact hp p List.mem_cons_self z
        · rcases List.mem_append.mp z with z | z
          · simp at z
          · exact ih (fun p hp2 => hp p (List.mem_cons_of_mem _ hp2)) z
  refine key _ fun p hp => ?_
  obtain ⟨s, hs, rfl⟩ := List.mem_map.mp hp
  obtain ⟨q, hq, rfl⟩ := List.mem_map.mp hs
  exact fun hm => ((itemText_all (h.ok q hq)).1 _ hm).2.2 rfl
theorem items_split {items : List NItem} (h : ItemsOk items) : Txt.split (itemsText items) comS = items.map itemText := split_join tl_com (by decide +kernel) (fun z => h.ne (by simpa using z)) fun p hp => by
  obtain ⟨q, hq, rfl⟩ := List.mem_map.mp hp
  exact fun hm => ((itemText_all (h.ok q hq)).1 _ hm).2.1 rfl
theorem le16 {n k : Nat} (h : n ≤ k) (hk : k ≤ 16777216 := by decide) : n ≤ sizeLine := by rw [sizeLine_eq]; omega
theorem str_len_app (a b : Str) : (a ++ b).length = a.length + b.length := by rw [len_tl, tl_append, List.length_append, ← len_tl, ← len_tl]
theorem sp_len : sp.length = 1 := by rw [len_tl, tl_sp]; rfl
theorem part_len : partS.length = 4 := by decide +kernel
theorem madeRest_len {how : Str} {items : List NItem} (p : HowOk how) (h : ItemsOk items) : (madeRest how items).length ≤ 2100 := by
  have h1 := itemsText_len h
  have h2 := (how_free p).2
  unfold madeRest
  split
  · rw [str_len_app, str_len_app, sp_len]; omega
  · rw [str_len_app, str_len_app, str_len_app, str_len_app, sp_len, part_len]; omega
abbrev P_figs (Γ : Cg) : Prop := Fn0 Γ 1 "are_figures" ["text"] (Sp0 (fun s : Str => s.length ≤ sizeLine) (fun s => [rS s]) fun s => rB (isFigs s))
abbrev P_item (Γ : Cg) : Prop := Fn0 Γ 2 "item_of" ["text"] (Sp0 ItemOk (fun q => [rS (itemText q)]) rItem)
abbrev P_items (Γ : Cg) : Prop := Fn0 Γ 3 "items_of" ["text"] (Sp0 ItemsOk (fun q => [rS (itemsText q)]) fun q => rT (q.map rItem))
abbrev P_made_of (Γ : Cg) : Prop := Fn0 Γ 4 "made_of" ["name", "rest"] (Sp0 (fun x : Str × Str × List NItem => RecOk (.made x.1 x.2.1 x.2.2)) (fun x => [rS x.1, rS (madeRest x.2.1 x.2.2)]) fun x => rRec (.made x.1 x.2.1 x.2.2))
abbrev P_record (Γ : Cg) : Prop := Fn0 Γ 5 "record_of" ["row"] (Sp0 RecOk (fun r => [rS (recText r)]) rRec)
theorem fold_snoc {α : Type} (xs : List α) : xs.foldl (fun b q => b ++ [q]) [] = xs := by
  have key : ∀ (xs b : List α), xs.foldl (fun b q => b ++ [q]) b = b ++ xs := by
    intro xs
    induction xs with
    | nil => intro b; simp
    | cons x xs ih => intro b; rw [List.foldl_cons, ih]; simp
  rw [key]; rfl
section
variable {Γ : Cg} {C : Cls} (G : Gk Γ C)
include G
theorem w_figs (D : DfAt Γ "are_figures" 51 ["text"]) : P_figs Γ := by
  refine def0 0 Lare_figures D Sare_figures rfl rfl (fun _ => rfl) fun s hs => ?_
  obtain ⟨fu, hf1, hf2⟩ := G.fr
  refine ⟨if decide (s = "") || (decide ((s.length : Int) > 30) || decide ((⟨#[s.cps.toList.headD 0]⟩ : Str) = "0")) then .ret (rB false) else (if s.cps.toList.all (fun c => !(!decide (c ∈ figsS.cps.toList))) then .ret (rB true) else .ret (rB false)), ?_, ?_⟩
  · show RetO _ (.ok (rB (isFigs s)))
    unfold isFigs
    split
    · rfl
    · split
      · rename_i h; rw [h]; rfl
      · rename_i h
        have h2 : (s.cps.toList.all fun c => !(!decide (c ∈ figsS.cps.toList))) = false := by simpa using h
        rw [h2]; rfl
  refine rs_ifEnd ?_ (fun _ => rs_one (r1_ret re_bl)) fun _ => ?_
  · refine (rw_or (rt_eqS (rv 0) re_str) fun h1 => rw_or (rt_gt (re_lenS hs (G.bi _ (by decide)) (rv 0)) re_int) fun h2 => rw_or1 (rt_eqS (re_ixS (i := 0) (ch := s.cps.toList.headD 0) ?_ hs (rv 0) re_int) re_str)).pt
    have hne : s ≠ "" := of_decide_eq_false h1
    have hp := str_ne_len hne
    refine atI_nat (n := 0) ?_
    cases e : s.cps.toList with
    | nil => rw [e] at hp; exact absurd hp (Nat.lt_irrefl 0)
    | cons a b => rfl
  · exact rs_look _ (ri_str (rv 0)) (fun c hc => .of (rg_name 1) (rs_guard (RT.eq (rt_niC (rv 1) (re_glob hf1 hf2)) (Bool.not_not _).symm) fun _ => rs_one (r1_ret re_bl)) ⟨.inr rfl, .inl rfl, trivial⟩) fun _ => rs_one (r1_ret re_bl)
theorem w_item (FN : P_is_name Γ) (FF : P_figs Γ) (D : DfAt Γ "item_of" 52 ["text"]) : P_item Γ := by
  refine def0 1 Litem_of D Sitem_of rfl rfl (fun _ => rfl) fun q hq => ⟨.ret (rItem q), rfl, ?_⟩
  have hf := isName_facts hq.nm
  have hal := itemText_all hq
  have tlen : (itemText q).length ≤ sizeLine := le16 hal.2.1
  have marks : ∀ {env : List Sl} {p1 p2 p3 x1 j1 j2 tg}, RI Γ Litem_of ⟨E0, 1⟩ tg (.Tuple [.Constant (.str "+") j1 p1, .Constant (.str "-") j2 p2] x1 p3) env [plusS, minusS] rS := ri_tup (xs := [plusS, minusS]) (f := rS) (re_tup (ra_cons re_str (ra_cons re_str ra_nil)))
  let S : Unit → List Sl := fun _ => [.dat (rS (itemText q)), .no, .no]
  have nlen : q.1.length ≤ sizeLine := le16 hf.len
  have dlen : (numS q.2.natAbs).length ≤ sizeLine := le16 (numS_len hq.wt)
  have ll : ∀ (a b : Str), a ≠ b → decide (a = b) = false := fun a b h => decide_eq_false h
  have pl : (plusS.length == 0) = false := by decide +kernel
  have ml : (minusS.length == 0) = false := by decide +kernel
  by_cases h0 : q.2 = 0
  · obtain ⟨e1, e2, e3⟩ := item_zero hq h0
    refine rs_cons (r1_fold S (fun _ _ => ()) (fun _ => True) () rfl trivial marks fun _ m hm _ => ⟨?_, trivial⟩) (rs_stop (r1_if (k := true) (RT.eq (rt_val (re_call FN (itemText q) tlen (ra_cons (rv 0) ra_nil))) (by rw [e1]; exact hq.nm)) (fun _ => rs_one (r1_ret (RE.eq (re_tup (ra_cons (rv 0) (ra_cons re_int ra_nil))) ?_))) fun h => by cases h))
    · have ep : Txt.partition (itemText q) m = (itemText q, Str.empty, Str.empty) := by
        have hm : m = plusS ∨ m = minusS := by simpa using hm
        rcases hm with rfl | rfl
        · exact e2
        · exact e3
      have hml : (m.length == 0) = false := by
        have hm : m = plusS ∨ m = minusS := by simpa using hm
        rcases hm with rfl | rfl <;> decide +kernel
      have hne : (Str.empty : Str) ≠ m := by
        have hm : m = plusS ∨ m = minusS := by simpa using hm
        rcases hm with rfl | rfl <;> decide +kernel
      exact .nx (rg_name 1) (rs_cons (r1_set 2 (RE.eq (re_partition hml tlen (rv 0) (rv 1)) (by rw [ep]))) (rs_one (r1_if (k := false) (RT.eq (rw_and (l := false) (rt_eqS (re_ixT (rs := [rS (itemText q), rS Str.empty, rS Str.empty]) (i := 1) (atI_nat (n := 1) rfl) (rv 2) re_int) (rv 1)) (fun h => absurd (of_decide_eq_true h) hne)).pt (by rw [ll _ _ hne]; rfl)) (fun h => by cases h) fun _ => rs_nil))) ⟨.inr rfl, .inl rfl, .inl rfl, trivial⟩
    · unfold rItem
      rw [e1, h0]
  · by_cases hp : 0 < q.2
    · have ep := item_pos hq hp
      have hfg := numS_figs (n := q.2.natAbs) (by omega) hq.wt
      have hi := numS_int hq.wt
      refine rs_stop (r1_for marks (.ret (rg_name 1) (rs_cons (r1_set 2 (RE.eq (re_partition pl tlen (rv 0) (rv 1)) (by rw [ep]))) (rs_stop (r1_if (k := true) (RT.eq (rw_and (rt_eqS (re_ixT (rs := [rS q.1, rS plusS, rS (numS q.2.natAbs)]) (i := 1) (atI_nat (n := 1) rfl) (rv 2) re_int) (rv 1)) fun _ => rw_and (rt_val (re_call FN q.1 nlen (ra_cons (re_ixT (rs := [rS q.1, rS plusS, rS (numS q.2.natAbs)]) (i := 0) (at0 _ _) (rv 2) re_int) ra_nil))) fun _ => rw_and1 (rt_val (re_call FF (numS q.2.natAbs) dlen (ra_cons (re_ixT (rs := [rS q.1, rS plusS, rS (numS q.2.natAbs)]) (i := 2) (atI_nat (n := 2) rfl) (rv 2) re_int) ra_nil)))).pt (by rw [decide_eq_true rfl, hq.nm, hfg]; rfl)) (fun _ => rs_stop (r1_if (k := true) (RT.eq (rt_eqS (rv 1) re_str) (decide_eq_true rfl)) (fun _ => rs_one (r1_ret (RE.eq (re_tup (ra_cons (re_ixT (rs := [rS q.1, rS plusS, rS (numS q.2.natAbs)]) (i := 0) (at0 _ _) (rv 2) re_int) (ra_cons (re_intS hi (Nat.le_trans (numS_len hq.wt) (by decide)) (G.bi _ (by decide)) (re_ixT (rs := [rS q.1, rS plusS, rS (numS q.2.natAbs)]) (i := 2) (atI_nat (n := 2) rfl) (rv 2) re_int)) ra_nil))) ?_))) fun h => by cases h)) fun h => by cases h)))))
      unfold rItem
      have : ((q.2.natAbs : Nat) : Int) = q.2 := by omega
      rw [this]
    · obtain ⟨ep0, ep⟩ := item_neg hq (by omega)
      have hfg := numS_figs (n := q.2.natAbs) (by omega) hq.wt
      have hi := numS_int hq.wt
      have hne : (Str.empty : Str) ≠ plusS := by decide +kernel
      have nmp : minusS ≠ plusS := by decide +kernel
      refine rs_stop (r1_for marks (.next (rg_name 1) (rs_cons (r1_set 2 (RE.eq (re_partition pl tlen (rv 0) (rv 1)) (by rw [ep0]))) (rs_one (r1_if (k := false) (RT.eq (rw_and (l := false) (rt_eqS (re_ixT (rs := [rS (itemText q), rS Str.empty, rS Str.empty]) (i := 1) (atI_nat (n := 1) rfl) (rv 2) re_int) (rv 1)) (fun h => absurd (of_decide_eq_true h) hne)).pt (by rw [ll _ _ hne]; rfl)) (fun h => by cases h) fun _ => rs_nil))) (EnvLe.refl _) (.ret (rg_name 1) (rs_cons (r1_set 2 (RE.eq (re_partition ml tlen (rv 0) (rv 1)) (by rw [ep]))) (rs_stop (r1_if (k := true) (RT.eq (rw_and (rt_eqS (re_ixT (rs := [rS q.1, rS minusS, rS (numS q.2.natAbs)]) (i := 1) (atI_nat (n := 1) rfl) (rv 2) re_int) (rv 1)) fun _ => rw_and (rt_val (re_call FN q.1 nlen (ra_cons (re_ixT (rs := [rS q.1, rS minusS, rS (numS q.2.natAbs)]) (i := 0) (at0 _ _) (rv 2) re_int) ra_nil))) fun _ => rw_and1 (rt_val (re_call FF (numS q.2.natAbs) dlen (ra_cons (re_ixT (rs := [rS q.1, rS minusS, rS (numS q.2.natAbs)]) (i := 2) (atI_nat (n := 2) rfl) (rv 2) re_int) ra_nil)))).pt (by rw [decide_eq_true rfl, hq.nm, hfg]; rfl)) (fun _ => rs_cons (r1_if (k := false) (RT.eq (rt_eqS (rv 1) re_str) (decide_eq_false nmp)) (fun h => by cases h) fun _ => rs_nil) (rs_one (r1_ret (RE.eq (re_tup (ra_cons (re_ixT (rs := [rS q.1, rS minusS, rS (numS q.2.natAbs)]) (i := 0) (at0 _ _) (rv 2) re_int) (ra_cons (re_sub re_int (re_intS hi (Nat.le_trans (numS_len hq.wt) (by decide)) (G.bi _ (by decide)) (re_ixT (rs := [rS q.1, rS minusS, rS (numS q.2.natAbs)]) (i := 2) (atI_nat (n := 2) rfl) (rv 2) re_int))) ra_nil))) ?_)))) fun h => by cases h))))))
      unfold rItem
      have : 0 - ((q.2.natAbs : Nat) : Int) = q.2 := by omega
      rw [this]
theorem w_items (FI : P_item Γ) (D : DfAt Γ "items_of" 53 ["text"]) : P_items Γ := by
  refine def0 2 Litems_of D Sitems_of rfl rfl (fun _ => rfl) fun items hi => ⟨.ret (rT (items.map rItem)), rfl, ?_⟩
  have few := hi.few
  refine rs_cons (r1_own 1 (rf_lst ra_nil)) ?_
  refine rs_cons (r1_foldP (fun b : List NItem => [.dat (rS (itemsText items)), .aL (b.map rItem), .no, .no]) (fun b q => b ++ [q]) [] rfl (ri_list (f := fun q => rS (itemText q)) (xs := items) (RE.eq (rf_split (z := itemsText items) (y := comS) (by decide +kernel) (by have := itemsText_len hi; rw [sizeLine_eq]; omega) (rv 0) re_str).re ?_)) fun pre q suf e => ?_) ?_
  · rw [items_split hi, List.map_map]; rfl
  · have hq := hi.ok q (by rw [e]; exact List.mem_append_right _ List.mem_cons_self)
    rw [fold_snoc]
    refine .nx (rg_name 2) (rs_cons (r1_set 3 (re_call FI q hq (ra_cons (rv 2) ra_nil))) (rs_cons (r1_if (k := false) (rt_isN false (r := rItem q) (rv 3) (.inr ⟨rfl, notN_T⟩)) (fun h => by cases h) fun _ => rs_nil) (rs_one (r1_append 1 (rv 3) ?_)))) ?_
    · have := congrArg List.length e
      rw [List.length_append] at this
      rw [List.length_map]
      omega
    · refine ⟨.inr rfl, .inr ?_, .inl rfl, .inl rfl, trivial⟩
      show Sl.aL _ = Sl.aL _
      rw [List.map_append]
      rfl
  · rw [fold_snoc]
    exact rs_one (r1_ret (re_tuple (G.bi _ (by decide)) (rp_acc 1)))
theorem w_made_of (FN : P_is_name Γ) (FI : P_items Γ) (D : DfAt Γ "made_of" 54 ["name", "rest"]) : P_made_of Γ := by
  refine def0 3 Lmade_of D Smade_of rfl rfl (fun _ => rfl) fun ⟨n, how, items⟩ ⟨hn, hh, hi⟩ => ⟨.ret (rRec (.made n how items)), rfl, ?_⟩
  have hh : HowOk how := hh
  have hi : ItemsOk items := hi
  have hl := madeRest_len hh hi
  have il := itemsText_len hi
  have hfr := how_free hh
  have slen : (sp.length == 0) = false := by decide +kernel
  have gne : sp ≠ "" := by decide +kernel
  have tail : RS Γ Lmade_of ⟨E0, 3⟩ (List.drop 2 (L2.defBody (top 54))) [.dat (rS n), .dat (rS (madeRest how items)), .dat (rS how), .dat (rS sp), .dat (rS (itemsText items)), .no] (.ret (rRec (.made n how items))) :=
    rs_cons (r1_set 5 (re_call FI items hi (ra_cons (rv 4) ra_nil))) (rs_cons (r1_if (k := false) (RT.eq (rw_or (rt_eqS (rv 3) re_str) fun _ => rw_or1 (rt_isN false (r := rT (items.map rItem)) (rv 5) (.inr ⟨rfl, notN_T⟩))).pt (by rw [decide_eq_false gne]; rfl)) (fun h => by cases h) fun _ => rs_nil) (rs_one (r1_ret (re_tup (ra_cons re_str (ra_cons (rv 0) (ra_cons (rv 2) (ra_cons (rv 5) ra_nil))))))))
  cases hp : plainHow how with
  | true =>
    have er : madeRest how items = how ++ sp ++ itemsText items := by unfold madeRest; rw [hp]; rfl
    have ep : Txt.partition (madeRest how items) sp = (how, sp, itemsText items) := by rw [er]; exact partition_app tl_sp hfr.1
    have hnp : how ≠ "part" := by
      rcases plain_cases hp with rfl | rfl <;> decide +kernel
    refine rs_cons (r1_asg (RE.eq (re_partition (z := madeRest how items) (y := sp) slen (le16 hl) (rv 1) re_str) (by rw [ep])) (rg_tup (rgs_cons (rg_name 2) (rgs_cons (rg_name 3) (rgs_cons (rg_name 4) rgs_nil))))) (rs_cons (r1_if (k := false) (RT.eq (rt_eqS (rv 2) re_str) (decide_eq_false hnp)) (fun h => by cases h) fun _ => rs_one (r1_if (k := false) (RT.eq (rt_niT (ss := ["all", "first"]) (rv 2) (re_tup (ra_cons re_str (ra_cons re_str ra_nil)))) ?_) (fun h => by cases h) fun _ => rs_nil)) tail)
    have hp2 : decide (how ∈ (["all", "first"] : List Str)) = true := hp
    rw [hp2]
    rfl
  | false =>
    have hnm : isName how = true := hh.resolve_left (by rw [hp]; decide)
    have er : madeRest how items = partS ++ sp ++ (how ++ sp ++ itemsText items) := by unfold madeRest; rw [hp]; rfl
    have ep : Txt.partition (madeRest how items) sp = (partS, sp, how ++ sp ++ itemsText items) := by rw [er]; exact partition_app tl_sp (by decide +kernel)
    have ep2 : Txt.partition (how ++ sp ++ itemsText items) sp = (how, sp, itemsText items) := partition_app tl_sp hfr.1
    have bl : (how ++ sp ++ itemsText items).length ≤ 2100 := by rw [str_len_app, str_len_app, sp_len]; omega
    exact rs_cons (r1_asg (RE.eq (re_partition (z := madeRest how items) (y := sp) slen (le16 hl) (rv 1) re_str) (by rw [ep])) (rg_tup (rgs_cons (rg_name 2) (rgs_cons (rg_name 3) (rgs_cons (rg_name 4) rgs_nil))))) (rs_cons (r1_if (k := true) (RT.eq (rt_eqS (rv 2) re_str) (decide_eq_true rfl)) (fun _ => rs_cons (r1_asg (RE.eq (re_partition (z := how ++ sp ++ itemsText items) (y := sp) slen (le16 bl) (rv 4) re_str) (by rw [ep2])) (rg_tup (rgs_cons (rg_name 2) (rgs_cons (rg_name 3) (rgs_cons (rg_name 4) rgs_nil))))) (rs_one (r1_if (k := false) (RT.eq (rt_not (rt_val (re_call FN how (le16 (how_free hh).2) (ra_cons (rv 2) ra_nil)))) (by rw [hnm]; rfl)) (fun h => by cases h) fun _ => rs_nil))) fun h => by cases h) tail)
/-! one line -/
omit G in
theorem nm_head {n : Str} (h : isName n = true) (r : Str) : ∃ a q, tl (n ++ r) = a :: q ∧ a ≠ 32 := by
  obtain ⟨a, q, e, h1, h2⟩ := (isName_facts h).head
  exact ⟨a, q ++ tl r, by rw [tl_append, e]; rfl, by omega⟩
theorem w_record (FN : P_is_name Γ) (FM : P_made_of Γ) (D : DfAt Γ "record_of" 55 ["row"]) : P_record Γ := by
  refine def0 4 Lrecord_of D Srecord_of rfl rfl (fun _ => rfl) fun rec hrec => ⟨.ret (rRec rec), rfl, ?_⟩
  have slen : (sp.length == 0) = false := by decide +kernel
  cases rec with
  | plan n =>
    have hn : isName n = true := hrec
    have hf := isName_facts hn
    have nl := hf.len
    have hl : (recText (.plan n)).length ≤ 100 := by
      show (planS ++ sp ++ n).length ≤ 100
      rw [str_len_app, str_len_app, sp_len]
      have : planS.length = 4 := by decide +kernel
      omega
    have es : Txt.lstripChars (recText (.plan n)) sp = recText (.plan n) := lstrip_none (a := 112) (r := [108, 97, 110] ++ [32] ++ tl n) (by
      show tl (planS ++ sp ++ n) = _
      rw [tl_append, tl_append, tl_sp]
      have : tl planS = [112, 108, 97, 110] := by decide +kernel
      rw [this]; rfl) (by decide)
    have ep : Txt.partition (recText (.plan n)) sp = (planS, sp, n) := partition_app tl_sp (by decide +kernel)
    refine rs_cons (r1_asg (RE.eq (re_partition (z := recText (.plan n)) (y := sp) slen (le16 hl) (RE.eq (re_lstrip (z := recText (.plan n)) (y := sp) (le16 hl) (rv 0) re_str) (by rw [es])) re_str) (by rw [ep])) (rg_tup (rgs_cons (rg_name 1) (rgs_cons (rg_name 2) (rgs_cons (rg_name 3) rgs_nil))))) ?_
    refine rs_cons (r1_set 4 (RE.eq (re_sub (re_lenS (le16 hl) (G.bi _ (by decide)) (rv 0)) (re_lenS (z := recText (.plan n)) (le16 hl) (G.bi _ (by decide)) (RE.eq (re_lstrip (z := recText (.plan n)) (y := sp) (le16 hl) (rv 0) re_str) (by rw [es])))) (show _ = rI 0 by rw [Int.sub_self]))) ?_
    exact rs_stop (r1_if (k := true) (RT.eq (rw_and (rt_eqI (rv 4) re_int) fun _ => rw_and (rt_eqS (rv 1) re_str) fun _ => rw_and1 (rt_val (re_call FN n (le16 nl) (ra_cons (rv 3) ra_nil)))).pt (by rw [hn]; rfl)) (fun _ => rs_one (r1_ret (re_tup (ra_cons re_str (ra_cons (rv 3) ra_nil))))) fun h => by cases h)
  | given n =>
    have hn : isName n = true := hrec
    have hf := isName_facts hn
    have nl := hf.len
    have hfree : 32 ∉ tl givenS := by decide +kernel
    have gl : givenS.length = 5 := by decide +kernel
    have rl : (givenS ++ sp ++ n).length ≤ 2100 := by
      rw [str_len_app, str_len_app, sp_len]
      omega
    have hd : ∃ a q, tl (givenS ++ sp ++ n) = a :: q ∧ a ≠ 32 := by
      have : tl givenS = [103, 105, 118, 101, 110] := by decide +kernel
      rw [tl_append, tl_append, this]
      exact ⟨_, _, rfl, by decide⟩
    have hl : (recText (.given n)).length ≤ 2200 := by
      show (sp ++ (givenS ++ sp ++ n)).length ≤ 2200
      rw [str_len_app, sp_len]
      omega
    have es : Txt.lstripChars (recText (.given n)) sp = (givenS ++ sp ++ n) := by
      obtain ⟨a, q, e, h⟩ := hd
      exact lstrip_one e h
    have eb : ((recText (.given n)).length : Int) - (((givenS ++ sp ++ n)).length : Int) = 1 := by
      have : (recText (.given n)).length = 1 + ((givenS ++ sp ++ n)).length := by
        show (sp ++ (givenS ++ sp ++ n)).length = _
        rw [str_len_app, sp_len]
      omega
    have ep : Txt.partition (givenS ++ sp ++ n) sp = (givenS, sp, n) := partition_app tl_sp hfree
    refine rs_cons (r1_asg (RE.eq (re_partition (z := (givenS ++ sp ++ n)) (y := sp) slen (le16 rl) (RE.eq (re_lstrip (z := recText (.given n)) (y := sp) (le16 hl) (rv 0) re_str) (by rw [es])) re_str) (by rw [ep])) (rg_tup (rgs_cons (rg_name 1) (rgs_cons (rg_name 2) (rgs_cons (rg_name 3) rgs_nil))))) ?_
    refine rs_cons (r1_set 4 (RE.eq (re_sub (re_lenS (le16 hl) (G.bi _ (by decide)) (rv 0)) (re_lenS (z := (givenS ++ sp ++ n)) (le16 rl) (G.bi _ (by decide)) (RE.eq (re_lstrip (z := recText (.given n)) (y := sp) (le16 hl) (rv 0) re_str) (by rw [es])))) (show _ = rI 1 by rw [eb]))) ?_
    refine rs_cons (r1_if (k := false) (RT.eq (rw_and (l := false) (rt_eqI (rv 4) re_int) (fun h => absurd h (by decide))).pt rfl) (fun h => by cases h) fun _ => rs_nil) ?_
    exact rs_stop (r1_if (k := true) (RT.eq (rw_and (rt_eqI (rv 4) re_int) fun _ => rw_and (rt_eqS (rv 1) re_str) fun _ => rw_and1 (rt_val (re_call FN n (le16 nl) (ra_cons (rv 3) ra_nil)))).pt (by rw [hn]; rfl)) (fun _ => rs_one (r1_ret (re_tup (ra_cons re_str (ra_cons (rv 3) ra_nil))))) fun h => by cases h)
  | made n how items =>
    obtain ⟨hn, hh, hi⟩ := hrec
    have hf := isName_facts hn
    have nl := hf.len
    have ml := madeRest_len hh hi
    have hfree : 32 ∉ tl n := hf.free
    have rl : (n ++ sp ++ madeRest how items).length ≤ 2150 := by
      rw [str_len_app, str_len_app, sp_len]
      omega
    have hd : ∃ a q, tl (n ++ sp ++ madeRest how items) = a :: q ∧ a ≠ 32 := by
      obtain ⟨a, q, e, h⟩ := nm_head hn (sp ++ madeRest how items)
      refine ⟨a, q, ?_, h⟩
      rw [tl_append] at e
      rw [tl_append, tl_append, List.append_assoc, ← tl_append, e]
    have nw : decide (n = "given") = false := decide_eq_false fun e => hf.word (by rw [e]; decide +kernel)
    have hl : (recText (.made n how items)).length ≤ 2200 := by
      show (sp ++ (n ++ sp ++ madeRest how items)).length ≤ 2200
      rw [str_len_app, sp_len]
      omega
    have es : Txt.lstripChars (recText (.made n how items)) sp = (n ++ sp ++ madeRest how items) := by
      obtain ⟨a, q, e, h⟩ := hd
      exact lstrip_one e h
    have eb : ((recText (.made n how items)).length : Int) - (((n ++ sp ++ madeRest how items)).length : Int) = 1 := by
      have : (recText (.made n how items)).length = 1 + ((n ++ sp ++ madeRest how items)).length := by
        show (sp ++ (n ++ sp ++ madeRest how items)).length = _
        rw [str_len_app, sp_len]
      omega
    have ep : Txt.partition (n ++ sp ++ madeRest how items) sp = (n, sp, madeRest how items) := partition_app tl_sp hfree
    refine rs_cons (r1_asg (RE.eq (re_partition (z := (n ++ sp ++ madeRest how items)) (y := sp) slen (le16 rl) (RE.eq (re_lstrip (z := recText (.made n how items)) (y := sp) (le16 hl) (rv 0) re_str) (by rw [es])) re_str) (by rw [ep])) (rg_tup (rgs_cons (rg_name 1) (rgs_cons (rg_name 2) (rgs_cons (rg_name 3) rgs_nil))))) ?_
    refine rs_cons (r1_set 4 (RE.eq (re_sub (re_lenS (le16 hl) (G.bi _ (by decide)) (rv 0)) (re_lenS (z := (n ++ sp ++ madeRest how items)) (le16 rl) (G.bi _ (by decide)) (RE.eq (re_lstrip (z := recText (.made n how items)) (y := sp) (le16 hl) (rv 0) re_str) (by rw [es])))) (show _ = rI 1 by rw [eb]))) ?_
    refine rs_cons (r1_if (k := false) (RT.eq (rw_and (l := false) (rt_eqI (rv 4) re_int) (fun h => absurd h (by decide))).pt rfl) (fun h => by cases h) fun _ => rs_nil) ?_
    refine rs_cons (r1_if (k := false) (RT.eq (rw_and (rt_eqI (rv 4) re_int) fun _ => rw_and (l := false) (rt_eqS (rv 1) re_str) fun h => by rw [nw] at h; cases h).pt (by rw [nw]; rfl)) (fun h => by cases h) fun _ => rs_nil) ?_
    exact rs_stop (r1_if (k := true) (RT.eq (rw_and (rt_eqI (rv 4) re_int) fun _ => rw_and1 (rt_val (re_call FN n (le16 nl) (ra_cons (rv 1) ra_nil)))).pt (by rw [hn]; rfl)) (fun _ => rs_one (r1_ret (re_call FM (n, how, items) ⟨hn, hh, hi⟩ (ra_cons (rv 1) (ra_cons (rv 3) ra_nil))))) fun h => by cases h)
end
end K60
/-! text W9 -/
set_option Elab.async false
set_option linter.all false
set_option maxRecDepth 100000
set_option maxHeartbeats 4000000
namespace K60
open PySem PyProof.Rows Rl
open PySem.Spec hiding Row
open L2 (E0 XK Hp V atI ixN)
open TL (tl tl_append ext_tl len_tl mk_tl tl_mk numL tl_num split_join partition_app partition_none tl_join joinL)
/-! ### the lines' order -/
def kindOf : NRec → Str
  | .plan _ => "plan"
  | .given _ => "given"
  | .made _ _ _ => "made"
def mayStand (r : NRec) (last : Str) : Bool := match r with
  | .plan _ => true
  | .given _ => decide (last ∈ (["plan", "given"] : List Str))
  | .made _ _ _ => !decide (last = "")
def lastOf (recs : List NRec) (n : Nat) : Str := match n with
  | 0 => ""
  | n + 1 => (recs[n]?.map kindOf).getD ""
structure RecsOk (recs : List NRec) : Prop where
  few : recs.length ≤ 1000
  ok : ∀ r ∈ recs, RecOk r
  seq : ∀ (n : Nat) (r : NRec), recs[n]? = some r → mayStand r (lastOf recs n) = true
abbrev P_stand (Γ : Cg) : Prop := Fn0 Γ 1 "may_stand" ["record", "last"] (Sp0 (fun _ : NRec × Str => True) (fun x => [rRec x.1, rS x.2]) fun x => rB (mayStand x.1 x.2))
abbrev P_placed (Γ : Cg) : Prop := Fn0 Γ 6 "placed" ["rows"] (Sp0 RecsOk (fun recs => [rL (recs.map fun r => rS (recText r))]) fun recs => rL (recs.map rRec))
theorem notN_rec (r : NRec) : NotN (rRec r) := by cases r <;> exact notN_T
section
variable {Γ : Cg} {C : Cls} (G : Gk Γ C)
include G
theorem re_kind {L E env e pos j p2} (r : NRec) (h : RE Γ L E e env (rRec r)) : RE Γ L E (.Subscript e (.Constant (.int 0) j p2) pos) env (rS (kindOf r)) := by
  cases r with
  | plan n => exact re_ixT (rs := [rS "plan", rS n]) (i := 0) (at0 _ _) h re_int
  | given n => exact re_ixT (rs := [rS "given", rS n]) (i := 0) (at0 _ _) h re_int
  | made n how items => exact re_ixT (rs := [rS "made", rS n, rS how, rT (items.map rItem)]) (i := 0) (at0 _ _) h re_int
theorem w_stand (D : DfAt Γ "may_stand" 56 ["record", "last"]) : P_stand Γ := by
  refine def0 0 Lmay_stand D Smay_stand rfl rfl (fun _ => rfl) fun ⟨r, last⟩ _ => ⟨.ret (rB (mayStand r last)), rfl, ?_⟩
  have n1 : ("given" : Str) ≠ "plan" := by decide +kernel
  have n2 : ("made" : Str) ≠ "plan" := by decide +kernel
  have n3 : ("made" : Str) ≠ "given" := by decide +kernel
  cases r with
  | plan n => exact rs_stop (r1_if (k := true) (RT.eq (rt_eqS (re_kind G (.plan n) (rv 0)) re_str) (decide_eq_true rfl)) (fun _ => rs_one (r1_ret re_bl)) fun h => by cases h)
  | given n => exact rs_cons (r1_if (k := false) (RT.eq (rt_eqS (re_kind G (.given n) (rv 0)) re_str) (decide_eq_false n1)) (fun h => by cases h) fun _ => rs_nil) (rs_stop (r1_if (k := true) (RT.eq (rt_eqS (re_kind G (.given n) (rv 0)) re_str) (decide_eq_true rfl)) (fun _ => rs_one (r1_ret (re_inT (ss := ["plan", "given"]) (rv 1) (re_tup (ra_cons re_str (ra_cons re_str ra_nil)))))) fun h => by cases h))
  | made n how items => exact rs_cons (r1_if (k := false) (RT.eq (rt_eqS (re_kind G (.made n how items) (rv 0)) re_str) (decide_eq_false n2)) (fun h => by cases h) fun _ => rs_nil) (rs_cons (r1_if (k := false) (RT.eq (rt_eqS (re_kind G (.made n how items) (rv 0)) re_str) (decide_eq_false n3)) (fun h => by cases h) fun _ => rs_nil) (rs_one (r1_ret (re_neS (rv 1) re_str))))
theorem w_placed (FR : P_record Γ) (FS : P_stand Γ) (D : DfAt Γ "placed" 57 ["rows"]) : P_placed Γ := by
  refine def0 5 Lplaced D Splaced rfl rfl (fun _ => rfl) fun recs hr => ⟨.ret (rL (recs.map rRec)), rfl, ?_⟩
  have few := hr.few
  refine rs_cons (r1_own 1 (rf_lst ra_nil)) (rs_cons (r1_set 2 re_str) ?_)
  refine rs_cons (r1_upto (fun n => [.dat (rL (recs.map fun r => rS (recText r))), .aL ((recs.take n).map rRec), .dat (rS (lastOf recs n)), .no, .no]) rfl (ri_range (n := recs.length) (by omega) (G.bi _ (by decide)) (RE.eq (re_len (G.bi _ (by decide)) (rp_of (rv 0))) (by rw [List.length_map]))) fun n k hk => ?_) ?_
  · obtain ⟨hk1, hk2⟩ := range_at hk
    subst hk2
    have hx : recs[k]? = some recs[k] := List.getElem?_eq_getElem hk1
    generalize recs[k] = r at hx
    have rok := hr.ok r (List.mem_of_getElem? hx)
    have rse := hr.seq k r hx
    refine .nx (rg_name 3) (rs_cons (r1_set 4 (re_call FR r rok (ra_cons (re_ixL (i := k) (atI_nat (by rw [List.getElem?_map, hx]; rfl)) (rp_of (rv 0)) (rv 3)) ra_nil))) (rs_cons (r1_if (k := false) (RT.eq (rw_or (rt_isN false (r := rRec r) (rv 4) (.inr ⟨rfl, notN_rec r⟩)) fun _ => rw_or1 (rt_not (rt_val (re_call FS (r, lastOf recs k) trivial (ra_cons (rv 4) (ra_cons (rv 2) ra_nil)))))).pt (by rw [rse]; rfl)) (fun h => by cases h) fun _ => rs_nil) (rs_cons (r1_set 2 (re_kind G r (rv 4))) (rs_one (r1_append 1 (rv 4) ?_))))) ?_
    · rw [List.length_map, List.length_take]; omega
    · refine ⟨.inr rfl, .inr ?_, .inr ?_, .inl rfl, .inl rfl, trivial⟩
      · show Sl.aL _ = Sl.aL _
        rw [List.take_add_one, hx, List.map_append]
        rfl
      · show Sl.dat (rS (kindOf r)) = Sl.dat (rS ((recs[k]?.map kindOf).getD ""))
        rw [hx]
        rfl
  · rw [List.length_range, List.take_length]
    exact rs_one (r1_retL 1)
end
end K60
/-! text W10 -/
set_option Elab.async false
set_option linter.all false
set_option maxRecDepth 100000
set_option maxHeartbeats 4000000
namespace K60
open PySem PyProof.Rows Rl
open PySem.Spec hiding Row
open L2 (E0 XK Hp V atI ixN inClass defScope)
open TL (tl tl_append ext_tl len_tl mk_tl tl_mk numL tl_num split_join partition_app partition_none tl_join joinL)
/-! ### Plan, Book -/
def LinitP : Lc := ⟨["self", "name", "givens", "rows"], defScope (inClass (top 31) 0), true⟩
theorem SinitP : L2.FnScope LinitP.N ["self", "name", "givens", "rows"] (defScope (inClass (top 31) 0)) := ⟨rfl, rfl, rfl, by decide +kernel, rfl, by decide +kernel, by decide +kernel⟩
def LinitB : Lc := ⟨["self", "plans"], defScope (inClass (top 32) 0), true⟩
theorem SinitB : L2.FnScope LinitB.N ["self", "plans"] (defScope (inClass (top 32) 0)) := ⟨rfl, rfl, rfl, by decide +kernel, rfl, by decide +kernel, by decide +kernel⟩
theorem putF_new {f : Str} {v : V} : ∀ {fs : List (Str × V)}, f ∉ fs.map Prod.fst → L2.putF f v fs = fs ++ [(f, v)]
  | [], _ => rfl
  | (g, x) :: r, h => by
    have h1 : ¬ g = f := fun e => h (by rw [e]; exact List.mem_cons_self)
    show (if g = f then _ else (g, x) :: L2.putF f v r) = _
    rw [if_neg h1, putF_new fun z => h (List.mem_cons_of_mem _ z)]
    rfl
theorem pIns_add {l C : Addr} {rs : List (Str × Rp)} {f : Str} {r : Rp} (hf : f ∉ rs.map Prod.fst) (hl : rs.length < 900) (H0 B H : Hp) (v : V) (h : (pIns l C rs).ok H0 B H) (hv : r.ok B v) :
    ∃ (dx : Addr) (fs : List (Str × V)), OwnAt H0 B H l (.ins C dx fs) ∧ fs.length < 1000 ∧ (pIns l C (rs ++ [(f, r)])).ok H0 B (L2.upd H l (.ins C dx (L2.putF f v fs))) := by
  obtain ⟨dx, fs, ow, e1, e2⟩ := h
  have lf : fs.length = rs.length := by
    have := congrArg List.length e1
    rwa [List.length_map, List.length_map] at this
  refine ⟨dx, fs, ow, by omega, ?_⟩
  rw [putF_new (by rw [e1]; exact hf)]
  refine ⟨dx, fs ++ [(f, v)], ow.upd, ?_, ?_⟩
  · rw [List.map_append, List.map_append, e1]; rfl
  · rw [List.map_append, List.map_append]
    exact e2.append ⟨hv, trivial⟩
abbrev I_plan (Γ : Cg) (C : Cls) : Prop := FnI Γ C.PL 1 "Plan" ["self", "name", "givens", "rows"] (SpI C.PL (fun _ : MPlan => True) (fun p => [rS p.name, rL (p.givens.map rS), rL (p.rows.map rMRow)]) fPlan)
abbrev I_book (Γ : Cg) (C : Cls) : Prop := FnI Γ C.BK 1 "Book" ["self", "plans"] (SpI C.BK (fun _ : MBook => True) (fun b => [rL (b.map (rPlan C))]) fun b => [("plans", rL (b.map (rPlan C)))])
section
variable {Γ : Cg} {C : Cls} (G : Gk Γ C)
include G
theorem w_planinit (D : MkAt Γ "Plan" C.PL (inClass (top 31) 0) "Plan.__init__" ["self", "name", "givens", "rows"]) : I_plan Γ C := by
  refine defI 0 LinitP D SinitP rfl rfl (fun _ => rfl) fun l p _ => ⟨[.dat (rV (.ref l)), .dat (rS p.name), .dat (rL (p.givens.map rS)), .dat (rL (p.rows.map rMRow))], ?_⟩
  refine qs_cons (q1_fld (P2 := pIns l C.PL [("name", rS p.name)]) G.plc (G.pln _ (by decide)) rfl (qe_of (rv 1)) (qe_of (rv 0)) (pIns_add (by simp) (by decide))) ?_
  refine qs_cons (q1_fld (P2 := pIns l C.PL [("name", rS p.name), ("givens", rL (p.givens.map rS))]) G.plc (G.pln _ (by decide)) rfl (qe_of (re_list (G.bi _ (by decide)) (rp_of (rs := p.givens.map rS) (rv 2)))) (qe_of (rv 0)) (pIns_add (rs := [("name", rS p.name)]) (by show ("givens" : Str) ∉ (["name"] : List Str); decide +kernel) (Nat.le_of_ble_eq_true rfl))) ?_
  refine qs_cons (q1_fld (P2 := pIns l C.PL (fPlan p)) G.plc (G.pln _ (by decide)) rfl (qe_of (re_list (G.bi _ (by decide)) (rp_of (rs := p.rows.map rMRow) (rv 3)))) (qe_of (rv 0)) (pIns_add (rs := [("name", rS p.name), ("givens", rL (p.givens.map rS))]) (by show ("rows" : Str) ∉ (["name", "givens"] : List Str); decide +kernel) (Nat.le_of_ble_eq_true rfl))) qs_nil
theorem w_bookinit (D : MkAt Γ "Book" C.BK (inClass (top 32) 0) "Book.__init__" ["self", "plans"]) : I_book Γ C := by
  refine defI 0 LinitB D SinitB rfl rfl (fun _ => rfl) fun l b _ => ⟨[.dat (rV (.ref l)), .dat (rL (b.map (rPlan C)))], ?_⟩
  exact qs_cons (q1_fld (P2 := pIns l C.BK [("plans", rL (b.map (rPlan C)))]) G.bkc G.bkn rfl (qe_of (re_list (G.bi _ (by decide)) (rp_of (rs := b.map (rPlan C)) (rv 1)))) (qe_of (rv 0)) (pIns_add (by simp) (by decide))) qs_nil
end
end K60
/-! text W11 -/
set_option Elab.async false
set_option linter.all false
set_option maxRecDepth 100000
set_option maxHeartbeats 4000000
namespace K60
open PySem PyProof.Rows Rl
open PySem.Spec hiding Row
open L2 (E0 XK Hp V atI ixN inClass defScope upd upd_same upd_ne HO Same)
open TL (tl tl_append ext_tl len_tl mk_tl tl_mk numL tl_num split_join partition_app partition_none tl_join joinL)
/-! ### parted_plans -/
abbrev Made := Int × Str × Str × List NItem
structure Part where
  name : Str
  givens : List Str
  made : List Made
def rMade (m : Made) : Rp := rT [rI m.1, rRec (.made m.2.1 m.2.2.1 m.2.2.2)]
def rPart (p : Part) : Rp := rT [rS p.name, rL (p.givens.map rS), rL (p.made.map rMade)]
abbrev PSt := Option (List Part × Part)
def PSt.all : PSt → List Part
  | none => []
  | some (pre, l) => pre ++ [l]
def partStep (k : Int) (st : PSt) : NRec → PSt
  | .plan n => some (st.all, ⟨n, [], []⟩)
  | .given g => st.map fun x => (x.1, { x.2 with givens := x.2.givens ++ [g] })
  | .made n how items => st.map fun x => (x.1, { x.2 with made := x.2.made ++ [(k + 1, n, how, items)] })
def partsAt (recs : List NRec) : Nat → PSt
  | 0 => none
  | n + 1 => match recs[n]? with
    | some r => partStep n (partsAt recs n) r
    | none => partsAt recs n
def pOpen (p : Addr) (pre : List Part) (l : Part) (z : Addr × Addr × Addr) : Pd :=
  ⟨fun H0 B H => (∃ vs, OwnAt H0 B H p (.lst (vs ++ [.ref z.1])) ∧ Oks B (pre.map rPart) vs) ∧ OwnAt H0 B H z.1 (.tup [.str l.name, .ref z.2.1, .ref z.2.2]) ∧ OwnAt H0 B H z.2.1 (.lst (l.givens.map V.str)) ∧ (∃ wb, OwnAt H0 B H z.2.2 (.lst wb) ∧ Oks B (l.made.map rMade) wb) ∧ z.2.1 ≠ z.2.2 ∧ p ≠ z.2.1 ∧ p ≠ z.2.2,
    fun g ⟨⟨vs, h1, h2⟩, h3, h4, ⟨wb, h5, h6⟩, h7⟩ => ⟨⟨vs, h1.grow g, h2.mono g.b⟩, h3.grow g, h4.grow g, ⟨wb, h5.grow g, h6.mono g.b⟩, h7⟩⟩
def pSt (p : Addr) : PSt → Pd
  | none => pLst p []
  | some (pre, l) => Pd.ex (pOpen p pre l)
theorem same_two {B H : Hp} {a : Addr} {o : HO} (h : Same B H) (e : H a = some o) (hb : B a = none) : Same (upd B a o) H := fun b u z => by
  by_cases hq : b = a
  · subst hq; rw [upd_same] at z; cases z; exact e
  · rw [upd_ne hq] at z; exact h _ _ z
/-- the last one is from here on sure -/
theorem pOpen_close {p : Addr} {pre : List Part} {l : Part} {z : Addr × Addr × Addr} (H0 B H : Hp) (h : (pOpen p pre l z).ok H0 B H) (hB : Same B H) (h0 : Same H0 H) : ∃ B2, Grow B H0 B2 H ∧ (pLst p ((pre ++ [l]).map rPart)).ok H0 B2 H := by
  obtain ⟨⟨vs, h1, h2⟩, h3, h4, ⟨wb, h5, h6⟩, h7, h8, h9⟩ := h
  obtain ⟨q, a, b⟩ := z
  have h7 : a ≠ b := h7
  have qa : q ≠ a := fun e => by have := h3.1; have h4 := h4.1; rw [show (q, a, b).1 = (q, a, b).2.1 from e] at this; rw [this] at h4; cases h4
  have qb : q ≠ b := fun e => by have := h3.1; have h4 := h5.1; rw [show (q, a, b).1 = (q, a, b).2.2 from e] at this; rw [this] at h4; cases h4
  have pq : p ≠ q := fun e => by have := h3.1; have h4 := h1.1; rw [e] at h4; rw [this] at h4; cases h4
  have s1 : Same B (upd B a (.lst (l.givens.map V.str))) := same_new h4.2.1 _
  have n2 : upd B a (.lst (l.givens.map V.str)) b = none := by rw [upd_ne (Ne.symm h7)]; exact h5.2.1
  have s2 := same_new n2 (.lst wb)
  have n3 : upd (upd B a (.lst (l.givens.map V.str))) b (.lst wb) q = none := by rw [upd_ne qb, upd_ne qa]; exact h3.2.1
  have s3 := same_new n3 (.tup [.str l.name, .ref a, .ref b])
  refine ⟨upd (upd (upd B a (.lst (l.givens.map V.str))) b (.lst wb)) q (.tup [.str l.name, .ref a, .ref b]), ⟨(s1.trans s2).trans s3, same_two (same_two (same_two hB h4.1 h4.2.1) h5.1 n2) h3.1 n3, h0, fun c hc => ?_⟩, ⟨vs ++ [.ref q], ⟨h1.1, ?_, h1.2.2⟩, ?_⟩⟩
  · by_cases c1 : c = q
    · subst c1; exact .inr h3.2.2
    · rw [upd_ne c1] at hc
      by_cases c2 : c = b
      · subst c2; exact .inr h5.2.2
      · rw [upd_ne c2] at hc
        by_cases c3 : c = a
        · subst c3; exact .inr h4.2.2
        · rw [upd_ne c3] at hc; exact .inl hc
  · rw [upd_ne pq, upd_ne h9, upd_ne h8]; exact h1.2.1
  · rw [List.map_append]
    refine (h2.mono ((s1.trans s2).trans s3)).append ⟨⟨q, _, rfl, upd_same, rfl, ⟨a, l.givens.map V.str, rfl, ?_, Oks.of (fun _ => rfl) _⟩, ⟨b, wb, rfl, ?_, h6.mono ((s1.trans s2).trans s3)⟩, trivial⟩, trivial⟩
    · rw [upd_ne (Ne.symm qa), upd_ne h7]; exact upd_same
    · rw [upd_ne (Ne.symm qb)]; exact upd_same
theorem pLst_ret {p : Addr} {rs : List Rp} (H0 B H : Hp) (h : (pLst p rs).ok H0 B H) (hB : Same B H) (h0 : Same H0 H) : ∃ B2, Grow B H0 B2 H ∧ (rL rs).ok B2 (.ref p) := by
  obtain ⟨vs, h1, h2⟩ := h
  refine ⟨upd B p (.lst vs), ⟨same_new h1.2.1 _, same_two hB h1.1 h1.2.1, h0, fun c hc => ?_⟩, p, vs, rfl, upd_same, h2.mono (same_new h1.2.1 _)⟩
  by_cases c1 : c = p
  · subst c1; exact .inr h1.2.2
  · rw [upd_ne c1] at hc; exact .inl hc
abbrev P_parted (Γ : Cg) : Prop := Fn0 Γ 1 "parted_plans" ["records"] (Sp0 RecsOk (fun recs => [rL (recs.map rRec)]) fun recs => rL ((partsAt recs recs.length).all.map rPart))
theorem stand_none {recs : List NRec} (h : RecsOk recs) : ∀ n, n ≤ recs.length → (partsAt recs n = none ↔ n = 0) := by
  intro n
  cases n with
  | zero => intro _; exact ⟨fun _ => rfl, fun _ => rfl⟩
  | succ n =>
    intro hn
    refine ⟨fun e => ?_, fun e => by cases e⟩
    exfalso
    have hx : recs[n]? = some recs[n] := List.getElem?_eq_getElem (by omega)
    unfold partsAt at e
    rw [hx] at e
    have hs := h.seq n _ hx
    have ih := (stand_none h n (by omega)).mp
    cases hr : recs[n] with
    | plan m => rw [hr] at e; simp [partStep] at e
    | given g =>
      rw [hr] at e hs
      have hz := ih (by simpa [partStep] using e)
      subst hz
      simp [mayStand, lastOf] at hs
      revert hs
      decide +kernel
    | made m how items =>
      rw [hr] at e hs
      have hz := ih (by simpa [partStep] using e)
      subst hz
      simp [mayStand, lastOf] at hs
theorem pSt_close {p : Addr} (st : PSt) (H0 B H : Hp) (h : (pSt p st).ok H0 B H) (hB : Same B H) (h0 : Same H0 H) : ∃ B2, Grow B H0 B2 H ∧ (pLst p (st.all.map rPart)).ok H0 B2 H := by
  cases st with
  | none => exact ⟨B, (Grow.refl hB).frame h0, h⟩
  | some x =>
    obtain ⟨z, h⟩ := h
    exact pOpen_close H0 B H h hB h0
theorem all_len (recs : List NRec) : ∀ n, (partsAt recs n).all.length ≤ n
  | 0 => Nat.le_refl _
  | n + 1 => by
    have ih := all_len recs n
    unfold partsAt
    cases recs[n]? with
    | none => exact Nat.le_succ_of_le ih
    | some r =>
      cases r with
      | plan m =>
        show ((partsAt recs n).all ++ [_]).length ≤ n + 1
        rw [List.length_append]
        exact Nat.succ_le_succ ih
      | given g =>
        cases e : partsAt recs n with
        | none => exact Nat.zero_le _
        | some x =>
          rw [e] at ih
          show (x.1 ++ [_]).length ≤ n + 1
          have ih : (x.1 ++ [x.2]).length ≤ n := ih
          rw [List.length_append] at ih ⊢
          exact Nat.le_succ_of_le ih
      | made m how items =>
        cases e : partsAt recs n with
        | none => exact Nat.zero_le _
        | some x =>
          rw [e] at ih
          show (x.1 ++ [_]).length ≤ n + 1
          have ih : (x.1 ++ [x.2]).length ≤ n := ih
          rw [List.length_append] at ih ⊢
          exact Nat.le_succ_of_le ih
theorem sub_len (recs : List NRec) : ∀ n, ∀ pre l, partsAt recs n = some (pre, l) → l.givens.length ≤ n ∧ l.made.length ≤ n
  | 0, _, _, e => by cases e
  | n + 1, pre, l, e => by
    have ih := sub_len recs n
    unfold partsAt at e
    cases hr : recs[n]? with
    | none =>
      rw [hr] at e
      have := ih pre l e
      omega
    | some r =>
      rw [hr] at e
      cases r with
      | plan m =>
        cases e
        exact ⟨Nat.zero_le _, Nat.zero_le _⟩
      | given g =>
        cases e2 : partsAt recs n with
        | none => rw [e2] at e; cases e
        | some x =>
          rw [e2] at e
          cases e
          have := ih x.1 x.2 e2
          show (x.2.givens ++ [g]).length ≤ n + 1 ∧ x.2.made.length ≤ n + 1
          rw [List.length_append, List.length_cons, List.length_nil]
          omega
      | made m how items =>
        cases e2 : partsAt recs n with
        | none => rw [e2] at e; cases e
        | some x =>
          rw [e2] at e
          cases e
          have := ih x.1 x.2 e2
          show x.2.givens.length ≤ n + 1 ∧ (x.2.made ++ [_]).length ≤ n + 1
          rw [List.length_append, List.length_cons, List.length_nil]
          omega
end K60
/-! text W12 -/
set_option Elab.async false
set_option linter.all false
set_option maxRecDepth 100000
set_option maxHeartbeats 4000000
namespace K60
open PySem PyProof.Rows Rl
open PySem.Spec hiding Row
open L2 (E0 XK Hp V atI ixN inClass defScope upd upd_same upd_ne HO Same)
section
variable {Γ : Cg} {C : Cls} (G : Gk Γ C)
include G
theorem w_parted (D : DfAt Γ "parted_plans" 58 ["records"]) : P_parted Γ := by
  have key : Fn0 Γ 1 "parted_plans" ["records"] (SpQ RecsOk (fun recs => [rL (recs.map rRec)]) (fun _ => Pd.tt) (fun recs => rL ((partsAt recs recs.length).all.map rPart)) fun _ => Pd.tt) := by
    refine defQ 0 Lparted_plans D Sparted_plans rfl rfl (fun _ => rfl) fun recs hr => ⟨.ret (rL ((partsAt recs recs.length).all.map rPart)) Pd.tt, ⟨rfl, fun _ _ _ h => h⟩, ?_⟩
    have few := hr.few
    refine qs_own 1 rfl (rf_lst ra_nil) fun p => ?_
    refine qs_cons (q1_upto (fun n => [.dat (rL (recs.map rRec)), .dat (rV (.ref p)), .no, .no]) (fun n => pSt p (partsAt recs n)) (fun _ => rfl) rfl rfl (ri_range (n := recs.length) (by omega) (G.bi _ (by decide)) (RE.eq (re_len (G.bi _ (by decide)) (rp_of (rs := recs.map rRec) (rv 0))) (by rw [List.length_map]))) fun n k hk => ?_) ?_
    · obtain ⟨hk1, hk2⟩ := range_at hk
      subst hk2
      have hx : recs[k]? = some recs[k] := List.getElem?_eq_getElem hk1
      have hsn := stand_none hr k (by omega)
      have est : partsAt recs (k + 1) = partStep k (partsAt recs k) recs[k] := by
        show (match recs[k]? with | some r => _ | none => _) = _
        rw [hx]
      have hseq := hr.seq k _ hx
      rw [est]
      generalize recs[k] = r at hx hseq
      have n1 : ("given" : Str) ≠ "plan" := by decide +kernel
      have n2 : ("made" : Str) ≠ "plan" := by decide +kernel
      have n3 : ("made" : Str) ≠ "given" := by decide +kernel
      refine ⟨_, _, _, rg_name 2, rfl, ?_, EnvLe.of (e1 := [.dat (rL (recs.map rRec)), .dat (rV (.ref p)), .dat (rI k), .dat (rRec r)]) ⟨.inr rfl, .inr rfl, .inl rfl, .inl rfl, trivial⟩⟩
      refine qs_cons (q1_of (r1_set 3 (re_ixL (i := k) (atI_nat (by rw [List.getElem?_map, hx]; rfl)) (rp_of (rs := recs.map rRec) (rv 0)) (rv 2)))) ?_
      cases r with
      | plan n =>
        have hl := all_len recs k
        refine qs_freeze rfl (pSt_close (partsAt recs k)) ?_
        refine qs_one (q1_if (k := true) rfl (qt_of (RT.eq (rt_eqS (re_kind G (.plan n) (rv 3)) re_str) (decide_eq_true rfl))) (fun _ => qs_one (q1_append3 (s1 := []) (s2 := []) (t := n) (l := p) true rfl rfl (qg_of (rv 1)) (qg_of (re_ixT (rs := [rS "plan", rS n]) (i := 1) (atI_nat (n := 1) rfl) (rv 3) re_int)) (qf_of (rf_lst ra_nil)) (qf_of (rf_lst ra_nil)) (fun H0 B H B2 H2 q x y h1 h2 hs hq hx hy o3 hxy hqx hqy => ?_) (fun H0 B H ⟨vs, ow, _⟩ => ⟨vs, ow.1⟩))) (fun h => by cases h))
        obtain ⟨vs, ow, hv⟩ := h2
        obtain ⟨vs0, ow0, _⟩ := h1
        have pq : p ≠ q := fun z => by rw [← z, ow0.1] at hq; cases hq
        have px : p ≠ x := fun z => by rw [← z, ow0.1] at hx; cases hx
        have py : p ≠ y := fun z => by rw [← z, ow0.1] at hy; cases hy
        exact ⟨vs, ow, by rw [hv.length, List.length_map]; exact small (by omega), (q, x, y), ⟨vs, ow.upd, hv⟩, o3.1.upd_ne (Ne.symm pq), o3.2.1.upd_ne (Ne.symm px), ⟨[], o3.2.2.upd_ne (Ne.symm py), trivial⟩, hxy, px, py⟩
      | given g =>
        cases e : partsAt recs k with
        | none =>
          have hz := hsn.mp e
          subst hz
          have hf : mayStand (.given g) (lastOf recs 0) = false := by
            show decide (("" : Str) ∈ (["plan", "given"] : List Str)) = false
            decide +kernel
          rw [hf] at hseq
          cases hseq
        | some st =>
          obtain ⟨pre, l⟩ := st
          have hsl := sub_len recs k pre l e
          refine qs_ex fun z => ?_
          have vw : View [.dat (rL (recs.map rRec)), .dat (rV (.ref p)), .dat (rI k), .dat (rRec (.given g))] (pOpen p pre l z) ([.dat (rL (recs.map rRec)), .dat (rV (.ref p)), .dat (rI k), .dat (rRec (.given g))].set 1 (.dat (rL (pre.map rPart ++ [rT [rS l.name, rV (.ref z.2.1), rV (.ref z.2.2)]])))) := view_set rfl rfl fun H0 B H ⟨⟨vs, h1, h2⟩, h3, _⟩ hB => ⟨p, _, rfl, h1.1, (h2.mono hB).append ⟨⟨z.1, _, rfl, h3.1, rfl, rfl, rfl, trivial⟩, trivial⟩⟩
          have hlast : atI (pre.map rPart ++ [rT [rS l.name, rV (.ref z.2.1), rV (.ref z.2.2)]]) (-1) = some (rT [rS l.name, rV (.ref z.2.1), rV (.ref z.2.2)]) := atI_last (by rw [List.length_append]; simp)
          refine qs_one (q1_if (k := false) rfl (qt_of (RT.eq (rt_eqS (re_kind G (.given g) (rv 3)) re_str) (decide_eq_false n1))) (fun h => by cases h) fun _ => qs_one (q1_if (k := true) rfl (qt_of (RT.eq (rt_eqS (re_kind G (.given g) (rv 3)) re_str) (decide_eq_true rfl))) (fun _ => qs_one (q1_append (l := z.2.1) (r := rS g) (P1 := pOpen p pre l z) rfl (qe_look vw (re_ixT (i := 1) (atI_nat (n := 1) rfl) (re_ixL (i := -1) hlast (rp_of (rv 1)) (re_neg re_int)) re_int)) (qe_of (re_ixT (rs := [rS "given", rS g]) (i := 1) (atI_nat (n := 1) rfl) (rv 3) re_int)) (fun H0 B H v h hv => ?_) (fun H0 B H h => ⟨_, h.2.2.1.1⟩))) (fun h => by cases h)))
          obtain ⟨⟨vs, h1, h2⟩, h3, h4, ⟨wb, h5, h6⟩, h7, h8, h9⟩ := h
          have hv : v = .str g := hv
          subst hv
          have qa : z.1 ≠ z.2.1 := fun e => by have := h3.1; rw [e, h4.1] at this; cases this
          refine ⟨_, h4, by rw [List.length_map]; exact small (by omega), z, ⟨vs, h1.upd_ne h8, h2⟩, h3.upd_ne qa, ?_, ⟨wb, h5.upd_ne (Ne.symm h7), h6⟩, h7, h8, h9⟩
          have : (l.givens ++ [g]).map V.str = l.givens.map V.str ++ [V.str g] := by rw [List.map_append]; rfl
          show OwnAt H0 B _ z.2.1 (.lst ((l.givens ++ [g]).map V.str))
          rw [this]
          exact h4.upd
      | made m how items =>
        cases e : partsAt recs k with
        | none =>
          have hz := hsn.mp e
          subst hz
          simp [mayStand, lastOf] at hseq
        | some st =>
          obtain ⟨pre, l⟩ := st
          have hsl := sub_len recs k pre l e
          refine qs_ex fun z => ?_
          have vw : View [.dat (rL (recs.map rRec)), .dat (rV (.ref p)), .dat (rI k), .dat (rRec (.made m how items))] (pOpen p pre l z) ([.dat (rL (recs.map rRec)), .dat (rV (.ref p)), .dat (rI k), .dat (rRec (.made m how items))].set 1 (.dat (rL (pre.map rPart ++ [rT [rS l.name, rV (.ref z.2.1), rV (.ref z.2.2)]])))) := view_set rfl rfl fun H0 B H ⟨⟨vs, h1, h2⟩, h3, _⟩ hB => ⟨p, _, rfl, h1.1, (h2.mono hB).append ⟨⟨z.1, _, rfl, h3.1, rfl, rfl, rfl, trivial⟩, trivial⟩⟩
          have hlast : atI (pre.map rPart ++ [rT [rS l.name, rV (.ref z.2.1), rV (.ref z.2.2)]]) (-1) = some (rT [rS l.name, rV (.ref z.2.1), rV (.ref z.2.2)]) := atI_last (by rw [List.length_append]; simp)
          refine qs_one (q1_if (k := false) rfl (qt_of (RT.eq (rt_eqS (re_kind G (.made m how items) (rv 3)) re_str) (decide_eq_false n2))) (fun h => by cases h) fun _ => qs_one (q1_if (k := false) rfl (qt_of (RT.eq (rt_eqS (re_kind G (.made m how items) (rv 3)) re_str) (decide_eq_false n3))) (fun h => by cases h) fun _ => qs_one (q1_append (l := z.2.2) (r := rMade ((k : Int) + 1, m, how, items)) (P1 := pOpen p pre l z) rfl (qe_look vw (re_ixT (i := 2) (atI_nat (n := 2) rfl) (re_ixL (i := -1) hlast (rp_of (rv 1)) (re_neg re_int)) re_int)) (qe_of (re_tup (ra_cons (re_add (rv 2) re_int) (ra_cons (rv 3) ra_nil)))) (fun H0 B H v h hv => ?_) (fun H0 B H ⟨_, _, _, ⟨wb, h5, _⟩, _⟩ => ⟨wb, h5.1⟩))))
          obtain ⟨⟨vs, h1, h2⟩, h3, h4, ⟨wb, h5, h6⟩, h7, h8, h9⟩ := h
          have qb : z.1 ≠ z.2.2 := fun e => by have := h3.1; rw [e, h5.1] at this; cases this
          refine ⟨_, h5, by rw [h6.length, List.length_map]; exact small (by omega), z, ⟨vs, h1.upd_ne h9, h2⟩, h3.upd_ne qb, h4.upd_ne h7, ⟨wb ++ [v], h5.upd, ?_⟩, h7, h8, h9⟩
          show Oks B ((l.made ++ [((k : Int) + 1, m, how, items)]).map rMade) (wb ++ [v])
          rw [List.map_append]
          exact h6.append ⟨hv, trivial⟩
    · rw [List.length_range]
      refine qs_freeze rfl (pSt_close (partsAt recs recs.length)) ?_
      exact qs_one (q1_retP (P1 := pLst p ((partsAt recs recs.length).all.map rPart)) (v := .ref p) (qe_of (rv 1)) pLst_ret)
  exact fnq_0 key
end
end K60
/-! text W13 -/
set_option Elab.async false
set_option linter.all false
set_option maxRecDepth 100000
set_option maxHeartbeats 4000000
namespace K60
open PySem PyProof.Rows Rl
open PySem.Spec hiding Row
open L2 (E0 XK Hp V atI ixN inClass defScope upd upd_same upd_ne HO Same)
/-! ### plans of the records -/
def itemsTo (nums : List (Str × Int)) (items : List NItem) : Option Row := items.mapM fun q => (nums.lookup q.1).map fun k => (k, q.2)
def rowTo (nums : List (Str × Int)) (m : Made) : Option MRow := (itemsTo nums m.2.2.2).map fun its => ⟨m.2.1, m.2.2.1, its⟩
def resRow (C : Cls) : Option MRow → Res
  | some r => .ok (rMRow r)
  | none => .err (xcA C.NN)
abbrev P_row_of (Γ : Cg) (C : Cls) : Prop := FnX Γ 1 "row_of" ["numbers", "row", "record"] (SpX (fun x : List (Str × Int) × Made => x.2.2.2.2.length ≤ 1000) (fun x => [rD (kvS x.1), rI x.2.1, rRec (.made x.2.2.1 x.2.2.2.1 x.2.2.2.2)]) fun x => resRow C (rowTo x.1 x.2))
def partNames (p : Part) : List Str := p.givens ++ p.made.map fun m => m.2.1
def numsOf (names : List Str) : List (Str × Int) := names.zipIdx.map fun q => (q.1, (q.2 : Int))
def planTo (p : Part) : Option MPlan := (p.made.mapM (rowTo (numsOf (partNames p)))).map fun rows => ⟨p.name, p.givens, rows⟩
def resPlan (C : Cls) : Option MPlan → Res
  | some p => .ok (rPlan C p)
  | none => .err (xcA C.NN)
structure PartOk (p : Part) : Prop where
  nd : (partNames p).Nodup
  few : (partNames p).length ≤ 1000
  items : ∀ m ∈ p.made, m.2.2.2.length ≤ 1000
abbrev P_plan_of (Γ : Cg) (C : Cls) : Prop := FnX Γ 3 "plan_of" ["name", "givens", "made"] (SpX PartOk (fun p => [rS p.name, rL (p.givens.map rS), rL (p.made.map rMade)]) fun p => resPlan C (planTo p))
theorem mapM_none {α β : Type} {g : α → Option β} : ∀ {xs : List α}, xs.mapM g = none → ∃ (N : Nat) (x : α), xs[N]? = some x ∧ g x = none ∧ ∀ (i : Nat) (y : α), i < N → xs[i]? = some y → (g y).isSome = true
  | [], e => by simp at e
  | x :: xs, e => by
    rw [List.mapM_cons] at e
    cases e1 : g x with
    | none => exact ⟨0, x, rfl, e1, fun i y hi => absurd hi (Nat.not_lt_zero _)⟩
    | some y =>
      rw [e1] at e
      cases e2 : xs.mapM g with
      | some zs => rw [e2] at e; cases e
      | none =>
        obtain ⟨N, z, h1, h2, h3⟩ := mapM_none e2
        refine ⟨N + 1, z, by simpa using h1, h2, fun i y hi hy => ?_⟩
        cases i with
        | zero =>
          have : x = y := by simpa using hy
          rw [← this, e1]; rfl
        | succ i => exact h3 i y (by omega) (by simpa using hy)
theorem mapM_some {α β : Type} {g : α → Option β} (d : β) : ∀ {xs : List α} {ys : List β}, xs.mapM g = some ys → (∀ x ∈ xs, (g x).isSome = true) ∧ ys = xs.map fun x => (g x).getD d
  | [], ys, e => by
    have : ys = [] := by simpa using e.symm
    subst this
    exact ⟨fun x hx => (by cases hx), rfl⟩
  | x :: xs, ys, e => by
    rw [List.mapM_cons] at e
    cases e1 : g x with
    | none => rw [e1] at e; cases e
    | some y =>
      rw [e1] at e
      cases e2 : xs.mapM g with
      | none => rw [e2] at e; cases e
      | some zs =>
        rw [e2] at e
        have e : some (y :: zs) = some ys := e
        cases e
        obtain ⟨h1, h2⟩ := mapM_some d e2
        refine ⟨fun z hz => ?_, ?_⟩
        · rcases List.mem_cons.mp hz with rfl | hz
          · rw [e1]; rfl
          · exact h1 z hz
        · rw [List.map_cons, e1, ← h2]; rfl
theorem opt_some {α : Type} {o : Option α} (d : α) (h : o.isSome = true) : o = some (o.getD d) := by
  cases o with
  | none => cases h
  | some x => rfl
theorem numsOf_take {names : List Str} {k : Nat} {s : Str} (h : names[k]? = some s) : (numsOf names).take (k + 1) = (numsOf names).take k ++ [(s, (k : Int))] := by
  unfold numsOf
  rw [List.take_add_one, List.getElem?_map, List.getElem?_zipIdx, h]
  simp
theorem numsOf_fst (names : List Str) : (numsOf names).map Prod.fst = names := by
  unfold numsOf
  rw [List.map_map]
  show names.zipIdx.map Prod.fst = names
  exact List.zipIdx_map_fst ..
section
variable {Γ : Cg} {C : Cls} (G : Gk Γ C)
include G
theorem w_row_of (D : DfAt Γ "row_of" 60 ["numbers", "row", "record"]) : P_row_of Γ C := by
  refine defX 0 Lrow_of D Srow_of rfl rfl (fun _ => rfl) fun E ⟨nums, k, n, how, items⟩ hl => ?_
  obtain ⟨fI, nn⟩ := G.nn
  have hl : items.length ≤ 1000 := hl
  refine ⟨.opt (fun its => .ret (rMRow ⟨n, how, its⟩)) (xcA C.NN) (items.foldlM (fun b q => ((nums.lookup q.1).map fun k => (k, q.2)).map fun m => b ++ [m]) []), ?_, ?_⟩
  · show RetO _ (resRow C (rowTo nums (k, n, how, items)))
    unfold rowTo itemsTo
    rw [foldM_mapM]
    cases items.mapM fun q => (nums.lookup q.1).map fun k => (k, q.2) <;> rfl
  refine rs_cons (r1_own 3 (rf_lst ra_nil)) ?_
  refine rs_foldM (fun b : Row => [.dat (rD (kvS nums)), .dat (rI k), .dat (rRec (.made n how items)), .aL (b.map rPr), .no, .no]) _ (xcA C.NN) (fun k b => b.length = k) [] _ rfl rfl (ri_tup (f := rItem) (xs := items) (re_ixT (rs := [rS "made", rS n, rS how, rT (items.map rItem)]) (i := 3) (atI_nat (n := 3) rfl) (rv 2) re_int)) (fun j b q b' hq hj hI hg => ?_) (fun j b q hq hj hI hg => ?_) fun b hb _ => ?_
  · cases e : nums.lookup q.1 with
    | none => simp only [e] at hg; cases hg
    | some w =>
      have hg : some (b ++ [(w, q.2)]) = some b' := by simp only [e] at hg; exact hg
      cases hg
      have le : lookR (kvS nums) (Sum.inr q.1) = some (rI w) := by unfold kvS; rw [look_ah, e]; rfl
      have hl2 := (List.getElem?_eq_some_iff.mp hj).1
      refine ⟨.nx (rg_tup (rgs_cons (rg_name 4) (rgs_cons (rg_name 5) rgs_nil))) (rs_cons (r1_if (k := false) (RT.eq (rt_niD (k := Sum.inr q.1) (rv 4) (rd_of (rv 0))) (by rw [le]; rfl)) (fun h => by cases h) fun _ => rs_nil) (rs_one (r1_append 3 (re_tup (ra_cons (re_ixD le (rd_of (rv 0)) (rv 4)) (ra_cons (rv 5) ra_nil))) ?_))) ?_, by rw [List.length_append, hI]; rfl⟩
      · rw [List.length_map]; omega
      · refine ⟨.inr rfl, .inr rfl, .inr rfl, .inr ?_, .inl rfl, .inl rfl, trivial⟩
        show Sl.aL _ = Sl.aL _
        rw [List.map_append]
        rfl
  · cases e : nums.lookup q.1 with
    | some w => simp only [e] at hg; cases hg
    | none =>
      have le : lookR (kvS nums) (Sum.inr q.1) = none := by unfold kvS; rw [look_ah, e]; rfl
      exact .err (rg_tup (rgs_cons (rg_name 4) (rgs_cons (rg_name 5) rgs_nil))) (rs_stop (r1_if (k := true) (RT.eq (rt_niD (k := Sum.inr q.1) (rv 4) (rd_of (rv 0))) (by rw [le]; rfl)) (fun _ => rs_one (r1_raiseNn nn (rv 1))) fun h => by cases h))
  · exact rs_one (r1_ret (re_tup (ra_cons (re_ixT (rs := [rS "made", rS n, rS how, rT (items.map rItem)]) (i := 1) (atI_nat (n := 1) rfl) (rv 2) re_int) (ra_cons (re_ixT (rs := [rS "made", rS n, rS how, rT (items.map rItem)]) (i := 2) (atI_nat (n := 2) rfl) (rv 2) re_int) (ra_cons (re_tuple (G.bi _ (by decide)) (rp_acc 3)) ra_nil)))))
theorem w_plan_of (FR : P_row_of Γ C) (IP : I_plan Γ C) (D : DfAt Γ "plan_of" 59 ["name", "givens", "made"]) : P_plan_of Γ C := by
  refine defX 2 Lplan_of D Splan_of rfl rfl (fun _ => rfl) fun E p hp => ?_
  have few := hp.few
  have gl : p.givens.length + p.made.length ≤ 1000 := by
    have := few
    unfold partNames at this
    rwa [List.length_append, List.length_map] at this
  have head : ∀ {rest o}, RS Γ Lplan_of ⟨E, 2⟩ rest [.dat (rS p.name), .dat (rL (p.givens.map rS)), .dat (rL (p.made.map rMade)), .dat (rL ((partNames p).map rS)), .no, .no, .dat (rD (kvS (numsOf (partNames p)))), .no] o → rest = List.drop 3 (L2.defBody (top 59)) → RS Γ Lplan_of ⟨E, 2⟩ (L2.defBody (top 59)) (Rl.envOf Lplan_of [rS p.name, rL (p.givens.map rS), rL (p.made.map rMade)]) o := fun {rest o} h er => by
    subst er
    refine rs_cons (r1_set 3 (RE.eq (re_addl (xs := p.givens.map rS) ?_ (rv 1) (rf_lc (h := fun m => rS m.2.1) [("row", 4), ("record", 5)] (ri_list (f := rMade) (xs := p.made) (rv 2)) (fun m hm => rg_tup (rgs_cons (rg_name 4) (rgs_cons (rg_name 5) rgs_nil))) (fun m hm => re_ixT (rs := [rS "made", rS m.2.1, rS m.2.2.1, rT (m.2.2.2.map rItem)]) (i := 1) (atI_nat (n := 1) rfl) (rv 5) re_int) (small (by omega))).re) ?_)) (rs_cons (r1_ownD 6 rfd_new) (rs_cons (r1_upto (fun n => [.dat (rS p.name), .dat (rL (p.givens.map rS)), .dat (rL (p.made.map rMade)), .dat (rL ((partNames p).map rS)), .no, .no, .aD (kvS ((numsOf (partNames p)).take n)), .no]) rfl (ri_range (n := (partNames p).length) (by omega) (G.bi _ (by decide)) (RE.eq (re_len (G.bi _ (by decide)) (rp_of (rs := (partNames p).map rS) (rv 3))) (by rw [List.length_map]))) fun n k hk => ?_) (RS.freezeD 6 (kvs := kvS ((numsOf (partNames p)).take (List.range (partNames p).length).length)) rfl ?_)))
    · rw [List.length_map, List.length_map]; exact le16 (k := 1000) gl
    · unfold partNames
      rw [List.map_append, List.map_map]; rfl
    · obtain ⟨hk1, hk2⟩ := range_at hk
      subst hk2
      have hx : (partNames p)[k]? = some (partNames p)[k] := List.getElem?_eq_getElem hk1
      generalize (partNames p)[k] = s at hx
      have hnone : ((numsOf (partNames p)).take k).lookup s = none := by
        cases e : ((numsOf (partNames p)).take k).lookup s with
        | none => rfl
        | some w =>
          exfalso
          have hm := lookup_mem e
          have hm2 : s ∈ ((numsOf (partNames p)).take k).map Prod.fst := List.mem_map.mpr ⟨_, hm, rfl⟩
          rw [List.map_take, numsOf_fst] at hm2
          obtain ⟨i, hi⟩ := List.mem_iff_getElem?.mp hm2
          have hik : i < k := by
            have := (List.getElem?_eq_some_iff.mp hi).1
            rw [List.length_take] at this
            omega
          rw [List.getElem?_take_of_lt hik] at hi
          have h1 := (List.getElem?_eq_some_iff.mp hi)
          have h2 := (List.getElem?_eq_some_iff.mp hx)
          obtain ⟨h1a, h1b⟩ := h1
          obtain ⟨h2a, h2b⟩ := h2
          exact List.pairwise_iff_getElem.mp hp.nd i k h1a h2a hik (by rw [h1b, h2b])
      have le : lookR (kvS ((numsOf (partNames p)).take k)) (Sum.inr s) = none := by unfold kvS; rw [look_ah, hnone]; rfl
      refine .nx (rg_name 7) (rs_one (r1_setdefault 6 (k := Sum.inr s) (re_ixL (i := k) (atI_nat (by rw [List.getElem?_map, hx]; rfl)) (rp_of (rs := (partNames p).map rS) (rv 3)) (rv 7)) (rv 7) ?_)) ?_
      · unfold kvS
        rw [List.length_map, List.length_take]
        omega
      · refine ⟨.inr rfl, .inr rfl, .inr rfl, .inr rfl, .inr rfl, .inr rfl, .inr ?_, .inl rfl, trivial⟩
        show Sl.aD (if _ then _ else _) = Sl.aD _
        rw [le, if_neg (by decide), numsOf_take hx]
        unfold kvS
        rw [List.map_append]
        rfl
    · have e : (numsOf (partNames p)).take (List.range (partNames p).length).length = numsOf (partNames p) := by
        rw [List.length_range]
        exact List.take_of_length_le (by
          have := congrArg List.length (numsOf_fst (partNames p))
          rw [List.length_map] at this
          omega)
      rw [e]
      exact h
  have itok : ∀ m ∈ p.made, m.2.2.2.length ≤ 1000 := hp.items
  cases e : p.made.mapM (rowTo (numsOf (partNames p))) with
  | some rows =>
    obtain ⟨h1, h2⟩ := mapM_some ⟨"", "", []⟩ e
    refine ⟨.ret (rPlan C ⟨p.name, p.givens, rows⟩), by show RetO _ (resPlan C (planTo p)); unfold planTo; rw [e]; rfl, head ?_ rfl⟩
    refine rs_one (r1_ret (re_make IP ⟨p.name, p.givens, rows⟩ trivial (ra_cons (rv 0) (ra_cons (rv 1) (ra_cons (RE.eq (rf_lcX FR (h := fun m => rMRow ((rowTo (numsOf (partNames p)) m).getD ⟨"", "", []⟩)) [("row", 4), ("record", 5)] (fun m => (numsOf (partNames p), m)) (ri_list (f := rMade) (xs := p.made) (rv 2)) (fun m hm => rg_tup (rgs_cons (rg_name 4) (rgs_cons (rg_name 5) rgs_nil))) (fun m hm => ra_cons (rv 6) (ra_cons (rv 4) (ra_cons (rv 5) ra_nil))) (fun m hm => itok m hm) (fun m hm => ?_) (small (by omega))).re ?_) ra_nil)))))
    · show resRow C (rowTo (numsOf (partNames p)) m) = _
      rw [opt_some ⟨"", "", []⟩ (h1 m hm)]
      rfl
    · rw [h2, List.map_map]; rfl
  | none =>
    obtain ⟨N, x, h1, h2, h3⟩ := mapM_none e
    refine ⟨.err (xcA C.NN), by show RetO _ (resPlan C (planTo p)); unfold planTo; rw [e]; rfl, head ?_ rfl⟩
    refine rs_one (r1_xret (rx_mkArg IP (rxa_next (rv 0) (rxa_next (rv 1) (rxa_here (rx_lcX FR [("row", 4), ("record", 5)] (fun m => (numsOf (partNames p), m)) N (fun m => rMRow ((rowTo (numsOf (partNames p)) m).getD ⟨"", "", []⟩)) (ri_list (f := rMade) (xs := p.made) (rv 2)) (fun m hm => rg_tup (rgs_cons (rg_name 4) (rgs_cons (rg_name 5) rgs_nil))) (fun m hm => ra_cons (rv 6) (ra_cons (rv 4) (ra_cons (rv 5) ra_nil))) (fun i m hm _ => itok m (List.mem_of_getElem? hm)) (fun i m hm hi => ?_) ⟨x, h1, ?_⟩ (small (by omega))))))))
    · show resRow C (rowTo (numsOf (partNames p)) m) = _
      rw [opt_some ⟨"", "", []⟩ (h3 i m hi hm)]
      rfl
    · show resRow C (rowTo (numsOf (partNames p)) x) = _
      rw [h2]; rfl
end
end K60
/-! text W14 -/
set_option Elab.async false
set_option linter.all false
set_option maxRecDepth 100000
set_option maxHeartbeats 4000000
namespace K60
open PySem PyProof.Rows Rl
open PySem.Spec hiding Row
open L2 (E0 XK Hp V atI ixN inClass defScope upd upd_same upd_ne HO Same)
open TL (tl tl_append ext_tl len_tl mk_tl tl_mk numL tl_num split_join partition_app partition_none tl_join joinL)
/-! ### read -/
def nlS : Str := "\n"
theorem tl_nl : tl nlS = 10 :: [] := by decide +kernel
def bookText (recs : List NRec) : Str := Txt.join nlS (recs.map recText)
theorem nm_nl {n : Str} (h : isName n = true) : 10 ∉ tl n := (isName_facts h).free
theorem how_nl {h : Str} (p : HowOk h) : 10 ∉ tl h := by
  rcases p with p | p
  · rcases plain_cases p with rfl | rfl <;> decide +kernel
  · exact nm_nl p
theorem nmem_app {a b : Str} {c : Nat} (h1 : c ∉ tl a) (h2 : c ∉ tl b) : c ∉ tl (a ++ b) := by
  rw [tl_append]
  intro h
  rcases List.mem_append.mp h with h | h
  · exact h1 h
  · exact h2 h
theorem sp_nl : 10 ∉ tl sp := by rw [tl_sp]; decide
theorem recText_free {r : NRec} (h : RecOk r) : 10 ∉ tl (recText r) := by
  cases r with
  | plan n => exact nmem_app (nmem_app (by decide +kernel) sp_nl) (nm_nl h)
  | given n => exact nmem_app sp_nl (nmem_app (nmem_app (by decide +kernel) sp_nl) (nm_nl h))
  | made n how items =>
    obtain ⟨h1, h2, h3⟩ := h
    refine nmem_app sp_nl (nmem_app (nmem_app (nm_nl h1) sp_nl) ?_)
    unfold madeRest
    split
    · exact nmem_app (nmem_app (how_nl h2) sp_nl) (itemsText_free h3)
    · exact nmem_app (nmem_app (by decide +kernel) sp_nl) (nmem_app (nmem_app (how_nl h2) sp_nl) (itemsText_free h3))
theorem recText_len {r : NRec} (h : RecOk r) : (recText r).length ≤ 2200 := by
  cases r with
  | plan n =>
    have := (isName_facts h).len
    show (planS ++ sp ++ n).length ≤ 2200
    rw [str_len_app, str_len_app, sp_len]
    have : planS.length = 4 := by decide +kernel
    omega
  | given n =>
    have := (isName_facts h).len
    show (sp ++ (givenS ++ sp ++ n)).length ≤ 2200
    rw [str_len_app, str_len_app, str_len_app, sp_len]
    have : givenS.length = 5 := by decide +kernel
    omega
  | made n how items =>
    obtain ⟨h1, h2, h3⟩ := h
    have := (isName_facts h1).len
    have := madeRest_len h2 h3
    show (sp ++ (n ++ sp ++ madeRest how items)).length ≤ 2200
    rw [str_len_app, str_len_app, str_len_app, sp_len]
    omega
theorem bookText_len {recs : List NRec} (h : RecsOk recs) : (bookText recs).length + 2 ≤ 16777216 := by
  have h1 := join_len nlS (recs.map recText)
  have h2 : ((recs.map recText).map (·.length)).sum ≤ (recs.map recText).length * 2200 := sumlen_le fun x hx => by
    obtain ⟨q, hq, rfl⟩ := List.mem_map.mp hx
    exact recText_len (h.ok q hq)
  have h3 : nlS.length = 1 := by rw [len_tl, tl_nl]; rfl
  rw [List.length_map] at h1 h2
  rw [h3] at h1
  have := h.few
  unfold bookText
  omega
theorem book_split {recs : List NRec} (h : RecsOk recs) (hne : recs ≠ []) : Txt.split (bookText recs) nlS = recs.map recText := split_join tl_nl (by decide +kernel) (fun z => hne (by simpa using z)) fun p hp => by
  obtain ⟨q, hq, rfl⟩ := List.mem_map.mp hp
  exact recText_free (h.ok q hq)
def partsOfRecs (recs : List NRec) : List Part := (partsAt recs recs.length).all
def bookTo (recs : List NRec) : Option MBook := (partsOfRecs recs).mapM planTo
structure ReadPre (recs : List NRec) : Prop where
  ok : RecsOk recs
  ne : recs ≠ []
  parts : ∀ p ∈ partsOfRecs recs, PartOk p
  look : ∀ b, bookTo recs = some b → LookPre b
def readRes (C : Cls) (recs : List NRec) : Res := match bookTo recs with
  | none => .err (xcA C.NN)
  | some b => if namesOk (b.map (·.name)) then (if partsOkB b then .ok (rBook C b) else .err (xc0 C.BQ)) else .err (xc0 C.BN)
abbrev P_read (Γ : Cg) (C : Cls) : Prop := FnX Γ 7 "read" ["text"] (SpX ReadPre (fun recs => [rS (bookText recs)]) (readRes C))
section
variable {Γ : Cg} {C : Cls} (G : Gk Γ C)
include G
theorem w_read (FP : P_placed Γ) (FT : P_parted Γ) (FL : P_plan_of Γ C) (IB : I_book Γ C) (FK : P_looked Γ C) (D : DfAt Γ "read" 61 ["text"]) : P_read Γ C := by
  refine defX 6 Lread D Sread rfl rfl (fun _ => rfl) fun E recs hp => ?_
  have few := hp.ok.few
  have bl := bookText_len hp.ok
  have plen : (partsOfRecs recs).length ≤ 1000 := Nat.le_trans (all_len recs recs.length) few
  have head : ∀ {rest o}, RS Γ Lread ⟨E, 6⟩ rest [.dat (rS (bookText recs)), .dat (rL ((partsOfRecs recs).map rPart)), .no, .no, .no, .no] o → rest = List.drop 1 (L2.defBody (top 61)) → RS Γ Lread ⟨E, 6⟩ (L2.defBody (top 61)) (Rl.envOf Lread [rS (bookText recs)]) o := fun {rest o} h er => by
    subst er
    refine rs_cons (r1_set 1 (re_call FT recs hp.ok (ra_cons (re_call FP recs hp.ok (ra_cons (RE.eq (rf_split (z := bookText recs) (y := nlS) (by decide +kernel) (by rw [sizeLine_eq]; exact bl) (rv 0) re_str).re ?_) ra_nil)) ra_nil))) h
    rw [book_split hp.ok hp.ne, List.map_map]; rfl
  cases e : bookTo recs with
  | none =>
    obtain ⟨N, x, h1, h2, h3⟩ := mapM_none e
    refine ⟨.err (xcA C.NN), by show RetO _ (readRes C recs); unfold readRes; rw [e]; rfl, head ?_ rfl⟩
    refine rs_stop (r1_xset (rx_mkArg IB (rxa_here (rx_lcX FL [("name", 3), ("givens", 4), ("made", 5)] (fun p => p) N (fun p => rPlan C ((planTo p).getD ⟨"", [], []⟩)) (ri_list (f := rPart) (xs := partsOfRecs recs) (rv 1)) (fun p hp => rg_tup (rgs_cons (rg_name 3) (rgs_cons (rg_name 4) (rgs_cons (rg_name 5) rgs_nil)))) (fun p hp => ra_cons (rv 3) (ra_cons (rv 4) (ra_cons (rv 5) ra_nil))) (fun i p hpi _ => hp.parts p (List.mem_of_getElem? hpi)) (fun i p hpi hi => ?_) ⟨x, h1, by rw [h2]; rfl⟩ (small plen)))) 2)
    rw [opt_some ⟨"", [], []⟩ (h3 i p hi hpi)]
    rfl
  | some b =>
    obtain ⟨h1, h2⟩ := mapM_some (⟨"", [], []⟩ : MPlan) e
    have lp := hp.look b e
    have mk : ∀ {rest o}, RS Γ Lread ⟨E, 6⟩ rest [.dat (rS (bookText recs)), .dat (rL ((partsOfRecs recs).map rPart)), .dat (rBook C b), .no, .no, .no] o → rest = List.drop 2 (L2.defBody (top 61)) → RS Γ Lread ⟨E, 6⟩ (List.drop 1 (L2.defBody (top 61))) [.dat (rS (bookText recs)), .dat (rL ((partsOfRecs recs).map rPart)), .no, .no, .no, .no] o := fun {rest o} h er => by
      subst er
      refine rs_cons (r1_set 2 (re_make IB b trivial (ra_cons (RE.eq (rf_lcX FL (h := fun p => rPlan C ((planTo p).getD ⟨"", [], []⟩)) [("name", 3), ("givens", 4), ("made", 5)] (fun p => p) (ri_list (f := rPart) (xs := partsOfRecs recs) (rv 1)) (fun p hp => rg_tup (rgs_cons (rg_name 3) (rgs_cons (rg_name 4) (rgs_cons (rg_name 5) rgs_nil)))) (fun p hp => ra_cons (rv 3) (ra_cons (rv 4) (ra_cons (rv 5) ra_nil))) (fun p hpi => hp.parts p hpi) (fun p hpi => by rw [opt_some ⟨"", [], []⟩ (h1 p hpi)]; rfl) (small plen)).re ?_) ra_nil))) h
      rw [h2, List.map_map]; rfl
    cases hn : namesOk (b.map (·.name)) with
    | false =>
      refine ⟨.err (xc0 C.BN), by show RetO _ (readRes C recs); unfold readRes; rw [e]; dsimp only; rw [hn]; rfl, head (mk ?_ rfl) rfl⟩
      exact rs_stop (r1_xexpr (rx_callX FK b lp (by unfold lookedRes; rw [hn]; rfl) (ra_cons (rv 2) ra_nil)))
    | true =>
      cases hq : partsOkB b with
      | false =>
        refine ⟨.err (xc0 C.BQ), by show RetO _ (readRes C recs); unfold readRes; rw [e]; dsimp only; rw [hn, hq]; rfl, head (mk ?_ rfl) rfl⟩
        exact rs_stop (r1_xexpr (rx_callX FK b lp (by unfold lookedRes; rw [hn, hq]; rfl) (ra_cons (rv 2) ra_nil)))
      | true =>
        refine ⟨.ret (rBook C b), by show RetO _ (readRes C recs); unfold readRes; rw [e]; dsimp only; rw [hn, hq]; rfl, head (mk ?_ rfl) rfl⟩
        exact rs_cons (r1_expr (re_callX FK b lp (by unfold lookedRes; rw [hn, hq]; rfl) (ra_cons (rv 2) ra_nil))) (rs_one (r1_ret (rv 2)))
end
end K60
/-! text W15 -/
set_option Elab.async false
set_option linter.all false
set_option maxRecDepth 100000
set_option maxHeartbeats 4000000
namespace K60
open PySem PyProof.Rows Rl
open PySem.Spec hiding Row
open L2 (E0 XK Hp V atI ixN inClass defScope upd upd_same upd_ne HO Same)
/-! ### judged -/
abbrev DEEP : Nat := 11
def toldI (b : MBook) (most : Int) (name : Str) : Option Form := lastF (formsN b most DEEP name)
def rPair (mine theirs : Form) (many : Int) : Rp := rT [rOH (laterI theirs mine 1 many), rOH (laterI mine theirs 1 many)]
structure BookPre (recs : List NRec) : Prop where
  rd : ReadPre recs
  good : ∀ b, bookTo recs = some b → namesOk (b.map (·.name)) = true → partsOkB b = true → BookGood b ∧ b.length ≤ DEEP
structure JIn where
  recs : List NRec
  one : Str
  other : Str
  most : Int
/-- what comes of it, the book read -/
inductive JOut where
  | err (k : XC)
  | ok (mine theirs : Form) (many : Nat)
def JOut.res : JOut → Res
  | .err k => .err k
  | .ok a b m => .ok (rPair a b m)
def judgeBook (C : Cls) (b : MBook) (one other : Str) (most : Int) : JOut := match planBy b one with
  | none => .err (xc0 C.NP)
  | some p => match planBy b other with
    | none => .err (xc0 C.NP)
    | some q => if q.givens.length = p.givens.length then (match toldI b most one with
        | none => .err (xc0 C.TM)
        | some mine => match toldI b most other with
          | none => .err (xc0 C.TM)
          | some theirs => .ok mine theirs p.givens.length)
      else .err (xc0 C.UL)
def judgeI (C : Cls) (x : JIn) : JOut := match bookTo x.recs with
  | none => .err (xcA C.NN)
  | some b => if namesOk (b.map (·.name)) then (if partsOkB b then judgeBook C b x.one x.other x.most else .err (xc0 C.BQ)) else .err (xc0 C.BN)
abbrev P_judged (Γ : Cg) (C : Cls) : Prop := FnX Γ 41 "judged" ["text", "one", "other", "most"] (SpX (fun x : JIn => BookPre x.recs ∧ x.most ≤ 8 ∧ 1 ≤ x.most) (fun x => [rS (bookText x.recs), rS x.one, rS x.other, rI x.most]) fun x => (judgeI C x).res)
theorem planBy_deep {b : MBook} (hl : b.length ≤ DEEP) {name : Str} {p : MPlan} (h : planBy b name = some p) : Deep b DEEP name ∧ ∃ i, i < DEEP ∧ b[i]? = some p ∧ p.name = name := by
  obtain ⟨hm, hn⟩ := planBy_mem h
  obtain ⟨i, hi⟩ := List.mem_iff_getElem?.mp hm
  have hil := (List.getElem?_eq_some_iff.mp hi).1
  exact ⟨⟨i, p, by omega, hi, hn⟩, i, by omega, hi, hn⟩
theorem told_good {b : MBook} (hb : BookGood b) {most : Int} (hm : most ≤ 8) (hl : b.length ≤ DEEP) {name : Str} {p : MPlan} (hp : planBy b name = some p) {f : Form} (h : toldI b most name = some f) : FormGood p.givens.length f := by
  obtain ⟨_, i, hi, hbi, hn⟩ := planBy_deep hl hp
  unfold toldI lastF at h
  cases e : formsN b most DEEP name with
  | none => rw [e] at h; cases h
  | some fs =>
    rw [e] at h
    have h : fs.getLastD [] = f := Option.some.inj h
    subst hn
    obtain ⟨p2, e2, e3, e4⟩ := forms_good hb hm DEEP i p fs hi hbi e
    rw [hp] at e2
    cases e2
    have fne : fs ≠ [] := fun z => by
      rw [z] at e3
      exact (hb.plan i p hbi).rne (List.eq_nil_of_length_eq_zero (by have e3 : 0 = p.givens.length + p.rows.length := e3; omega))
    rw [← h]
    exact e4 _ (getLastD_mem fne)
section
variable {Γ : Cg} {C : Cls} (G : Gk Γ C)
include G
theorem w_judged (FR : P_read Γ C) (FB : P_plan_by Γ C) (FT : P_told Γ C DEEP) (FC : P_compared Γ) (D : DfAt Γ "judged" 63 ["text", "one", "other", "most"]) : P_judged Γ C := by
  refine defX 40 Ljudged D Sjudged rfl rfl (fun _ => rfl) fun E ⟨recs, one, other, most⟩ ⟨hp, hm, hm1⟩ => ?_
  have hm : most ≤ 8 := hm
  have hm1 : 1 ≤ most := hm1
  have hp : BookPre recs := hp
  have bad : ∀ k, readRes C recs = .err k → (judgeI C ⟨recs, one, other, most⟩).res = .err k → ∃ o, RetO o ((judgeI C ⟨recs, one, other, most⟩).res) ∧ RS Γ Ljudged ⟨E, 40⟩ (L2.defBody (top 63)) (Rl.envOf Ljudged [rS (bookText recs), rS one, rS other, rI most]) o := fun k h1 h2 =>
    ⟨.err k, by rw [h2]; rfl, rs_stop (r1_xset (rx_callX FR recs hp.rd h1 (ra_cons (rv 0) ra_nil)) 4)⟩
  cases eb : bookTo recs with
  | none => exact bad (xcA C.NN) (by unfold readRes; rw [eb]) (by unfold judgeI; dsimp only; rw [eb]; rfl)
  | some b =>
    cases hn : namesOk (b.map (·.name)) with
    | false => exact bad (xc0 C.BN) (by unfold readRes; rw [eb]; dsimp only; rw [hn]; rfl) (by unfold judgeI; dsimp only; rw [eb]; dsimp only; rw [hn]; rfl)
    | true =>
      cases hq : partsOkB b with
      | false => exact bad (xc0 C.BQ) (by unfold readRes; rw [eb]; dsimp only; rw [hn, hq]; rfl) (by unfold judgeI; dsimp only; rw [eb]; dsimp only; rw [hn, hq]; rfl)
      | true =>
        obtain ⟨bg, bl⟩ := hp.good b eb hn hq
        have ej : judgeI C ⟨recs, one, other, most⟩ = judgeBook C b one other most := by unfold judgeI; dsimp only; rw [eb]; dsimp only; rw [hn, hq]; rfl
        have rd : ∀ {rest o}, RS Γ Ljudged ⟨E, 40⟩ rest [.dat (rS (bookText recs)), .dat (rS one), .dat (rS other), .dat (rI most), .dat (rBook C b), .no, .no, .no] o → rest = List.drop 1 (L2.defBody (top 63)) → RS Γ Ljudged ⟨E, 40⟩ (L2.defBody (top 63)) (Rl.envOf Ljudged [rS (bookText recs), rS one, rS other, rI most]) o := fun {rest o} h er => by
          subst er
          exact rs_cons (r1_set 4 (re_callX FR recs hp.rd (by unfold readRes; rw [eb]; dsimp only; rw [hn, hq]; rfl) (ra_cons (rv 0) ra_nil))) h
        show ∃ o, RetO o ((judgeI C ⟨recs, one, other, most⟩).res) ∧ _
        rw [ej]
        unfold judgeBook
        cases e1 : planBy b one with
        | none =>
          refine ⟨.err (xc0 C.NP), rfl, rd ?_ rfl⟩
          exact rs_stop (r1_xset (rx_len (G.bi _ (by decide)) (rx_fld (rx_callX FB (b, one) trivial (by show resP C (planBy b one) = _; rw [e1]; rfl) (ra_cons (rv 4) (ra_cons (rv 1) ra_nil))))) 5)
        | some p =>
          have s1 : ∀ {rest o}, RS Γ Ljudged ⟨E, 40⟩ rest [.dat (rS (bookText recs)), .dat (rS one), .dat (rS other), .dat (rI most), .dat (rBook C b), .dat (rI p.givens.length), .no, .no] o → rest = List.drop 2 (L2.defBody (top 63)) → RS Γ Ljudged ⟨E, 40⟩ (List.drop 1 (L2.defBody (top 63))) [.dat (rS (bookText recs)), .dat (rS one), .dat (rS other), .dat (rI most), .dat (rBook C b), .no, .no, .no] o := fun {rest o} h er => by
            subst er
            exact rs_cons (r1_set 5 (RE.eq (re_len (G.bi _ (by decide)) (rp_of (re_pgiv G (re_callX FB (b, one) trivial (by show resP C (planBy b one) = _; rw [e1]; rfl) (ra_cons (rv 4) (ra_cons (rv 1) ra_nil))) (by intro _; rfl)))) (by rw [List.length_map]))) h
          dsimp only
          cases e2 : planBy b other with
          | none =>
            refine ⟨.err (xc0 C.NP), rfl, rd (s1 ?_ rfl) rfl⟩
            exact rs_stop (r1_xif (xt_cmp (fun _ _ => L2.op_ne) rfl (rx_len (G.bi _ (by decide)) (rx_fld (rx_callX FB (b, other) trivial (by show resP C (planBy b other) = _; rw [e2]; rfl) (ra_cons (rv 4) (ra_cons (rv 2) ra_nil)))))))
          | some q =>
            dsimp only
            by_cases hl : q.givens.length = p.givens.length
            · rw [if_pos hl]
              have s2 : ∀ {rest o}, RS Γ Ljudged ⟨E, 40⟩ rest [.dat (rS (bookText recs)), .dat (rS one), .dat (rS other), .dat (rI most), .dat (rBook C b), .dat (rI p.givens.length), .no, .no] o → rest = List.drop 3 (L2.defBody (top 63)) → RS Γ Ljudged ⟨E, 40⟩ (List.drop 2 (L2.defBody (top 63))) [.dat (rS (bookText recs)), .dat (rS one), .dat (rS other), .dat (rI most), .dat (rBook C b), .dat (rI p.givens.length), .no, .no] o := fun {rest o} h er => by
                subst er
                refine rs_cons (r1_if (k := false) (RT.eq (rt_neI (re_len (G.bi _ (by decide)) (rp_of (re_pgiv G (re_callX FB (b, other) trivial (by show resP C (planBy b other) = _; rw [e2]; rfl) (ra_cons (rv 4) (ra_cons (rv 2) ra_nil))) (by intro _; rfl)))) (rv 5)) ?_) (fun h => by cases h) fun _ => rs_nil) h
                rw [List.length_map, hl, decide_eq_true rfl]
                rfl
              obtain ⟨d1, _⟩ := planBy_deep bl e1
              obtain ⟨d2, _⟩ := planBy_deep bl e2
              cases e3 : toldI b most one with
              | none =>
                refine ⟨.err (xc0 C.TM), rfl, rd (s1 (s2 ?_ rfl) rfl) rfl⟩
                exact rs_stop (r1_xset (rx_callX FT (b, one, most) ⟨bg, d1, hm, hm1⟩ (resF_none e3) (ra_cons (rv 4) (ra_cons (rv 1) (ra_cons (rv 3) ra_nil)))) 6)
              | some mine =>
                dsimp only
                cases e4 : toldI b most other with
                | none =>
                  refine ⟨.err (xc0 C.TM), rfl, rd (s1 (s2 ?_ rfl) rfl) rfl⟩
                  exact rs_cons (r1_set 6 (re_callX FT (b, one, most) ⟨bg, d1, hm, hm1⟩ (resF_some e3) (ra_cons (rv 4) (ra_cons (rv 1) (ra_cons (rv 3) ra_nil))))) (rs_stop (r1_xset (rx_callX FT (b, other, most) ⟨bg, d2, hm, hm1⟩ (resF_none e4) (ra_cons (rv 4) (ra_cons (rv 2) (ra_cons (rv 3) ra_nil)))) 7))
                | some theirs =>
                  have g1 := told_good bg hm bl e1 e3
                  have g2 := told_good bg hm bl e2 e4
                  obtain ⟨_, i, hi, hbi, _⟩ := planBy_deep bl e1
                  have pg := (bg.plan i p hbi).g2
                  refine ⟨.ret (rPair mine theirs p.givens.length), rfl, rd (s1 (s2 ?_ rfl) rfl) rfl⟩
                  refine rs_cons (r1_set 6 (re_callX FT (b, one, most) ⟨bg, d1, hm, hm1⟩ (resF_some e3) (ra_cons (rv 4) (ra_cons (rv 1) (ra_cons (rv 3) ra_nil))))) (rs_cons (r1_set 7 (re_callX FT (b, other, most) ⟨bg, d2, hm, hm1⟩ (resF_some e4) (ra_cons (rv 4) (ra_cons (rv 2) (ra_cons (rv 3) ra_nil))))) (rs_one (r1_ret (re_call FC (mine, theirs, (p.givens.length : Int)) ⟨g1.ok, g2.ok, ?_, ?_, g1.ky, ?_⟩ (ra_cons (rv 6) (ra_cons (rv 7) (ra_cons (rv 5) ra_nil)))))))
                  · show (0 : Int) ≤ (p.givens.length : Int); omega
                  · show (p.givens.length : Int) ≤ 1000; omega
                  · show KeysLt theirs (p.givens.length : Int)
                    rw [← hl]; exact g2.ky
            · rw [if_neg hl]
              refine ⟨.err (xc0 C.UL), rfl, rd (s1 ?_ rfl) rfl⟩
              refine rs_stop (r1_if (k := true) (RT.eq (rt_neI (re_len (G.bi _ (by decide)) (rp_of (re_pgiv G (re_callX FB (b, other) trivial (by show resP C (planBy b other) = _; rw [e2]; rfl) (ra_cons (rv 4) (ra_cons (rv 2) ra_nil))) (by intro _; rfl)))) (rv 5)) ?_) (fun _ => rs_one (r1_raise G.ul)) (fun h => by cases h))
              rw [List.length_map, decide_eq_false (by omega)]
              rfl
end
end K60
/-! text RL19 -/
set_option Elab.async false
set_option linter.all false
set_option maxRecDepth 100000
set_option maxHeartbeats 4000000
namespace Rl
open PySem PySem.Spec PyProof.Rows L2
section
variable {Γ : Cg} {L : Lc} {E : Wc} {env : List Sl} {a b : Expr} {pos : Pos}
/-- x not in a list of texts -/
theorem rt_niLd {z : Str} {ss : List Str} (ha : RE Γ L E a env (rS z)) (hb : RE Γ L E b env (rL (ss.map rS))) (hm : behindInMarks .NotIn b = false := by rfl) : RT Γ L E (.Compare a [.NotIn] [b] pos) env (!decide (z ∈ ss)) := by
  refine rt_cmp (r2 := rIn Γ.K true) (rb := rL (ss.map rS)) (fun X o => by have z := op_notIn_seq (X := X); rw [o.K] at z; exact z) hm (fun B H u v Q s1 hx ⟨p, vs, hy, hp, ho⟩ q => ?_) ha hb
  have hx : u = .str z := hx
  have ev : vs = ss.map V.str := Oks.eqs (fun _ _ q => q) ho
  subst hx hy ev
  refine ⟨p, ss.map V.str, rfl, .inl (SqL.of (s1 _ _ hp)), rfl, flat_strs ss, ?_⟩
  rw [if_pos rfl, inV_strs]
  exact q _ B H (Grow.refl s1) rfl
theorem r1_nxe {s : Stmt} {e1 e2 : List Sl} (h : R1 Γ L E s env (.nx e1)) (e : e1 = e2) : R1 Γ L E s env (.nx e2) := e ▸ h
/-- x.append(e), x a list of texts of one's own -/
theorem r1_appS {α : Type} {f : α → Rp} (i : Nat) {x : Str} {cpos apos p : Pos} {e : Expr} {z : α} {bs : List α} {env2 : List Sl} (h : RE Γ L E e env (f z)) (hz : bs.length < 16777216) (he2 : env2 = env.set i (.aL ((bs ++ [z]).map f)) := by rfl) (hi : env[i]? = some (.aL (bs.map f)) := by rfl) (hb : varB L i x = true := by decide +kernel) (hs : ∀ en : Env, starEach [e] en = (false, eval e en) :: starEach [] en := by intro _; rfl) (hline : (apos.endLine == cpos.line) = true := by rfl) :
    R1 Γ L E (.Expr (.Call (.Attribute (.Name x p) "append" apos) [e] [] cpos) pos) env (.nx env2) := by
  refine r1_nxe (r1_append i h (by rw [List.length_map]; exact hz) hi hb hs hline) ?_
  rw [he2, List.map_append]
  rfl
end
end Rl
/-! text W16 -/
set_option Elab.async false
set_option linter.all false
set_option maxRecDepth 100000
set_option maxHeartbeats 4000000
namespace K60
open PySem PyProof.Rows Rl
open PySem.Spec hiding Row
open L2 (E0 XK Hp V atI ixN inClass defScope upd upd_same upd_ne HO Same)
open TL (tl tl_append ext_tl len_tl mk_tl tl_mk numL tl_num split_join partition_app partition_none tl_join joinL)
/-! ### the law's own defs -/
def cellAt (xs : List Int) (k : Nat) : Int := (xs[k]?).getD 0
abbrev P_cell (Γ : Cg) : Prop := Fn0 Γ 1 "_law_cell_at" ["script", "k"] (Sp0 (fun _ : List Int × Nat => True) (fun x => [rQ Γ.K x.1, rI x.2]) fun x => rI (cellAt x.1 x.2))
def numberBy (cell : Int) : Int := if cell % 3 = 0 then 0 else if cell % 3 = 1 then cell / 3 % 10 ^ 30 else 0 - cell / 3 % 10 ^ 30
abbrev P_number (Γ : Cg) : Prop := Fn0 Γ 1 "_law_number_by" ["cell"] (Sp0 (fun _ : Int => True) (fun x => [rI x]) fun x => rI (numberBy x))
def itemBy (cell : Int) (ahead : Nat) : Int × Int := (cell % ahead, numberBy (cell / ahead))
abbrev P_litem (Γ : Cg) : Prop := Fn0 Γ 2 "_law_item" ["cell", "ahead"] (Sp0 (fun x : Int × Nat => 0 < x.2 ∧ x.2 ≤ 1000) (fun x => [rI x.1, rI x.2]) fun x => rPr (itemBy x.1 x.2))
/-- signs of the names -/
def lett : List Nat := (List.range 26).map (· + 97) ++ (List.range 10).map (· + 48)
def lettS : Str := "abcdefghijklmnopqrstuvwxyz0123456789"
theorem lettS_is : lettS.cps.toList = lett := by decide +kernel
def digs : Nat → List Nat
  | 0 => []
  | n + 1 => lett.getD ((n + 1) % 36) 0 :: digs ((n + 1) / 36)
decreasing_by omega
def nameOf (n : Nat) : Str := signs (lett.getD (n % 26) 0 :: digs (n / 26))
def lwords : List Str := ["plan", "given", "all", "first", "part"]
def nameGood (used : List Str) (n : Nat) : Bool := !decide (nameOf n ∈ used) && !decide (nameOf n ∈ lwords)
def nameBy (n : Nat) (used : List Str) : Str := match (List.range (used.length + 6)).find? (fun m => nameGood used (n + m)) with
  | some m => nameOf (n + m)
  | none => ""
def NMAX : Nat := 100000000000000000
abbrev P_name_by (Γ : Cg) : Prop := Fn0 Γ 1 "_law_name_by" ["number", "used"] (Sp0 (fun x : Nat × List Str => x.1 ≤ NMAX ∧ x.2.length ≤ 1000) (fun x => [rI x.1, rL (x.2.map rS)]) fun x => rS (nameBy x.1 x.2))
theorem digs_len : ∀ (k n : Nat), n < 36 ^ k → (digs n).length ≤ k
  | 0, n, h => by
    have : n = 0 := by simpa using h
    subst this
    exact Nat.le_of_eq (by unfold digs; rfl)
  | k + 1, 0, h => by unfold digs; exact Nat.zero_le _
  | k + 1, n + 1, h => by
    unfold digs
    have := digs_len k ((n + 1) / 36) (by
      rw [Nat.pow_succ] at h
      exact Nat.div_lt_of_lt_mul (by rw [Nat.mul_comm]; exact h))
    simpa using this
theorem lett_at {i : Nat} (h : i < 36) : atI lettS.cps.toList (i : Int) = some (lett.getD i 0) := by
  refine atI_nat ?_
  rw [lettS_is, List.getD_eq_getElem?_getD, List.getElem?_eq_getElem (by decide +revert)]
  rfl
theorem signs_app (l : List Nat) (c : Nat) : signs l ++ (⟨#[c]⟩ : Str) = signs (l ++ [c]) := ext_tl (by rw [tl_append]; rfl)
theorem signs_len (l : List Nat) : (signs l).length = l.length := by rw [len_tl]; rfl
section
variable {Γ : Cg} {C : Cls} (G : Gk Γ C)
include G
theorem w_cell (D : DfAt Γ "_law_cell_at" 65 ["script", "k"]) : P_cell Γ := by
  refine def0 0 Ll_cell_at D Sl_cell_at rfl rfl (fun _ => rfl) fun ⟨xs, k⟩ _ => ⟨if decide ((k : Int) < xs.length) then .ret (rI (cellAt xs k)) else .ret (rI (cellAt xs k)), by split <;> rfl, ?_⟩
  refine rs_ifEnd (RT.eq (rt_lt (rv 1) (re_len (G.bi _ (by decide)) (rp_q (rv 0)))) (by rw [List.length_map])) (fun h => rs_one (r1_ret (re_ixL (i := k) ?_ (rp_q (ns := xs) (rv 0)) (rv 1)))) (fun h => rs_one (r1_ret (RE.eq re_int ?_)))
  · have h : (k : Int) < xs.length := of_decide_eq_true h
    have hk : k < xs.length := by omega
    refine atI_nat ?_
    rw [List.getElem?_map, List.getElem?_eq_getElem hk]
    unfold cellAt
    rw [List.getElem?_eq_getElem hk]
    rfl
  · have h : ¬ (k : Int) < xs.length := of_decide_eq_false h
    unfold cellAt
    rw [List.getElem?_eq_none (by omega)]
    rfl
theorem w_number (D : DfAt Γ "_law_number_by" 69 ["cell"]) : P_number Γ := by
  refine def0 0 Ll_number_by D Sl_number_by rfl rfl (fun _ => rfl) fun cell _ => ⟨if decide (cell % 3 = 0) then .ret (rI 0) else (if decide (cell % 3 = 1) then .ret (rI (cell / 3 % 10 ^ 30)) else .ret (rI (0 - cell / 3 % 10 ^ 30))), ?_, ?_⟩
  · show RetO _ (.ok (rI (numberBy cell)))
    unfold numberBy
    by_cases h : cell % 3 = 0
    · rw [if_pos (decide_eq_true h), if_pos h]; rfl
    · rw [if_neg (by simpa using h), if_neg h]
      by_cases h1 : cell % 3 = 1
      · rw [if_pos (decide_eq_true h1), if_pos h1]; rfl
      · rw [if_neg (by simpa using h1), if_neg h1]; rfl
  · refine rs_cons (r1_set 1 (re_mod (j := 10 ^ 30) (by decide) (re_fdiv ⟨by decide, by decide⟩ (rv 0) re_int) (re_pow ⟨by decide, by decide, by decide⟩ re_int re_int))) ?_
    exact rs_ifEnd (rt_eqI (re_mod (by decide) (rv 0) re_int) re_int) (fun _ => rs_one (r1_ret re_int)) fun _ => rs_ifEnd (rt_eqI (re_mod (by decide) (rv 0) re_int) re_int) (fun _ => rs_one (r1_ret (rv 1))) fun _ => rs_one (r1_ret (re_sub re_int (rv 1)))
theorem w_litem (FN : P_number Γ) (D : DfAt Γ "_law_item" 70 ["cell", "ahead"]) : P_litem Γ := by
  refine def0 1 Ll_item D Sl_item rfl rfl (fun _ => rfl) fun ⟨cell, ahead⟩ ⟨h0, h1⟩ => ⟨.ret (rPr (itemBy cell ahead)), rfl, ?_⟩
  have h0 : 0 < ahead := h0
  have h1 : ahead ≤ 1000 := h1
  exact rs_one (r1_ret (re_tup (ra_cons (re_mod (by omega) (rv 0) (rv 1)) (ra_cons (re_call FN (cell / ahead) trivial (ra_cons (re_fdiv ⟨by omega, by omega⟩ (rv 0) (rv 1)) ra_nil)) ra_nil))))
theorem w_name_by (D : DfAt Γ "_law_name_by" 67 ["number", "used"]) : P_name_by Γ := by
  refine def0 0 Ll_name_by D Sl_name_by rfl rfl (fun _ => rfl) fun ⟨n, used⟩ ⟨hn, hu⟩ => ?_
  have hn : n ≤ NMAX := hn
  have hu : used.length ≤ 1000 := hu
  refine ⟨.fnd (.ret (rS "")) (fun m => rS (nameOf (n + m))) ((List.range (used.length + 6)).find? fun m => nameGood used (n + m)), ?_, ?_⟩
  · show RetO _ (.ok (rS (nameBy n used)))
    unfold nameBy
    cases (List.range (used.length + 6)).find? fun m => nameGood used (n + m) <;> rfl
  refine rs_cons (r1_set 2 (re_str (s := lettS))) (rs_cons (r1_set 3 (rf_lst (rs := lwords.map rS) (ra_cons re_str (ra_cons re_str (ra_cons re_str (ra_cons re_str (ra_cons re_str ra_nil)))))).re) ?_)
  refine rs_find _ _ (ri_range (n := used.length + 6) (by omega) (G.bi _ (by decide)) (RE.eq (re_add (re_len (G.bi _ (by decide)) (rp_of (rs := used.map rS) (rv 1))) re_int) (by rw [List.length_map]; rfl))) (fun m hm => ?_) fun _ => rs_one (r1_ret re_str)
  have hm := List.mem_range.mp hm
  let S : List Nat → Nat → List Sl := fun acc r => [.dat (rI n), .dat (rL (used.map rS)), .dat (rS lettS), .dat (rL (lwords.map rS)), .dat (rI m), .dat (rS (signs acc)), .dat (rI r)]
  have big : NMAX + 2000 < 36 ^ 12 := by decide
  have dl : (digs ((n + m) / 26)).length ≤ 12 := digs_len 12 _ (by omega)
  have wh : ∀ (c : Expr) (b : List Stmt) (hc : ∀ acc r, RT Γ Ll_name_by ⟨E0, 0⟩ c (S acc r) (decide (0 < r))) (hb : ∀ acc r, 0 < r → acc.length ≤ 100 → RS Γ Ll_name_by ⟨E0, 0⟩ b (S acc r) (.nx (S (acc ++ [lett.getD (r % 36) 0]) (r / 36)))) (k r : Nat) (acc : List Nat), acc.length + (digs r).length ≤ 20 → (digs r).length = k → WhileR Γ Ll_name_by ⟨E0, 0⟩ c b k (S acc r) (S (acc ++ digs r) 0) := by
    intro c b hc hb k
    induction k with
    | zero =>
      intro r acc h1 h2
      cases r with
      | zero =>
        have : acc ++ digs 0 = acc := by unfold digs; simp
        rw [this]
        exact .stop (RT.eq (hc acc 0) (by decide))
      | succ r => unfold digs at h2; cases h2
    | succ k ih =>
      intro r acc h1 h2
      cases r with
      | zero => unfold digs at h2; cases h2
      | succ r =>
        have e : digs (r + 1) = lett.getD ((r + 1) % 36) 0 :: digs ((r + 1) / 36) := by rw [digs]
        rw [e] at h1 h2 ⊢
        rw [List.length_cons] at h1 h2
        have z := ih ((r + 1) / 36) (acc ++ [lett.getD ((r + 1) % 36) 0]) (by rw [List.length_append]; simp; omega) (by omega)
        rw [List.append_assoc] at z
        exact .turn (RT.eq (hc acc (r + 1)) (decide_eq_true (by omega))) (hb acc (r + 1) (by omega) (by omega)) (EnvLe.refl _) z
  refine .of (e2 := S (lett.getD ((n + m) % 26) 0 :: digs ((n + m) / 26)) 0) (rg_name 4) (rs_cons (env1 := [.dat (rI n), .dat (rL (used.map rS)), .dat (rS lettS), .dat (rL (lwords.map rS)), .dat (rI m), .dat (rS (signs [lett.getD ((n + m) % 26) 0])), .no]) (r1_set 5 (re_ixS (i := (((n + m) % 26 : Nat) : Int)) (lett_at (by omega)) (le16 (k := 36) (by decide +kernel)) (rv 2) (RE.eq (re_mod (by decide) (re_add (rv 0) (rv 4)) re_int) (by congr 2)))) (rs_cons (env1 := S [lett.getD ((n + m) % 26) 0] ((n + m) / 26)) (r1_set 6 (RE.eq (re_fdiv ⟨by decide, by decide⟩ (re_add (rv 0) (rv 4)) re_int) (by congr 2))) (rs_cons (r1_while (wh _ _ (fun acc r => RT.eq (rt_gt (rv 6) re_int) (by simp)) (fun acc r hr ha => ?_) _ _ _ ?_ rfl)) (rs_guard ?_ fun _ => rs_one (r1_ret (rv 5)))))) ⟨.inr rfl, .inr rfl, .inr rfl, .inr rfl, .inl rfl, .inl rfl, .inl rfl, trivial⟩
  · refine rs_cons (env1 := [.dat (rI n), .dat (rL (used.map rS)), .dat (rS lettS), .dat (rL (lwords.map rS)), .dat (rI m), .dat (rS (signs (acc ++ [lett.getD (r % 36) 0]))), .dat (rI r)]) (r1_set 5 (RE.eq (re_adds ?_ (rv 5) (re_ixS (i := ((r % 36 : Nat) : Int)) (lett_at (by omega)) (le16 (k := 36) (by decide +kernel)) (rv 2) (RE.eq (re_mod (by decide) (rv 6) re_int) (by congr 2)))) (by rw [signs_app]))) (rs_one (r1_set 6 (RE.eq (re_fdiv ⟨by decide, by decide⟩ (rv 6) re_int) (by congr 2))))
    rw [signs_len]
    exact le16 (k := 200) (by show acc.length + 1 ≤ 200; omega)
  · show 1 + _ ≤ 20
    omega
  · rw [Bool.not_not]
    exact RT.eq (rw_and (rt_niLd (rv 5) (rv 1)) fun _ => rw_and1 (rt_niLd (rv 5) (rv 3))).pt rfl
end
end K60
/-! text W17 -/
set_option Elab.async false
set_option linter.all false
set_option maxRecDepth 100000
set_option maxHeartbeats 4000000
namespace K60
open PySem PyProof.Rows Rl
open PySem.Spec hiding Row
open L2 (E0 XK Hp V atI ixN inClass defScope upd upd_same upd_ne HO Same)
open TL (tl tl_append ext_tl len_tl mk_tl tl_mk numL tl_num split_join partition_app partition_none tl_join joinL)
def steps : List Int := [1, 26, 936, 33696, 1213056]
def stepOf (xs : List Int) : Nat := (steps.getD ((cellAt xs 1) % 5).toNat 0).toNat
def baseOf (xs : List Int) : Nat := ((cellAt xs 0) % (26 * 36 ^ 10)).toNat
def namesUp (b s : Nat) : Nat → List Str
  | 0 => []
  | n + 1 => namesUp b s n ++ [nameBy (b + n * s) (namesUp b s n)]
def namesBy (xs : List Int) (many : Nat) : List Str := namesUp (baseOf xs) (stepOf xs) many
theorem namesUp_len (b s : Nat) : ∀ n, (namesUp b s n).length = n
  | 0 => rfl
  | n + 1 => by unfold namesUp; rw [List.length_append, namesUp_len b s n]; rfl
theorem stepOf_le (xs : List Int) : stepOf xs ≤ 1213056 := by
  unfold stepOf steps
  have h1 : 0 ≤ (cellAt xs 1) % 5 := Int.emod_nonneg _ (by decide)
  have h2 : (cellAt xs 1) % 5 < 5 := Int.emod_lt_of_pos _ (by decide)
  generalize (cellAt xs 1) % 5 = r at h1 h2
  have : r = 0 ∨ r = 1 ∨ r = 2 ∨ r = 3 ∨ r = 4 := by omega
  rcases this with rfl | rfl | rfl | rfl | rfl <;> decide
theorem baseOf_le (xs : List Int) : baseOf xs < 26 * 36 ^ 10 := by
  unfold baseOf
  have h2 : (cellAt xs 0) % (26 * 36 ^ 10) < 26 * 36 ^ 10 := Int.emod_lt_of_pos _ (by decide)
  have h1 : 0 ≤ (cellAt xs 0) % (26 * 36 ^ 10) := Int.emod_nonneg _ (by decide)
  omega
abbrev P_names_by (Γ : Cg) : Prop := Fn0 Γ 2 "_law_names_by" ["script", "many"] (Sp0 (fun x : List Int × Nat => x.2 ≤ 100) (fun x => [rQ Γ.K x.1, rI x.2]) fun x => rL ((namesBy x.1 x.2).map rS))
structure PosItem (names : List Str) (p : Int × Int) : Prop where
  h0 : 0 ≤ p.1
  h1 : p.1 < names.length
  wt : p.2.natAbs < 10 ^ 30
  nm : ∀ s ∈ names, s.length ≤ 12
def nmAt (names : List Str) (t : Int) : Str := names.getD t.toNat ""
abbrev P_item_text (Γ : Cg) : Prop := Fn0 Γ 1 "_law_item_text" ["names", "item"] (Sp0 (fun x : List Str × (Int × Int) => PosItem x.1 x.2) (fun x => [rL (x.1.map rS), rPr x.2]) fun x => rS (itemText (nmAt x.1 x.2.1, x.2.2)))
theorem nm_at {names : List Str} {t : Int} (h0 : 0 ≤ t) (h1 : t < names.length) : atI (names.map rS) t = some (rS (nmAt names t)) := by
  have e : names[t.toNat]? = some (nmAt names t) := by
    unfold nmAt
    rw [List.getD_eq_getElem?_getD, List.getElem?_eq_getElem (by omega)]
    rfl
  have : t = (t.toNat : Int) := by omega
  rw [this]
  exact atI_nat (by rw [List.getElem?_map, ← this, e]; rfl)
theorem nmAt_mem {names : List Str} {t : Int} (h0 : 0 ≤ t) (h1 : t < names.length) : nmAt names t ∈ names := by
  unfold nmAt
  rw [List.getD_eq_getElem?_getD, List.getElem?_eq_getElem (by omega)]
  exact List.getElem_mem _
theorem log_small {n : Nat} (h : n < 10 ^ 30) : n.log2 < 1920 := by
  by_cases hn : n = 0
  · subst hn; decide
  · have h2 := Nat.log2_self_le hn
    have : ¬ 1920 ≤ n.log2 := fun hc => by
      have h3 : 2 ^ 100 ≤ 2 ^ n.log2 := Nat.pow_le_pow_right (by decide) (by omega)
      have h4 : (10 : Nat) ^ 30 ≤ 2 ^ 100 := by decide +kernel
      omega
    omega
section
variable {Γ : Cg} {C : Cls} (G : Gk Γ C)
include G
theorem w_names_by (FC : P_cell Γ) (FN : P_name_by Γ) (D : DfAt Γ "_law_names_by" 68 ["script", "many"]) : P_names_by Γ := by
  refine def0 1 Ll_names_by D Sl_names_by rfl rfl (fun _ => rfl) fun ⟨xs, many⟩ hm => ⟨.ret (rL ((namesBy xs many).map rS)), rfl, ?_⟩
  have hm : many ≤ 100 := hm
  have hb := baseOf_le xs
  have hs := stepOf_le xs
  have eb : (cellAt xs 0) % (26 * 36 ^ 10) = (baseOf xs : Int) := by
    unfold baseOf
    have h1 : 0 ≤ (cellAt xs 0) % (26 * 36 ^ 10) := Int.emod_nonneg _ (by decide)
    omega
  refine rs_cons (env1 := [.dat (rQ Γ.K xs), .dat (rI many), .dat (rI (baseOf xs)), .no, .no, .no]) (r1_set 2 (RE.eq (re_mod (j := 26 * 36 ^ 10) (by decide) (re_call FC (xs, 0) trivial (ra_cons (rv 0) (ra_cons re_int ra_nil))) (re_mul (.inl ⟨by decide, by decide⟩) re_int (re_pow (i := 36) (j := 10) ⟨by decide, by decide, by decide⟩ re_int re_int))) (by rw [← eb]))) ?_
  refine rs_cons (env1 := [.dat (rQ Γ.K xs), .dat (rI many), .dat (rI (baseOf xs)), .dat (rI (stepOf xs)), .no, .no]) (r1_set 3 (re_ixL (rs := steps.map rI) (i := (cellAt xs 1) % 5) ?_ (rp_of (rf_lst (ra_cons re_int (ra_cons re_int (ra_cons re_int (ra_cons re_int (ra_cons re_int ra_nil)))))).re) (re_mod (by decide) (re_call FC (xs, 1) trivial (ra_cons (rv 0) (ra_cons re_int ra_nil))) re_int))) ?_
  · have h1 : 0 ≤ (cellAt xs 1) % 5 := Int.emod_nonneg _ (by decide)
    have h2 : (cellAt xs 1) % 5 < 5 := Int.emod_lt_of_pos _ (by decide)
    unfold stepOf
    generalize (cellAt xs 1) % 5 = r at h1 h2
    have : r = 0 ∨ r = 1 ∨ r = 2 ∨ r = 3 ∨ r = 4 := by omega
    rcases this with rfl | rfl | rfl | rfl | rfl <;> rfl
  refine rs_cons (r1_own 4 (rf_lst ra_nil)) ?_
  refine rs_cons (r1_upto (fun n => [.dat (rQ Γ.K xs), .dat (rI many), .dat (rI (baseOf xs)), .dat (rI (stepOf xs)), .aL ((namesUp (baseOf xs) (stepOf xs) n).map rS), .no]) rfl (ri_range (n := many) (by omega) (G.bi _ (by decide)) (rv 1)) fun n k hk => ?_) ?_
  · obtain ⟨hk1, hk2⟩ := range_at hk
    subst hk2
    have hl := namesUp_len (baseOf xs) (stepOf xs) k
    have hbound : k * stepOf xs ≤ 100 * 1213056 := Nat.mul_le_mul (by omega) hs
    refine .nx (rg_name 5) (rs_one (r1_append 4 (RE.borrow (i := 4) rfl (re_call FN (baseOf xs + k * stepOf xs, namesUp (baseOf xs) (stepOf xs) k) ⟨?_, by rw [hl]; omega⟩ (ra_cons (RE.eq (re_add (rv 2) (re_mul (i := (k : Int)) (j := (stepOf xs : Int)) (.inl ⟨by omega, by omega⟩) (rv 5) (rv 3))) ?_) (ra_cons (rv 4) ra_nil)))) ?_)) ?_
    · show baseOf xs + k * stepOf xs ≤ NMAX
      have : (26 * 36 ^ 10 : Nat) + 100 * 1213056 ≤ NMAX := by decide
      omega
    · show rI _ = rI (((baseOf xs + k * stepOf xs : Nat)) : Int)
      rw [Int.natCast_add, Int.natCast_mul]
    · rw [List.length_map, hl]; omega
    · refine ⟨.inr rfl, .inr rfl, .inr rfl, .inr rfl, .inr ?_, .inl rfl, trivial⟩
      show Sl.aL _ = Sl.aL ((namesUp (baseOf xs) (stepOf xs) k ++ [_]).map rS)
      rw [List.map_append]
      rfl
  · rw [List.length_range]
    exact rs_one (r1_retL 4)
theorem w_item_text (D : DfAt Γ "_law_item_text" 74 ["names", "item"]) : P_item_text Γ := by
  refine def0 0 Ll_item_text D Sl_item_text rfl rfl (fun _ => rfl) fun ⟨names, p⟩ hp => ?_
  have hp : PosItem names p := hp
  have hl := hp.nm _ (nmAt_mem hp.h0 hp.h1)
  have hd := numS_len hp.wt
  refine ⟨if decide (p.2 = 0) then .ret (rS (nmAt names p.1)) else .ret (rS (nmAt names p.1 ++ (if p.2 > 0 then plusS else minusS) ++ numS p.2.natAbs)), ?_, ?_⟩
  · show RetO _ (.ok (rS (itemText (nmAt names p.1, p.2))))
    unfold itemText
    by_cases h : p.2 = 0
    · rw [if_pos (decide_eq_true h), if_pos h]; rfl
    · rw [if_neg (by simpa using h), if_neg h]; rfl
  refine rs_ifEnd (rt_eqI (re_ixT (rs := [rI p.1, rI p.2]) (i := 1) (atI_nat (n := 1) rfl) (rv 1) re_int) re_int) (fun _ => rs_one (r1_ret (re_ixL (i := p.1) (nm_at hp.h0 hp.h1) (rp_of (rv 0)) (re_ixT (rs := [rI p.1, rI p.2]) (i := 0) (at0 _ _) (rv 1) re_int)))) fun _ => rs_one (r1_ret (re_adds ?_ (re_adds ?_ (re_ixL (i := p.1) (nm_at hp.h0 hp.h1) (rp_of (rv 0)) (re_ixT (rs := [rI p.1, rI p.2]) (i := 0) (at0 _ _) (rv 1) re_int)) (re_ixL (rs := [rS minusS, rS plusS]) (i := if decide (0 < p.2) then 1 else 0) ?_ (rp_of (rf_lst (ra_cons re_str (ra_cons re_str ra_nil))).re) (re_intB (G.bi _ (by decide)) (re_gt (re_ixT (rs := [rI p.1, rI p.2]) (i := 1) (atI_nat (n := 1) rfl) (rv 1) re_int) re_int)))) (re_strI (i := (p.2.natAbs : Int)) (log_small (by rw [Int.natAbs_natCast]; exact hp.wt)) (G.bi _ (by decide)) (re_abs (G.bi _ (by decide)) (re_ixT (rs := [rI p.1, rI p.2]) (i := 1) (atI_nat (n := 1) rfl) (rv 1) re_int)))))
  · rw [str_len_app]
    have h1 : (if p.2 > 0 then plusS else minusS).length = 1 := by split <;> decide +kernel
    have h2 : (numS p.2.natAbs).length ≤ 30 := hd
    have h3 : (Str.ofString (toString (p.2.natAbs : Int))).length ≤ 30 := hd
    exact le16 (k := 100) (by omega)
  · have h1 : (if p.2 > 0 then plusS else minusS).length = 1 := by split <;> decide +kernel
    exact le16 (k := 100) (by omega)
  · by_cases h : 0 < p.2
    · rw [decide_eq_true h, if_pos rfl, if_pos h]; exact atI_nat (n := 1) rfl
    · rw [decide_eq_false h, if_neg (by decide), if_neg h]; exact at0 _ _
end
end K60
/-! text W18 -/
set_option Elab.async false
set_option linter.all false
set_option maxRecDepth 100000
set_option maxHeartbeats 4000000
namespace K60
open PySem PyProof.Rows Rl
open PySem.Spec hiding Row
open L2 (E0 XK Hp V atI ixN inClass defScope upd upd_same upd_ne HO Same)
open TL (tl tl_append ext_tl len_tl mk_tl tl_mk numL tl_num split_join partition_app partition_none tl_join joinL)
/-! ### the plans' text -/
def rLP (p : MPlan) : Rp := rL [rS p.name, rL (p.givens.map rS), rL (p.rows.map rMRow)]
def rLPs (ps : List MPlan) : Rp := rL (ps.map rLP)
def recOfRow (names : List Str) (r : MRow) : NRec := .made r.name r.how (r.items.map fun q => (nmAt names q.1, q.2))
def recsOf (p : MPlan) : List NRec := .plan p.name :: (p.givens.map NRec.given ++ p.rows.map (recOfRow (planNames p)))
def recsAll (ps : List MPlan) : List NRec := ps.flatMap recsOf
structure TextPlan (p : MPlan) : Prop where
  nm : p.name.length ≤ 12
  nms : ∀ s ∈ planNames p, s.length ≤ 12
  few : p.rows.length ≤ 1000 ∧ p.givens.length ≤ 1000
  rows : ∀ r ∈ p.rows, r.items.length ≤ 40 ∧ r.how.length ≤ 12 ∧ ∀ q ∈ r.items, PosItem (planNames p) q
structure TextPre (ps : List MPlan) : Prop where
  few : (recsAll ps).length ≤ 1000
  pl : ∀ p ∈ ps, TextPlan p
abbrev P_rows (Γ : Cg) : Prop := Fn0 Γ 2 "_law_rows" ["plans"] (Sp0 TextPre (fun ps => [rLPs ps]) fun ps => rL (((recsAll ps).map recText).map rS))
def howText (h : Str) : Str := if plainHow h then h else "part " ++ h
theorem made_text (names : List Str) (r : MRow) : (" " ++ r.name ++ " " ++ howText r.how ++ " " ++ Txt.join comS ((r.items.map fun q => itemText (nmAt names q.1, q.2)))) = recText (recOfRow names r) := by
  have e1 : (r.items.map fun q => itemText (nmAt names q.1, q.2)) = (r.items.map fun q => (nmAt names q.1, q.2)).map itemText := by rw [List.map_map]; rfl
  rw [e1]
  show _ = sp ++ (r.name ++ sp ++ madeRest r.how (r.items.map fun q => (nmAt names q.1, q.2)))
  unfold howText madeRest itemsText
  have es : (" " : Str) = sp := rfl
  rw [es]
  refine ext_tl ?_
  split
  · simp only [tl_append, List.append_assoc]
  · have ep : tl ("part " : Str) = tl partS ++ tl sp := by decide +kernel
    simp only [tl_append, List.append_assoc, ep]
theorem given_text (g : Str) : (" given " : Str) ++ g = recText (.given g) := by
  show _ = sp ++ (givenS ++ sp ++ g)
  refine ext_tl ?_
  have ep : tl (" given " : Str) = tl sp ++ (tl givenS ++ tl sp) := by decide +kernel
  simp only [tl_append, List.append_assoc, ep]
theorem plan_text (g : Str) : ("plan " : Str) ++ g = recText (.plan g) := by
  show _ = planS ++ sp ++ g
  refine ext_tl ?_
  have ep : tl ("plan " : Str) = tl planS ++ tl sp := by decide +kernel
  simp only [tl_append, List.append_assoc, ep]
theorem fold_one {α β : Type} {g : α → β} (xs : List α) : xs.foldl (fun c x => c ++ [g x]) [] = xs.map g := by
  have key : ∀ (xs : List α) (b : List β), xs.foldl (fun c x => c ++ [g x]) b = b ++ xs.map g := by
    intro xs
    induction xs with
    | nil => intro b; simp
    | cons x xs ih => intro b; rw [List.foldl_cons, ih]; simp
  rw [key]; rfl
theorem itext_len {names : List Str} {q : Int × Int} (h : PosItem names q) : (itemText (nmAt names q.1, q.2)).length ≤ 43 := by
  have hl := h.nm _ (nmAt_mem h.h0 h.h1)
  have hd := numS_len h.wt
  unfold itemText
  split
  · show (nmAt names q.1).length ≤ 43; omega
  · rw [str_len_app, str_len_app]
    have h1 : (if (nmAt names q.1, q.2).2 > 0 then plusS else minusS).length = 1 := by split <;> decide +kernel
    show (nmAt names q.1).length + _ + (numS q.2.natAbs).length ≤ 43
    omega
section
variable {Γ : Cg} {C : Cls} (G : Gk Γ C)
include G
theorem re_lp0 {L E env e pos j p2 p} (h : RE Γ L E e env (rLP p)) : RE Γ L E (.Subscript e (.Constant (.int 0) j p2) pos) env (rS p.name) := re_ixL (i := 0) (at0 _ _) (rp_of h) re_int
theorem re_lp1 {L E env e pos j p2 p} (h : RE Γ L E e env (rLP p)) : RE Γ L E (.Subscript e (.Constant (.int 1) j p2) pos) env (rL (p.givens.map rS)) := re_ixL (i := 1) (atI_nat (n := 1) rfl) (rp_of (rs := [rS p.name, rL (p.givens.map rS), rL (p.rows.map rMRow)]) h) re_int
theorem re_lp2 {L E env e pos j p2 p} (h : RE Γ L E e env (rLP p)) : RE Γ L E (.Subscript e (.Constant (.int 2) j p2) pos) env (rL (p.rows.map rMRow)) := re_ixL (i := 2) (atI_nat (n := 2) rfl) (rp_of (rs := [rS p.name, rL (p.givens.map rS), rL (p.rows.map rMRow)]) h) re_int
theorem re_mr0 {L E env e pos j p2 r} (h : RE Γ L E e env (rMRow r)) : RE Γ L E (.Subscript e (.Constant (.int 0) j p2) pos) env (rS r.name) := re_ixT (rs := [rS r.name, rS r.how, rT (r.items.map rPr)]) (i := 0) (at0 _ _) h re_int
theorem re_mr1 {L E env e pos j p2 r} (h : RE Γ L E e env (rMRow r)) : RE Γ L E (.Subscript e (.Constant (.int 1) j p2) pos) env (rS r.how) := re_ixT (rs := [rS r.name, rS r.how, rT (r.items.map rPr)]) (i := 1) (atI_nat (n := 1) rfl) h re_int
theorem re_mr2 {L E env e pos j p2 r} (h : RE Γ L E e env (rMRow r)) : RE Γ L E (.Subscript e (.Constant (.int 2) j p2) pos) env (rT (r.items.map rPr)) := re_ixT (rs := [rS r.name, rS r.how, rT (r.items.map rPr)]) (i := 2) (atI_nat (n := 2) rfl) h re_int
theorem w_rows (FI : P_item_text Γ) (D : DfAt Γ "_law_rows" 75 ["plans"]) : P_rows Γ := by
  refine def0 1 Ll_rows D Sl_rows rfl rfl (fun _ => rfl) fun ps hp => ⟨.ret (rL (((recsAll ps).map recText).map rS)), rfl, ?_⟩
  have few := hp.few
  refine rs_cons (r1_own 1 (rf_lst ra_nil)) ?_
  refine rs_cons (r1_foldP (fun b : List Str => [.dat (rLPs ps), .aL (b.map rS), .no, .no, .no, .no, .no, .no]) (fun b p => b ++ (recsOf p).map recText) [] rfl (ri_list (f := rLP) (xs := ps) (rv 0)) fun pre p suf e => ?_) ?_
  · have tp := hp.pl p (by rw [e]; exact List.mem_append_right _ List.mem_cons_self)
    rw [fold_flat pre []]
    have hlen : (pre.flatMap fun p => (recsOf p).map recText).length + (recsOf p).length ≤ 1000 := by
      have h1 : (pre.flatMap fun p => (recsOf p).map recText) = (recsAll pre).map recText := by unfold recsAll; rw [List.map_flatMap]
      rw [h1, List.length_map]
      unfold recsAll at few ⊢
      rw [e, List.flatMap_append, List.flatMap_cons, List.length_append, List.length_append] at few
      omega
    have hrl : (recsOf p).length = 1 + (p.givens.length + p.rows.length) := by
      show ((p.givens.map NRec.given ++ p.rows.map (recOfRow (planNames p))).length + 1) = _
      rw [List.length_append, List.length_map, List.length_map]; omega
    generalize hb : (pre.flatMap fun p => (recsOf p).map recText) = b at hlen
    rw [List.nil_append]
    obtain ⟨f1, f2⟩ := tp.few
    refine .nx (rg_name 2) (rs_cons (env1 := [.dat (rLPs ps), .aL (b.map rS), .dat (rLP p), .dat (rL ((planNames p).map rS)), .no, .no, .no, .no]) (r1_set 3 (RE.eq (re_addl (xs := p.givens.map rS) ?_ (re_lp1 G (rv 2)) (rf_lc (h := fun r => rS r.name) [("row", 4)] (ri_list (f := rMRow) (xs := p.rows) (re_lp2 G (rv 2))) (fun r hr => rg_name 4) (fun r hr => re_mr0 G (rv 4)) (small f1)).re) ?_)) (rs_cons (env1 := [.dat (rLPs ps), .aL ((b ++ [recText (.plan p.name)]).map rS), .dat (rLP p), .dat (rL ((planNames p).map rS)), .no, .no, .no, .no]) ?_ (rs_cons (env1 := [.dat (rLPs ps), .aL ((b ++ [recText (.plan p.name)] ++ (p.givens.map NRec.given).map recText).map rS), .dat (rLP p), .dat (rL ((planNames p).map rS)), .no, .no, .no, .no]) ?_ (rs_one (o := .nx [.dat (rLPs ps), .aL ((b ++ [recText (.plan p.name)] ++ (p.givens.map NRec.given).map recText ++ (p.rows.map (recOfRow (planNames p))).map recText).map rS), .dat (rLP p), .dat (rL ((planNames p).map rS)), .no, .no, .no, .no]) ?_)))) ?_
    · rw [List.length_map, List.length_map]; exact le16 (k := 2000) (by omega)
    · unfold planNames
      rw [List.map_append, List.map_map]; rfl
    · refine r1_appS (f := rS) (bs := b) (z := recText (.plan p.name)) 1 (RE.eq (re_adds ?_ re_str (re_lp0 G (rv 2))) (by rw [plan_text])) (by omega)
      have := tp.nm
      have h5 : ("plan " : Str).length = 5 := by decide +kernel
      exact le16 (k := 100) (by omega)
    · refine r1_nxe (r1_foldP (fun c : List Str => [.dat (rLPs ps), .aL ((b ++ [recText (.plan p.name)] ++ c).map rS), .dat (rLP p), .dat (rL ((planNames p).map rS)), .no, .no, .no, .no]) (fun c g => c ++ [recText (.given g)]) [] (by simp) (ri_list (f := rS) (xs := p.givens) (re_lp1 G (rv 2))) fun pre2 g suf2 e2 => ?_) ?_
      · have hg : g.length ≤ 12 := tp.nms g (by unfold planNames; rw [e2]; simp)
        have hle : pre2.length + 1 ≤ p.givens.length := by rw [e2, List.length_append, List.length_cons]; omega
        rw [show pre2.foldl (fun c g => c ++ [recText (.given g)]) [] = pre2.map fun g => recText (.given g) from fold_one pre2]
        refine .nx (rg_name 5) (rs_one (r1_appS (f := rS) (bs := b ++ [recText (.plan p.name)] ++ pre2.map fun g => recText (.given g)) (z := recText (.given g)) 1 (RE.eq (re_adds ?_ re_str (rv 5)) (by rw [given_text])) ?_)) ?_
        · have h5 : (" given " : Str).length = 7 := by decide +kernel
          exact le16 (k := 100) (by omega)
        · rw [List.length_append, List.length_append, List.length_map]; simp; omega
        · refine ⟨.inr rfl, .inr ?_, .inr rfl, .inr rfl, .inr rfl, .inl rfl, .inr rfl, .inr rfl, trivial⟩
          rw [List.append_assoc]
      · rw [fold_one, List.map_map]
        rfl
    · refine r1_nxe (r1_foldP (fun c : List Str => [.dat (rLPs ps), .aL ((b ++ [recText (.plan p.name)] ++ (p.givens.map NRec.given).map recText ++ c).map rS), .dat (rLP p), .dat (rL ((planNames p).map rS)), .no, .no, .no, .no]) (fun c r => c ++ [recText (recOfRow (planNames p) r)]) [] (by simp) (ri_list (f := rMRow) (xs := p.rows) (re_lp2 G (rv 2))) fun pre2 r suf2 e2 => ?_) ?_
      · have hr : r ∈ p.rows := by rw [e2]; exact List.mem_append_right _ List.mem_cons_self
        obtain ⟨t1, t2, t3⟩ := tp.rows r hr
        have hrn : r.name.length ≤ 12 := tp.nms r.name (by unfold planNames; exact List.mem_append_right _ (List.mem_map.mpr ⟨r, hr, rfl⟩))
        have hle : pre2.length + 1 ≤ p.rows.length := by rw [e2, List.length_append, List.length_cons]; omega
        rw [show pre2.foldl (fun c r => c ++ [recText (recOfRow (planNames p) r)]) [] = pre2.map fun r => recText (recOfRow (planNames p) r) from fold_one pre2]
        have hh : (howText r.how).length ≤ 17 := by
          unfold howText
          split
          · omega
          · rw [str_len_app]
            have : ("part " : Str).length = 5 := by decide +kernel
            omega
        have jl : (Txt.join comS (r.items.map fun q => itemText (nmAt (planNames p) q.1, q.2))).length ≤ 2000 := by
          have h1 := join_len comS (r.items.map fun q => itemText (nmAt (planNames p) q.1, q.2))
          have h2 : ((r.items.map fun q => itemText (nmAt (planNames p) q.1, q.2)).map (·.length)).sum ≤ (r.items.map fun q => itemText (nmAt (planNames p) q.1, q.2)).length * 43 := sumlen_le fun x hx => by
            obtain ⟨q, hq, rfl⟩ := List.mem_map.mp hx
            exact itext_len (t3 q hq)
          have h3 : comS.length = 2 := by rw [len_tl, tl_com]; rfl
          rw [List.length_map] at h1 h2
          rw [h3] at h1
          omega
        have js : ((r.items.map fun q => itemText (nmAt (planNames p) q.1, q.2)).map (·.length)).sum + (r.items.map fun q => itemText (nmAt (planNames p) q.1, q.2)).length * comS.length ≤ 16777216 := by
          have h2 : ((r.items.map fun q => itemText (nmAt (planNames p) q.1, q.2)).map (·.length)).sum ≤ (r.items.map fun q => itemText (nmAt (planNames p) q.1, q.2)).length * 43 := sumlen_le fun x hx => by
            obtain ⟨q, hq, rfl⟩ := List.mem_map.mp hx
            exact itext_len (t3 q hq)
          have h3 : comS.length = 2 := by rw [len_tl, tl_com]; rfl
          rw [List.length_map] at h2 ⊢
          rw [h3]
          omega
        let e0 : List Sl := [.dat (rLPs ps), .aL ((b ++ [recText (.plan p.name)] ++ (p.givens.map NRec.given).map recText ++ pre2.map fun r => recText (recOfRow (planNames p) r)).map rS), .dat (rLP p), .dat (rL ((planNames p).map rS)), .dat (rMRow r), .no, .dat (rS (howText r.how)), .no]
        have hsp : (" " : Str).length = 1 := by decide +kernel
        refine .nx (rg_name 4) (rs_cons (r1_set 6 (re_mr1 G (rv 4))) (rs_cons (env1 := e0) ?_ (rs_one (r1_appS (f := rS) (bs := b ++ [recText (.plan p.name)] ++ (p.givens.map NRec.given).map recText ++ pre2.map fun r => recText (recOfRow (planNames p) r)) (z := recText (recOfRow (planNames p) r)) 1 (RE.eq (re_adds ?_ (re_adds ?_ (re_adds ?_ (re_adds ?_ (re_adds ?_ re_str (re_mr0 G (rv 4))) re_str) (rv 6)) re_str) (re_join js re_str (RE.eq (rf_lc (h := fun q => rS (itemText (nmAt (planNames p) q.1, q.2))) [("item", 7)] (ri_tup (f := rPr) (xs := r.items) (re_mr2 G (rv 4))) (fun q hq => rg_name 7) (fun q hq => re_call FI (planNames p, q) (t3 q hq) (ra_cons (rv 3) (ra_cons (rv 7) ra_nil))) (small (by omega))).re ?_))) (by rw [made_text])) ?_)))) ?_
        · cases hpl : plainHow r.how with
          | true =>
            have eh : howText r.how = r.how := by unfold howText; rw [hpl]; rfl
            refine r1_if (k := false) (RT.eq (rw_and (rt_neS (rv 6) re_str) fun _ => rw_and1 (rt_neS (rv 6) re_str)).pt ?_) (fun h => by cases h) fun _ => rs_nilw (EnvLe.of ⟨.inr rfl, .inr rfl, .inr rfl, .inr rfl, .inr rfl, .inr rfl, .inr (by rw [eh]), .inr rfl, trivial⟩)
            rcases plain_cases hpl with h | h
            · rw [decide_eq_true h]; rfl
            · rw [decide_eq_true h]; simp
          | false =>
            have eh : howText r.how = "part " ++ r.how := by unfold howText; rw [hpl]; rfl
            have hno : ¬ r.how = "all" ∧ ¬ r.how = "first" := by
              unfold plainHow at hpl
              have := of_decide_eq_false hpl
              simpa using this
            refine r1_if (k := true) (RT.eq (rw_and (rt_neS (rv 6) re_str) fun _ => rw_and1 (rt_neS (rv 6) re_str)).pt ?_) (fun _ => rs_one (r1_nxe (r1_set 6 (re_adds ?_ re_str (rv 6))) (by rw [← eh]; rfl))) (fun h => by cases h)
            · rw [decide_eq_false hno.1, decide_eq_false hno.2]; rfl
            · have : ("part " : Str).length = 5 := by decide +kernel
              exact le16 (k := 100) (by omega)
        · rw [str_len_app, str_len_app, str_len_app, str_len_app]; exact le16 (k := 3000) (by omega)
        · rw [str_len_app, str_len_app, str_len_app]; exact le16 (k := 3000) (by omega)
        · rw [str_len_app, str_len_app]; exact le16 (k := 3000) (by omega)
        · rw [str_len_app]; exact le16 (k := 3000) (by omega)
        · exact le16 (k := 3000) (by omega)
        · rw [List.map_map]; rfl
        · rw [List.length_append, List.length_append, List.length_append, List.length_map, List.length_map, List.length_map]; simp; omega
        · refine ⟨.inr rfl, .inr ?_, .inr rfl, .inr rfl, .inl rfl, .inl rfl, .inl rfl, .inl rfl, trivial⟩
          rw [List.append_assoc _ (pre2.map _)]
      · have er : (p.rows.map (recOfRow (planNames p))).map recText = p.rows.map fun r => recText (recOfRow (planNames p) r) := by rw [List.map_map]; rfl
        rw [fold_one, er]
    · refine ⟨.inr rfl, .inr ?_, .inl rfl, .inl rfl, .inl rfl, .inl rfl, .inl rfl, .inl rfl, trivial⟩
      have e2 : b ++ [recText (.plan p.name)] ++ (p.givens.map NRec.given).map recText ++ (p.rows.map (recOfRow (planNames p))).map recText = b ++ (recsOf p).map recText := by
        unfold recsOf
        rw [List.map_cons, List.map_append]
        simp only [List.append_assoc, List.cons_append, List.nil_append]
      rw [e2]
  · rw [fold_flat ps []]
    have e : ([] ++ ps.flatMap fun p => (recsOf p).map recText) = (recsAll ps).map recText := by unfold recsAll; rw [List.map_flatMap]; rfl
    rw [e]
    exact rs_one (r1_retL 1)
end
end K60
/-! text W19 -/
set_option Elab.async false
set_option linter.all false
set_option maxRecDepth 100000
set_option maxHeartbeats 4000000
namespace K60
open PySem PyProof.Rows Rl
open PySem.Spec hiding Row
open L2 (E0 XK Hp V atI ixN inClass defScope upd upd_same upd_ne HO Same)
/-! ### the run -/
def comeOf (told : List Int) (items : Row) : List Int := items.map fun q => told.getD q.1.toNat 0 + q.2
def headsOf (ps : List MPlan) : List Str := ps.map (·.name)
def hourOf (rec : Nat → List Int → Int) (ps : List MPlan) (told : List Int) (r : MRow) : Int :=
  if r.how = "all" then maxL (comeOf told r.items) else if r.how = "first" then minL (comeOf told r.items) else rec (idxS (headsOf ps) r.how) (comeOf told r.items)
def runRow (rec : Nat → List Int → Int) (ps : List MPlan) (told : List Int) (r : MRow) : List Int := told ++ [hourOf rec ps told r]
def runN (ps : List MPlan) : Nat → Nat → List Int → Int
  | 0, _, _ => 0
  | n + 1, i, hours => match ps[i]? with
    | none => 0
    | some p => (p.rows.foldl (runRow (runN ps n) ps) hours).getLastD 0
structure RunPre (ps : List MPlan) (n i : Nat) (hours : List Int) : Prop where
  good : BookGood ps
  few : ps.length ≤ 1000
  lt : i < n
  at_ : ∃ p, ps[i]? = some p ∧ hours.length = p.givens.length
abbrev P_run (Γ : Cg) (n : Nat) : Prop := Fn0 Γ (n + 1) "_law_run" ["plans", "at", "hours"] (Sp0 (fun x : List MPlan × Nat × List Int => RunPre x.1 n x.2.1 x.2.2) (fun x => [rLPs x.1, rI x.2.1, rL (x.2.2.map rI)]) fun x => rI (runN x.1 n x.2.1 x.2.2))
theorem at_int {xs : List Int} {t : Int} (h0 : 0 ≤ t) (h1 : t < xs.length) : atI (xs.map rI) t = some (rI (xs.getD t.toNat 0)) := by
  have e : xs[t.toNat]? = some (xs.getD t.toNat 0) := by
    rw [List.getD_eq_getElem?_getD, List.getElem?_eq_getElem (by omega)]
    rfl
  have : t = (t.toNat : Int) := by omega
  rw [this]
  exact atI_nat (by rw [List.getElem?_map, ← this, e]; rfl)
theorem idx_head {ps : List MPlan} (hn : (headsOf ps).Nodup) {j : Nat} {p : MPlan} (h : ps[j]? = some p) : idxS (headsOf ps) p.name = j := by
  have hx : (headsOf ps)[j]? = some p.name := by unfold headsOf; rw [List.getElem?_map, h]; rfl
  have hm : p.name ∈ headsOf ps := List.mem_of_getElem? hx
  have hi := idxS_at hm
  obtain ⟨h1, h2⟩ := List.getElem?_eq_some_iff.mp hx
  obtain ⟨h3, h4⟩ := List.getElem?_eq_some_iff.mp hi
  rcases Nat.lt_trichotomy (idxS (headsOf ps) p.name) j with z | z | z
  · exact absurd (by rw [h4, h2]) (List.pairwise_iff_getElem.mp hn _ _ h3 h1 z)
  · exact z
  · exact absurd (by rw [h4, h2]) (List.pairwise_iff_getElem.mp hn _ _ h1 h3 z)
theorem runFold_len {rec : Nat → List Int → Int} {ps : List MPlan} : ∀ (rs : List MRow) (told : List Int), (rs.foldl (runRow rec ps) told).length = told.length + rs.length
  | [], told => rfl
  | r :: rs, told => by
    rw [List.foldl_cons, runFold_len rs]
    show (told ++ [_]).length + rs.length = told.length + (rs.length + 1)
    rw [List.length_append, List.length_cons, List.length_nil]; omega
section
variable {Γ : Cg} {C : Cls} (G : Gk Γ C)
include G
theorem w_run0 (D : DfAt Γ "_law_run" 76 ["plans", "at", "hours"]) : P_run Γ 0 :=
  def0 0 Ll_run D Sl_run rfl rfl (fun _ => rfl) fun x h => absurd h.lt (Nat.not_lt_zero _)
theorem w_run {n : Nat} (F : P_run Γ n) (D : DfAt Γ "_law_run" 76 ["plans", "at", "hours"]) : P_run Γ (n + 1) := by
  refine def0 (n + 1) Ll_run D Sl_run rfl rfl (fun _ => rfl) fun ⟨ps, i, hours⟩ h => ⟨.ret (rI (runN ps (n + 1) i hours)), rfl, ?_⟩
  have h : RunPre ps (n + 1) i hours := h
  obtain ⟨p, hp, hl⟩ := h.at_
  have pg := h.good.plan i p hp
  have few := h.few
  have hlt := h.lt
  have g2 := pg.g2
  have g1 := pg.g1
  have rfew := pg.few
  have ep : runN ps (n + 1) i hours = (p.rows.foldl (runRow (runN ps n) ps) hours).getLastD 0 := by
    unfold runN
    rw [hp]
  rw [ep]
  refine rs_cons (r1_own 3 (rf_list (G.bi _ (by decide)) (rp_of (rs := hours.map rI) (rv 2)))) ?_
  refine rs_cons (r1_setlc (q := fun _ => true) (h := fun p => rS p.name) 4 [("plan", 5)] (ri_list (f := rLP) (xs := ps) (rv 0)) (fun p hp => rg_name 5) (fun p hp => rts_nil) (fun p hp _ => re_lp0 G (rv 5)) (small few)) ?_
  rw [filter_true]
  have eh : ps.map (fun p => rS p.name) = (headsOf ps).map rS := by unfold headsOf; rw [List.map_map]; rfl
  rw [eh]
  refine RS.freeze 4 rfl ?_
  have pl : ∀ {env L E e e2 pos}, RE Γ L E e env (rLPs ps) → RE Γ L E e2 env (rI (i : Int)) → L2.PlainIx e2 → RE Γ L E (.Subscript e e2 pos) env (rLP p) := fun a b c => re_ixL (rs := ps.map rLP) (i := i) (atI_nat (by rw [List.getElem?_map, hp]; rfl)) (rp_of a) b c
  refine rs_cons (r1_foldP (fun told : List Int => [.dat (rLPs ps), .dat (rI i), .dat (rL (hours.map rI)), .aL (told.map rI), .dat (rL ((headsOf ps).map rS)), .no, .no, .no, .no, .no, .no, .no]) (runRow (runN ps n) ps) hours rfl (ri_list (f := rMRow) (xs := p.rows) (re_lp2 G (pl (rv 0) (rv 1) (by intro _ _; rfl)))) fun pre r suf e => ?_) ?_
  · have hr : p.rows[pre.length]? = some r := by rw [e, List.getElem?_append_right (Nat.le_refl _), Nat.sub_self]; rfl
    have rgd := pg.row _ _ hr
    have tl : (pre.foldl (runRow (runN ps n) ps) hours).length = p.givens.length + pre.length := by rw [runFold_len, hl]
    have plen : pre.length < p.rows.length := (List.getElem?_eq_some_iff.mp hr).1
    generalize pre.foldl (runRow (runN ps n) ps) hours = told at tl
    have ifew := rgd.few
    have cne : comeOf told r.items ≠ [] := fun z => rgd.ne (by unfold comeOf at z; simpa using z)
    have addl : told.length < 16777216 := by omega
    have ec : ((r.items.filter fun _ => true).map fun q => rI (told.getD q.1.toNat 0 + q.2)) = (comeOf told r.items).map rI := by
      rw [filter_true]
      unfold comeOf
      rw [List.map_map]
      rfl
    have fin : ∀ (e' : List Sl) (z : Int), hourOf (runN ps n) ps told r = z → (∃ a6 a7 a8 a9 a10 a11, e' = [.dat (rLPs ps), .dat (rI i), .dat (rL (hours.map rI)), .aL ((told ++ [z]).map rI), .dat (rL ((headsOf ps).map rS)), .no, a6, a7, a8, a9, a10, a11]) → envLeB e' [.dat (rLPs ps), .dat (rI i), .dat (rL (hours.map rI)), .aL ((runRow (runN ps n) ps told r).map rI), .dat (rL ((headsOf ps).map rS)), .no, .no, .no, .no, .no, .no, .no] := by
      rintro e' z hz ⟨a6, a7, a8, a9, a10, a11, rfl⟩
      refine ⟨.inr rfl, .inr rfl, .inr rfl, .inr ?_, .inr rfl, .inr rfl, .inl rfl, .inl rfl, .inl rfl, .inl rfl, .inl rfl, .inl rfl, trivial⟩
      unfold runRow
      rw [hz]
    by_cases h1 : r.how = "all"
    · refine .nx (rg_tup (rgs_cons (rg_name 6) (rgs_cons (rg_name 7) (rgs_cons (rg_name 8) rgs_nil)))) (rs_cons (env1 := [.dat (rLPs ps), .dat (rI i), .dat (rL (hours.map rI)), .aL (told.map rI), .dat (rL ((headsOf ps).map rS)), .no, .dat (rS r.name), .dat (rS r.how), .dat (rT (r.items.map rPr)), .aL ((comeOf told r.items).map rI), .no, .no]) (r1_nxe (r1_setlc (q := fun _ => true) (h := fun q => rI (told.getD q.1.toNat 0 + q.2)) 9 [("thing", 10), ("wait", 11)] (ri_tup (f := rPr) (xs := r.items) (rv 8)) (fun q hq => rg_tup (rgs_cons (rg_name 10) (rgs_cons (rg_name 11) rgs_nil))) (fun q hq => rts_nil) (fun q hq _ => re_add (re_ixL (rs := told.map rI) (i := q.1) (at_int (rgd.th q hq).1 (by rw [tl]; exact (rgd.th q hq).2)) (rp_acc 3) (rv 10)) (rv 11)) (small (by omega))) (by rw [ec]; rfl)) (rs_one (r1_if (k := true) (RT.eq (rt_eqS (rv 7) re_str) (decide_eq_true h1)) (fun _ => rs_one (r1_appS (f := rI) (bs := told) (z := maxL (comeOf told r.items)) 3 (re_maxL cne (G.bi _ (by decide)) (rp_acc 9)) addl)) (fun h => by cases h)))) (fin _ (maxL (comeOf told r.items)) (by unfold hourOf; rw [if_pos h1]) ⟨_, _, _, _, _, _, rfl⟩)
    · by_cases h2 : r.how = "first"
      · refine .nx (rg_tup (rgs_cons (rg_name 6) (rgs_cons (rg_name 7) (rgs_cons (rg_name 8) rgs_nil)))) (rs_cons (env1 := [.dat (rLPs ps), .dat (rI i), .dat (rL (hours.map rI)), .aL (told.map rI), .dat (rL ((headsOf ps).map rS)), .no, .dat (rS r.name), .dat (rS r.how), .dat (rT (r.items.map rPr)), .aL ((comeOf told r.items).map rI), .no, .no]) (r1_nxe (r1_setlc (q := fun _ => true) (h := fun q => rI (told.getD q.1.toNat 0 + q.2)) 9 [("thing", 10), ("wait", 11)] (ri_tup (f := rPr) (xs := r.items) (rv 8)) (fun q hq => rg_tup (rgs_cons (rg_name 10) (rgs_cons (rg_name 11) rgs_nil))) (fun q hq => rts_nil) (fun q hq _ => re_add (re_ixL (rs := told.map rI) (i := q.1) (at_int (rgd.th q hq).1 (by rw [tl]; exact (rgd.th q hq).2)) (rp_acc 3) (rv 10)) (rv 11)) (small (by omega))) (by rw [ec]; rfl)) (rs_one (r1_if (k := false) (RT.eq (rt_eqS (rv 7) re_str) (decide_eq_false h1)) (fun h => by cases h) fun _ => rs_one (r1_if (k := true) (RT.eq (rt_eqS (rv 7) re_str) (decide_eq_true h2)) (fun _ => rs_one (r1_appS (f := rI) (bs := told) (z := minL (comeOf told r.items)) 3 (re_minL cne (G.bi _ (by decide)) (rp_acc 9)) addl)) (fun h => by cases h))))) (fin _ (minL (comeOf told r.items)) (by unfold hourOf; rw [if_neg h1, if_pos h2]) ⟨_, _, _, _, _, _, rfl⟩)
      · obtain ⟨j, q, hj, hq, hqn, hqg, _, _⟩ := (rgd.how.resolve_left h1).resolve_left h2
        have hidx : idxS (headsOf ps) r.how = j := by rw [← hqn]; exact idx_head h.good.nd hq
        have hmem : r.how ∈ headsOf ps := by rw [← hqn]; exact List.mem_map.mpr ⟨q, List.mem_of_getElem? hq, rfl⟩
        have hpre : RunPre ps n (idxS (headsOf ps) r.how) (comeOf told r.items) := ⟨h.good, few, by rw [hidx]; omega, q, by rw [hidx]; exact hq, by unfold comeOf; rw [List.length_map]; exact hqg.symm⟩
        refine .nx (rg_tup (rgs_cons (rg_name 6) (rgs_cons (rg_name 7) (rgs_cons (rg_name 8) rgs_nil)))) (rs_cons (env1 := [.dat (rLPs ps), .dat (rI i), .dat (rL (hours.map rI)), .aL (told.map rI), .dat (rL ((headsOf ps).map rS)), .no, .dat (rS r.name), .dat (rS r.how), .dat (rT (r.items.map rPr)), .aL ((comeOf told r.items).map rI), .no, .no]) (r1_nxe (r1_setlc (q := fun _ => true) (h := fun q => rI (told.getD q.1.toNat 0 + q.2)) 9 [("thing", 10), ("wait", 11)] (ri_tup (f := rPr) (xs := r.items) (rv 8)) (fun q hq => rg_tup (rgs_cons (rg_name 10) (rgs_cons (rg_name 11) rgs_nil))) (fun q hq => rts_nil) (fun q hq _ => re_add (re_ixL (rs := told.map rI) (i := q.1) (at_int (rgd.th q hq).1 (by rw [tl]; exact (rgd.th q hq).2)) (rp_acc 3) (rv 10)) (rv 11)) (small (by omega))) (by rw [ec]; rfl)) (RS.freeze 9 rfl (rs_one (r1_if (k := false) (RT.eq (rt_eqS (rv 7) re_str) (decide_eq_false h1)) (fun h => by cases h) fun _ => rs_one (r1_if (k := false) (RT.eq (rt_eqS (rv 7) re_str) (decide_eq_false h2)) (fun h => by cases h) fun _ => rs_one (r1_appS (f := rI) (bs := told) (z := runN ps n (idxS (headsOf ps) r.how) (comeOf told r.items)) 3 (re_call F (ps, idxS (headsOf ps) r.how, comeOf told r.items) hpre (ra_cons (rv 0) (ra_cons (re_indexS hmem (rp_of (rv 4)) (rv 7)) (ra_cons (rv 9) ra_nil))) (Nat.le_refl _)) addl)))))) (fin _ (runN ps n (idxS (headsOf ps) r.how) (comeOf told r.items)) (by unfold hourOf; rw [if_neg h1, if_neg h2]) ⟨_, _, _, _, _, _, rfl⟩)
  · have hne : p.rows.foldl (runRow (runN ps n) ps) hours ≠ [] := fun z => by
      have := runFold_len (rec := runN ps n) (ps := ps) p.rows hours
      rw [z] at this
      have this : 0 = hours.length + p.rows.length := this
      omega
    generalize p.rows.foldl (runRow (runN ps n) ps) hours = told at hne
    refine rs_one (r1_ret (re_ixL (rs := told.map rI) (i := -1) (atI_last ?_) (rp_acc 3) (re_neg re_int)))
    rw [List.length_map, List.getElem?_map, List.getLastD_eq_getLast?, List.getLast?_eq_getElem?]
    cases e2 : told[told.length - 1]? with
    | none =>
      have := List.getElem?_eq_none_iff.mp e2
      have : told.length ≠ 0 := fun z => hne (List.eq_nil_of_length_eq_zero z)
      omega
    | some x => rfl
end
end K60
/-! text RL20 -/
set_option Elab.async false
set_option linter.all false
set_option maxRecDepth 100000
set_option maxHeartbeats 4000000
namespace Rl
open PySem PySem.Spec PyProof.Rows L2
section
variable {Γ : Cg} {L : Lc} {E : Wc} {env : List Sl} {a b c tg : Expr} {pos p p2 pos2 : Pos}
/-- list(range(n)) -/
theorem rf_listRange {n : Nat} (hn : n ≤ 1000) (hl : Γ.mg "list" = none) (hr : Γ.mg "range" = none) (ha : RE Γ L E a env (rI (n : Int))) (hg : gloB L "list" = true := by decide +kernel) (hg2 : gloB L "range" = true := by decide +kernel) (hs : ∀ en : Env, starEach [a] en = (false, eval a en) :: starEach [] en := by intro _; rfl)
    (hs2 : ∀ en : Env, starEach [.Call (.Name "range" p2) [a] [] pos2] en = (false, eval (.Call (.Name "range" p2) [a] [] pos2) en) :: starEach [] en := by intro _; rfl) :
    RF Γ L E (.Call (.Name "list" p) [.Call (.Name "range" p2) [a] [] pos2] [] pos) env ((List.range n).map fun (k : Nat) => rI (k : Int)) := by
  obtain ⟨t, h1, h2⟩ := ha
  refine ⟨tLstRg (tRg1 t), fun X o => pe_listRg o.calm (o.gl hg) (by rw [o.mg]; exact hl) (prg_1 (o.gl hg2) (by rw [o.mg]; exact hr) (h1 X o) (hs _)) (hs2 _), fun H0 B H σ Q s q => h2 H0 B H σ _ s fun v B2 H2 g k => ?_⟩
  have k : v = .int (n : Int) := k
  refine ⟨(n : Int), k, RgOk.of_le (by omega) (by omega) (by omega) (by omega), fun l hl => ?_⟩
  have e : rgV 0 (n : Int) = (List.range n).map fun (k : Nat) => V.int (k : Int) := by
    unfold rgV
    have : ((n : Int) - 0).toNat = n := by omega
    rw [this]
    refine List.map_congr_left fun i _ => ?_
    rw [Int.zero_add]
  rw [e]
  exact q l _ B2 _ (g.trans (Grow.stay g.i (same_new hl _))) upd_same (g.i.free hl) (g.h.free hl) (Oks.of (fun _ => rfl) _)
/-- the count of 2, 4, .. below m -/
def cnt2 (m : Nat) : Nat := (m - 1) / 2
theorem rgc2 : ∀ m : Fin 39, RgC 2 (m.1 : Int) 2 (cnt2 m.1) := by
  intro m
  unfold RgC
  revert m
  decide +kernel
theorem ri_range2 {m : Nat} (hm : m ≤ 38) (hr : Γ.mg "range" = none) (h1 : RE Γ L E a env (rI 2)) (h2 : RE Γ L E b env (rI (m : Int))) (h3 : RE Γ L E c env (rI 2)) (hg : gloB L "range" = true := by decide +kernel)
    (hs : ∀ en : Env, starEach [a, b, c] en = (false, eval a en) :: starEach [b, c] en := by intro _; rfl) (hs2 : ∀ en : Env, starEach [b, c] en = (false, eval b en) :: starEach [c] en := by intro _; rfl) (hs3 : ∀ en : Env, starEach [c] en = (false, eval c en) :: starEach [] en := by intro _; rfl) (hp : ∀ en : Env, (backTo pos (starEach [b, c] en)).any (·.1) = false := by intro _; rfl) :
    RI Γ L E tg (.Call (.Name "range" p) [a, b, c] [] pos) env (List.range (cnt2 m)) (fun (k : Nat) => rI (2 + (k : Int) * 2)) := by
  obtain ⟨t, a1, a2⟩ := ra_cons h1 (ra_cons h2 (ra_cons h3 ra_nil hs3) hs2) hs
  refine ⟨iRng3 t, fun X o => pi_range3 (o.gl hg) (by rw [o.mg]; exact hr) (a1 X o) (hs _) (hp _), fun H0 B H σ R s q => a2 H0 B H σ _ s fun vs B2 H2 g k => ?_⟩
  obtain ⟨v1, vs, rfl, k1, k⟩ := k.cons
  obtain ⟨v2, v3, rfl, k2, k3⟩ := k.two
  have k1 : v1 = .int 2 := k1
  have k2 : v2 = .int m := k2
  have k3 : v3 = .int 2 := k3
  subst k1 k2 k3
  refine ⟨2, m, 2, cnt2 m, rfl, rgc2 ⟨m, by omega⟩, q _ B2 H2 g fun i B3 H3 s1 s2 => ⟨fun x hx => ?_, fun hi => ?_⟩⟩
  · obtain ⟨h3, h4⟩ := range_at hx
    subst h4
    exact ⟨h3, fun u H' ⟨e3, e4⟩ => by subst e3; exact ⟨B3, Grow.refl s2, e4⟩⟩
  · show cnt2 m ≤ i
    rw [hi, List.length_range]
    exact Nat.le_refl _
end
end Rl
/-! text W20 -/
set_option Elab.async false
set_option linter.all false
set_option maxRecDepth 100000
set_option maxHeartbeats 4000000
namespace K60
open PySem PyProof.Rows Rl
open PySem.Spec hiding Row
open L2 (E0 XK Hp V atI ixN inClass defScope upd upd_same upd_ne HO Same)
open TL (tl tl_append ext_tl len_tl mk_tl tl_mk numL tl_num split_join partition_app partition_none tl_join joinL)
/-! ### hours drawn, the second plan's choice, the spoilt text -/
def hourCell (xs : List Int) (turn thing : Nat) : Int := cellAt xs ((turn * 3 + thing) % max 1 xs.length)
def mixedOf (xs : List Int) (turn thing : Nat) : Int := hourCell xs turn thing * 48271 % 2147483647 * (turn + 1) + hourCell xs turn thing / 7 + thing * thing
def hourAt (xs : List Int) (turn thing : Nat) : Int := ([mixedOf xs turn thing % 30, mixedOf xs turn thing % 10 ^ 60, 0 - mixedOf xs turn thing % 10 ^ 60] : List Int).getD (turn % 3) 0
def hoursOf (xs : List Int) (many turn : Nat) : List Int := (List.range many).map (hourAt xs turn)
abbrev P_lhours (Γ : Cg) : Prop := Fn0 Γ 2 "_law_hours" ["script", "many", "turn"] (Sp0 (fun x : List Int × Nat × Nat => x.2.1 ≤ 1000 ∧ x.2.2 ≤ 1000) (fun x => [rQ Γ.K x.1, rI x.2.1, rI x.2.2]) fun x => rHours (hoursOf x.1 x.2.1 x.2.2))
def givAt (ps : List MPlan) (i : Nat) : Nat := (ps[i]?.map fun p => p.givens.length).getD 0
def someOf (ps : List MPlan) (i : Nat) (cell : Int) : List Nat := if cell % 6 = 1 then List.range ps.length else (List.range ps.length).filter fun to => decide (givAt ps to = givAt ps i)
def choiceI (ps : List MPlan) (i : Nat) (cell : Int) : Nat := (someOf ps i cell).getD ((cell / 12) % (someOf ps i cell).length).toNat 0
abbrev P_choice (Γ : Cg) : Prop := Fn0 Γ 1 "_law_choice" ["plans", "at", "cell"] (Sp0 (fun x : List MPlan × Nat × Int => x.1.length ≤ 1000 ∧ x.2.1 < x.1.length) (fun x => [rLPs x.1, rI x.2.1, rI x.2.2]) fun x => rI (choiceI x.1 x.2.1 x.2.2))
theorem some_ne {ps : List MPlan} {i : Nat} (hi : i < ps.length) (cell : Int) : someOf ps i cell ≠ [] := by
  have hm : i ∈ someOf ps i cell := by
    unfold someOf
    split
    · exact List.mem_range.mpr hi
    · exact List.mem_filter.mpr ⟨List.mem_range.mpr hi, by simp⟩
  exact fun e => by rw [e] at hm; cases hm
theorem some_len (ps : List MPlan) (i : Nat) (cell : Int) : (someOf ps i cell).length ≤ ps.length := by
  unfold someOf
  split
  · rw [List.length_range]; exact Nat.le_refl _
  · exact Nat.le_trans (List.length_filter_le _ _) (by rw [List.length_range]; exact Nat.le_refl _)
section
variable {Γ : Cg} {C : Cls} (G : Gk Γ C)
include G
theorem w_lhours (FC : P_cell Γ) (D : DfAt Γ "_law_hours" 77 ["script", "many", "turn"]) : P_lhours Γ := by
  refine def0 1 Ll_hours D Sl_hours rfl rfl (fun _ => rfl) fun ⟨xs, many, turn⟩ ⟨hm, ht⟩ => ⟨.ret (rHours (hoursOf xs many turn)), rfl, ?_⟩
  have hm : many ≤ 1000 := hm
  have ht : turn ≤ 1000 := ht
  refine rs_cons (r1_own 3 (rf_lst ra_nil)) ?_
  refine rs_cons (r1_upto (fun n => [.dat (rQ Γ.K xs), .dat (rI many), .dat (rI turn), .aL (((List.range n).map (hourAt xs turn)).map rI), .no, .no, .no]) rfl (ri_range (n := many) (by omega) (G.bi _ (by decide)) (rv 1)) fun n k hk => ?_) ?_
  · obtain ⟨hk1, hk2⟩ := range_at hk
    subst hk2
    have hpos : (0 : Int) < max 1 (xs.length : Int) := by omega
    have b1 : 0 ≤ hourCell xs turn k * 48271 % 2147483647 := Int.emod_nonneg _ (by decide)
    have b2 : hourCell xs turn k * 48271 % 2147483647 < 2147483647 := Int.emod_lt_of_pos _ (by decide)
    refine .nx (rg_name 4) (rs_cons (env1 := [.dat (rQ Γ.K xs), .dat (rI many), .dat (rI turn), .aL (((List.range k).map (hourAt xs turn)).map rI), .dat (rI k), .dat (rI (hourCell xs turn k)), .no]) (r1_set 5 (re_call FC (xs, (turn * 3 + k) % max 1 xs.length) trivial (ra_cons (rv 0) (ra_cons (RE.eq (re_mod hpos (re_add (re_mul (.inr ⟨by decide, by decide⟩) (rv 2) re_int) (rv 4)) (re_max2 (G.bi _ (by decide)) re_int (RE.eq (re_len (G.bi _ (by decide)) (rp_q (ns := xs) (rv 0))) (by rw [List.length_map])))) ?_) ra_nil)))) (rs_cons (env1 := [.dat (rQ Γ.K xs), .dat (rI many), .dat (rI turn), .aL (((List.range k).map (hourAt xs turn)).map rI), .dat (rI k), .dat (rI (hourCell xs turn k)), .dat (rI (mixedOf xs turn k))]) (r1_set 6 (re_add (re_add (re_mul (.inl ⟨by omega, by omega⟩) (re_mod (by decide) (re_mul (.inr ⟨by decide, by decide⟩) (rv 5) re_int) re_int) (re_add (rv 2) re_int)) (re_fdiv ⟨by decide, by decide⟩ (rv 5) re_int)) (re_mul (.inl ⟨by omega, by omega⟩) (rv 4) (rv 4)))) (rs_one (r1_appS (f := rI) (bs := (List.range k).map (hourAt xs turn)) (z := hourAt xs turn k) 3 (re_ixL (rs := [rI (mixedOf xs turn k % 30), rI (mixedOf xs turn k % 10 ^ 60), rI (0 - mixedOf xs turn k % 10 ^ 60)]) (i := (((turn % 3 : Nat)) : Int)) ?_ (rp_of (rf_lst (ra_cons (re_mod (by decide) (rv 6) re_int) (ra_cons (re_mod (j := 10 ^ 60) (by decide) (rv 6) (re_pow (i := 10) (j := 60) ⟨by decide, by decide, by decide⟩ re_int re_int)) (ra_cons (re_sub re_int (re_mod (j := 10 ^ 60) (by decide) (rv 6) (re_pow (i := 10) (j := 60) ⟨by decide, by decide, by decide⟩ re_int re_int))) ra_nil)))).re) (RE.eq (re_mod (by decide) (rv 2) re_int) (by congr 2))) ?_)))) ?_
    · congr 2
      rw [Int.natCast_emod, Int.natCast_add, Int.natCast_mul]
      have : max (1 : Int) (xs.length : Int) = ((max 1 xs.length : Nat) : Int) := by omega
      rw [this]
      rfl
    · unfold hourAt
      have : turn % 3 = 0 ∨ turn % 3 = 1 ∨ turn % 3 = 2 := by omega
      rcases this with e | e | e <;> rw [e]
      · exact at0 _ _
      · exact atI_nat (n := 1) rfl
      · exact atI_nat (n := 2) rfl
    · rw [List.length_map, List.length_range]; omega
    · refine ⟨.inr rfl, .inr rfl, .inr rfl, .inr ?_, .inl rfl, .inl rfl, .inl rfl, trivial⟩
      have e2 : ((List.range k).map (hourAt xs turn)) ++ [hourAt xs turn k] = (List.range (k + 1)).map (hourAt xs turn) := by rw [List.range_succ, List.map_append]; rfl
      show Sl.aL (List.map rI (((List.range k).map (hourAt xs turn)) ++ [hourAt xs turn k])) = _
      rw [e2]
  · rw [List.length_range]
    exact rs_one (r1_retL 3)
theorem w_choice (D : DfAt Γ "_law_choice" 84 ["plans", "at", "cell"]) : P_choice Γ := by
  refine def0 0 Ll_choice D Sl_choice rfl rfl (fun _ => rfl) fun ⟨ps, i, cell⟩ ⟨hl, hi⟩ => ⟨.ret (rI (choiceI ps i cell)), rfl, ?_⟩
  have hl : ps.length ≤ 1000 := hl
  have hi : i < ps.length := hi
  have gl : ∀ {env L E e e2 pos p2 j p3} {k : Nat}, k < ps.length → RE Γ L E e env (rLPs ps) → RE Γ L E e2 env (rI (k : Int)) → L2.PlainIx e2 → RE Γ L E (.Subscript (.Subscript e e2 pos) (.Constant (.int 1) j p2) p3) env (rL (((ps[k]?.map fun p => p.givens).getD []).map rS)) := fun {env L E e e2 pos p2 j p3 k} hk a b c => by
    have hx : ps[k]? = some ps[k] := List.getElem?_eq_getElem hk
    refine RE.eq (re_lp1 G (p := ps[k]) (re_ixL (rs := ps.map rLP) (i := k) (atI_nat (by rw [List.getElem?_map, hx]; rfl)) (rp_of a) b c)) ?_
    rw [hx]; rfl
  have gn : ∀ k : Nat, ((((ps[k]?.map fun p => p.givens).getD []).map rS).length : Int) = (givAt ps k : Int) := fun k => by
    unfold givAt
    rw [List.length_map]
    cases ps[k]? <;> rfl
  refine rs_cons (env1 := [.dat (rLPs ps), .dat (rI i), .dat (rI cell), .dat (rI (givAt ps i)), .no, .no]) (r1_set 3 (RE.eq (re_len (G.bi _ (by decide)) (rp_of (gl hi (rv 0) (rv 1) (by intro _ _; rfl)))) (by rw [gn]))) ?_
  refine rs_cons (r1_setlc (q := fun to => decide (givAt ps to = givAt ps i)) (h := fun (k : Nat) => rI (k : Int)) 4 [("to", 5)] (ri_range (n := ps.length) (by omega) (G.bi _ (by decide)) (RE.eq (re_len (G.bi _ (by decide)) (rp_of (rs := ps.map rLP) (rv 0))) (by rw [List.length_map]))) (fun k hk => rg_name 5) (fun k hk => rts_one (RT.eq (rt_eqI (i := (givAt ps k : Int)) (j := (givAt ps i : Int)) (RE.eq (re_len (G.bi _ (by decide)) (rp_of (gl (List.mem_range.mp hk) (rv 0) (rv 5) (by intro _ _; rfl)))) (by rw [gn])) (rv 3)) (decide_eq_decide.mpr ⟨fun h => Int.ofNat.inj h, fun h => congrArg _ h⟩))) (fun k hk _ => rv 5) (small (by rw [List.length_range]; exact hl))) ?_
  refine RS.freeze 4 (rs := ((List.range ps.length).filter fun to => decide (givAt ps to = givAt ps i)).map fun (k : Nat) => rI (k : Int)) rfl ?_
  refine rs_cons (env1 := [.dat (rLPs ps), .dat (rI i), .dat (rI cell), .dat (rI (givAt ps i)), .dat (rL ((someOf ps i cell).map fun (k : Nat) => rI (k : Int))), .no]) ?_ (rs_one (r1_ret ?_))
  · refine r1_if (k := decide (cell % 6 = 1)) (rt_eqI (re_mod (by decide) (rv 2) re_int) re_int) (fun h => ?_) fun h => ?_
    · have e : someOf ps i cell = List.range ps.length := by unfold someOf; rw [if_pos (of_decide_eq_true h)]
      rw [e]
      exact rs_one (r1_set 4 (rf_listRange hl (G.bi _ (by decide)) (G.bi _ (by decide)) (RE.eq (re_len (G.bi _ (by decide)) (rp_of (rs := ps.map rLP) (rv 0))) (by rw [List.length_map]))).re)
    · have e : someOf ps i cell = (List.range ps.length).filter fun to => decide (givAt ps to = givAt ps i) := by unfold someOf; rw [if_neg (of_decide_eq_false h)]
      rw [e]
      exact rs_nil
  · have hne := some_ne hi cell
    have hsl := some_len ps i cell
    have hpos : 0 < (someOf ps i cell).length := List.length_pos_iff.mpr hne
    unfold choiceI
    generalize someOf ps i cell = ss at hne hsl hpos
    have h1 : 0 ≤ (cell / 12) % (ss.length : Int) := Int.emod_nonneg _ (by omega)
    have h2 : (cell / 12) % (ss.length : Int) < ss.length := Int.emod_lt_of_pos _ (by omega)
    refine re_ixL (rs := ss.map fun (k : Nat) => rI (k : Int)) (i := (cell / 12) % (ss.length : Int)) ?_ (rp_of (rv 4)) (re_mod (by omega) (re_fdiv ⟨by decide, by decide⟩ (rv 2) re_int) (RE.eq (re_len (G.bi _ (by decide)) (rp_of (rs := ss.map fun (k : Nat) => rI (k : Int)) (rv 4))) (by rw [List.length_map])))
    generalize (cell / 12) % (ss.length : Int) = t at h1 h2
    have e : ss[t.toNat]? = some (ss.getD t.toNat 0) := by
      rw [List.getD_eq_getElem?_getD, List.getElem?_eq_getElem (by omega)]
      rfl
    have : t = (t.toNat : Int) := by omega
    rw [this]
    exact atI_nat (by rw [List.getElem?_map, ← this, e]; rfl)
end
end K60
/-! text W21 -/
set_option Elab.async false
set_option linter.all false
set_option maxRecDepth 100000
set_option maxHeartbeats 4000000
namespace K60
open PySem PyProof.Rows Rl
open PySem.Spec hiding Row
open L2 (E0 XK Hp V atI ixN inClass defScope upd upd_same upd_ne HO Same)
/-! ### the plans, built -/
abbrev Z3 := Addr × Addr × Addr
structure Wk where
  pp : Addr
  pl : Addr
  z : Z3
  pre : List MPlan
  l : MPlan
  loads : List Int
def Wk.ps (w : Wk) : List MPlan := w.pre ++ [w.l]
def pWork (w : Wk) : Pd :=
  ⟨fun H0 B H => (∃ vs, OwnAt H0 B H w.pp (.lst (vs ++ [.ref w.z.1])) ∧ Oks B (w.pre.map rLP) vs) ∧ OwnAt H0 B H w.z.1 (.lst [.str w.l.name, .ref w.z.2.1, .ref w.z.2.2]) ∧ OwnAt H0 B H w.z.2.1 (.lst (w.l.givens.map V.str)) ∧ (∃ wb, OwnAt H0 B H w.z.2.2 (.lst wb) ∧ Oks B (w.l.rows.map rMRow) wb) ∧ OwnAt H0 B H w.pl (.lst (w.loads.map V.int)) ∧ [w.pp, w.z.1, w.z.2.1, w.z.2.2, w.pl].Nodup,
    fun g ⟨⟨vs, h1, h2⟩, h3, h4, ⟨wb, h5, h6⟩, h7, h8⟩ => ⟨⟨vs, h1.grow g, h2.mono g.b⟩, h3.grow g, h4.grow g, ⟨wb, h5.grow g, h6.mono g.b⟩, h7.grow g, h8⟩⟩
structure WkD (w : Wk) : Prop where
  a : w.pp ≠ w.z.1 ∧ w.pp ≠ w.z.2.1 ∧ w.pp ≠ w.z.2.2 ∧ w.pp ≠ w.pl
  b : w.z.1 ≠ w.z.2.1 ∧ w.z.1 ≠ w.z.2.2 ∧ w.z.1 ≠ w.pl
  c : w.z.2.1 ≠ w.z.2.2 ∧ w.z.2.1 ≠ w.pl
  d : w.z.2.2 ≠ w.pl
theorem nd5 {w : Wk} (h : [w.pp, w.z.1, w.z.2.1, w.z.2.2, w.pl].Nodup) : WkD w := by
  simp only [List.nodup_cons, List.mem_cons, not_or, List.not_mem_nil, not_false_eq_true, and_true, List.nodup_nil] at h
  obtain ⟨⟨h1, h2, h3, h4⟩, ⟨h5, h6, h7⟩, ⟨h8, h9⟩, h10⟩ := h
  exact ⟨⟨h1, h2, h3, h4⟩, ⟨h5, h6, h7⟩, ⟨h8, h9⟩, h10⟩
theorem strs_ok {H : Hp} (ss : List Str) : Oks H (ss.map rS) (ss.map V.str) := Oks.of (fun _ => rfl) ss
theorem ints_ok {H : Hp} (ss : List Int) : Oks H (ss.map rI) (ss.map V.int) := Oks.of (fun _ => rfl) ss
/-- the last plan, whole -/
theorem work_last {w : Wk} {H0 B H : Hp} (h : (pWork w).ok H0 B H) (hB : Same B H) : (rLP w.l).ok H (.ref w.z.1) := by
  obtain ⟨_, h3, h4, ⟨wb, h5, h6⟩, _⟩ := h
  exact ⟨w.z.1, _, rfl, h3.1, rfl, ⟨w.z.2.1, _, rfl, h4.1, strs_ok _⟩, ⟨w.z.2.2, wb, rfl, h5.1, h6.mono hB⟩, trivial⟩
theorem work_plans {w : Wk} {H0 B H : Hp} (h : (pWork w).ok H0 B H) (hB : Same B H) : (rLPs w.ps).ok H (.ref w.pp) := by
  have hl := work_last h hB
  obtain ⟨⟨vs, h1, h2⟩, _⟩ := h
  refine ⟨w.pp, _, rfl, h1.1, ?_⟩
  unfold Wk.ps
  rw [List.map_append]
  exact (h2.mono hB).append ⟨hl, trivial⟩
theorem work_refs {w : Wk} {H0 B H : Hp} (h : (pWork w).ok H0 B H) (hB : Same B H) : (rL (w.pre.map rLP ++ [rV (.ref w.z.1)])).ok H (.ref w.pp) := by
  obtain ⟨⟨vs, h1, h2⟩, _⟩ := h
  exact ⟨w.pp, _, rfl, h1.1, (h2.mono hB).append ⟨rfl, trivial⟩⟩
theorem work_last2 {w : Wk} {H0 B H : Hp} (h : (pWork w).ok H0 B H) : (rL [rS w.l.name, rV (.ref w.z.2.1), rV (.ref w.z.2.2)]).ok H (.ref w.z.1) := ⟨w.z.1, _, rfl, h.2.1.1, rfl, rfl, rfl, trivial⟩
theorem work_loads {w : Wk} {H0 B H : Hp} (h : (pWork w).ok H0 B H) : (rL (w.loads.map rI)).ok H (.ref w.pl) := ⟨w.pl, _, rfl, h.2.2.2.2.1.1, ints_ok _⟩
/-- loads changed -/
theorem work_setloads {w : Wk} {ls : List Int} {H0 B H : Hp} (h : (pWork w).ok H0 B H) : (pWork { w with loads := ls }).ok H0 B (upd H w.pl (.lst (ls.map V.int))) := by
  obtain ⟨⟨vs, h1, h2⟩, h3, h4, ⟨wb, h5, h6⟩, h7, h8⟩ := h
  have d := nd5 h8
  exact ⟨⟨vs, h1.upd_ne d.a.2.2.2, h2⟩, h3.upd_ne d.b.2.2, h4.upd_ne d.c.2, ⟨wb, h5.upd_ne d.d, h6⟩, h7.upd, h8⟩
def lastOfL (ls : List Int) : Int := ls.getD (ls.length - 1) 0
def setLast (ls : List Int) (v : Int) : List Int := ls.set (ls.length - 1) v
def aheadOf (l : MPlan) : Nat := l.givens.length + l.rows.length
def nameAt (w : Wk) (names : List Str) : Str := nmAt names (((w.ps.length + aheadOf w.l) % names.length : Nat) : Int)
def plainRow (w : Wk) (names : List Str) (what cell : Int) : MRow := ⟨nameAt w names, (["all", "first"] : List Str).getD (what % 2).toNat "", [itemBy cell (aheadOf w.l)]⟩
def partIx (w : Wk) (what : Int) : Nat := ((what / 4) % ((w.ps.length : Int) - 1)).toNat
def partPlan (w : Wk) (what : Int) : MPlan := w.ps.getD (partIx w what) ⟨"", [], []⟩
def partRow (w : Wk) (names : List Str) (what cell : Int) : MRow := ⟨nameAt w names, (partPlan w what).name, (List.range (partPlan w what).givens.length).map fun (j : Nat) => itemBy (cell + 31 * (j : Int) * (j : Int)) (aheadOf w.l)⟩
def loads1 (w : Wk) : List Int := setLast w.loads (lastOfL w.loads + 1)
def loadSum (w : Wk) (what : Int) : Int := lastOfL (loads1 w) + (loads1 w).getD (partIx w what) 0
def isPart (w : Wk) (what : Int) : Bool := decide (what % 4 = 3) && (decide (1 < (w.ps.length : Int)) && decide (loadSum w what ≤ 100))
def rowBy (w : Wk) (names : List Str) (what cell : Int) : MRow × List Int := if isPart w what then (partRow w names what cell, setLast (loads1 w) (loadSum w what)) else (plainRow w names what cell, loads1 w)
structure WkOk (w : Wk) (names : List Str) : Prop where
  nl : names.length = 26
  few : w.ps.length ≤ 1000
  ll : w.loads.length = w.ps.length
  gv : ∀ p ∈ w.ps, p.givens.length ≤ 100 ∧ p.rows.length ≤ 100
  g1 : 1 ≤ w.l.givens.length
structure RIn where
  w : Wk
  names : List Str
  what : Int
  cell : Int
abbrev P_row_by (Γ : Cg) : Prop := Fn0 Γ 3 "_law_row_by" ["plans", "loads", "names", "what", "cell"] (SpQ (fun x : RIn => WkOk x.w x.names) (fun x => [rV (.ref x.w.pp), rV (.ref x.w.pl), rL (x.names.map rS), rI x.what, rI x.cell]) (fun x => pWork x.w) (fun x => rMRow (rowBy x.w x.names x.what x.cell).1) fun x => pWork { x.w with loads := (rowBy x.w x.names x.what x.cell).2 })
theorem atI_end {α : Type} (xs : List α) (x : α) : atI (xs ++ [x]) (-1) = some x := atI_last (by rw [List.length_append]; simp)
theorem last_int {ls : List Int} (h : ls ≠ []) : atI (ls.map rI) (-1) = some (rI (lastOfL ls)) := by
  refine atI_last ?_
  rw [List.length_map, List.getElem?_map]
  unfold lastOfL
  have : ls.length ≠ 0 := fun z => h (List.eq_nil_of_length_eq_zero z)
  rw [List.getD_eq_getElem?_getD, List.getElem?_eq_getElem (by omega)]
  rfl
theorem ixN_last {n : Nat} (h : 0 < n) : ixN n (-1) = some (n - 1) := by
  unfold ixN
  rw [if_neg (by decide), if_pos (by omega)]
  congr 1
  omega
section
variable {Γ : Cg} {C : Cls} (G : Gk Γ C)
include G
theorem w_row_by (FI : P_litem Γ) (D : DfAt Γ "_law_row_by" 71 ["plans", "loads", "names", "what", "cell"]) : P_row_by Γ := by
  refine defQ 2 Ll_row_by D Sl_row_by rfl rfl (fun _ => rfl) fun ⟨w, names, what, cell⟩ hw => ⟨.ret (rMRow (rowBy w names what cell).1) (pWork { w with loads := (rowBy w names what cell).2 }), ⟨rfl, fun _ _ _ h => h⟩, ?_⟩
  have hw : WkOk w names := hw
  have nl := hw.nl
  have few := hw.few
  have psl : w.ps.length = w.pre.length + 1 := by unfold Wk.ps; rw [List.length_append]; rfl
  obtain ⟨gl, rl⟩ := hw.gv w.l (by unfold Wk.ps; simp)
  have ah : 0 < aheadOf w.l ∧ aheadOf w.l ≤ 1000 := by unfold aheadOf; have := hw.g1; omega
  let e0 : List Sl := [.dat (rV (.ref w.pp)), .dat (rV (.ref w.pl)), .dat (rL (names.map rS)), .dat (rI what), .dat (rI cell), .no, .no, .no, .no, .no, .no]
  let e1 : List Sl := [.dat (rV (.ref w.pp)), .dat (rV (.ref w.pl)), .dat (rL (names.map rS)), .dat (rI what), .dat (rI cell), .dat (rV (.ref w.z.1)), .no, .no, .no, .no, .no]
  let e2 : List Sl := [.dat (rV (.ref w.pp)), .dat (rV (.ref w.pl)), .dat (rL (names.map rS)), .dat (rI what), .dat (rI cell), .dat (rV (.ref w.z.1)), .dat (rI (aheadOf w.l)), .no, .no, .no, .no]
  let e3 : List Sl := [.dat (rV (.ref w.pp)), .dat (rV (.ref w.pl)), .dat (rL (names.map rS)), .dat (rI what), .dat (rI cell), .dat (rV (.ref w.z.1)), .dat (rI (aheadOf w.l)), .dat (rS (nameAt w names)), .no, .no, .no]
  refine qs_cons (env1 := e1) (P1 := pWork w) (q1_set 5 rfl (qe_look (view_set (env := e0) (i := 0) (v := .ref w.pp) rfl rfl fun H0 B H h hB => work_refs h hB) (re_ixL (i := -1) (atI_end _ _) (rp_of (rv 0)) (re_neg re_int)))) ?_
  refine qs_cons (env1 := e2) (P1 := pWork w) (q1_set 6 rfl (qe_look (view_set (env := e1) (i := 5) (v := .ref w.z.1) rfl rfl fun H0 B H h hB => work_last h hB) (RE.eq (re_add (re_len (G.bi _ (by decide)) (rp_of (re_lp1 G (p := w.l) (rv 5)))) (re_len (G.bi _ (by decide)) (rp_of (re_lp2 G (p := w.l) (rv 5))))) ?_))) ?_
  · unfold aheadOf
    rw [List.length_map, List.length_map, Int.natCast_add]
  refine qs_cons (env1 := e3) (P1 := pWork w) (q1_set 7 rfl (qe_look (view_set (env := e2) (i := 0) (v := .ref w.pp) rfl rfl fun H0 B H h hB => work_plans h hB) (re_ixL (i := (((w.ps.length + aheadOf w.l) % names.length : Nat) : Int)) (nm_at (by omega) (by have := Nat.mod_lt (w.ps.length + aheadOf w.l) (show 0 < names.length by omega); omega)) (rp_of (rs := names.map rS) (rv 2)) (RE.eq (re_mod (by rw [List.length_map]; omega) (re_add (re_len (G.bi _ (by decide)) (rp_of (rs := w.ps.map rLP) (rv 0))) (rv 6)) (re_len (G.bi _ (by decide)) (rp_of (rs := names.map rS) (rv 2)))) ?_)))) ?_
  · rw [List.length_map, List.length_map]; rfl
  have lne : w.loads ≠ [] := fun z => by have := hw.ll; rw [z] at this; simp at this; omega
  have l1l : (loads1 w).length = w.ps.length := by unfold loads1 setLast; rw [List.length_set]; exact hw.ll
  have l1ne : loads1 w ≠ [] := fun z => by rw [z] at l1l; simp at l1l; omega
  have setl : ∀ (ls : List Int) (x : Int), (ls.map V.int).set (ls.length - 1) (.int x) = (setLast ls x).map V.int := fun ls x => by unfold setLast; rw [List.map_set]
  have vl : ∀ (w' : Wk) (env : List Sl), noAB env = true → env[1]? = some (.dat (rV (.ref w'.pl))) → View env (pWork w') (env.set 1 (.dat (rL (w'.loads.map rI)))) := fun w' env h1 h2 => view_set h1 h2 fun H0 B H h _ => work_loads h
  refine qs_cons (env1 := e3) (P1 := pWork { w with loads := loads1 w }) (q1_setAt (l := w.pl) (n := -1) (P1 := pWork w) rfl (qe_look (vl w e3 rfl rfl) (re_add (re_ixL (i := -1) (last_int lne) (rp_of (rv 1)) (re_neg re_int)) re_int)) (qe_of (rv 1)) (qe_of (re_neg re_int)) fun H0 B H v h hv => ?_) ?_
  · have hv : v = .int (lastOfL w.loads + 1) := hv
    subst hv
    refine ⟨w.loads.map V.int, w.loads.length - 1, h.2.2.2.2.1, ?_, ?_⟩
    · have := hw.ll
      rw [List.length_map]; exact ixN_last (by omega)
    · rw [setl]
      exact work_setloads h
  have fin : ∀ {o}, o = OutQ.ret (rMRow (plainRow w names what cell)) (pWork { w with loads := loads1 w }) → QS Γ Ll_row_by ⟨E0, 2⟩ (List.drop 5 (L2.defBody (top 71))) e3 (pWork { w with loads := loads1 w }) o := fun {o} e => by
    subst e
    refine qs_one (q1_ret (qe_of (re_tup (ra_cons (rv 7) (ra_cons (re_ixL (rs := [rS "all", rS "first"]) (i := what % 2) ?_ (rp_of (rf_lst (ra_cons re_str (ra_cons re_str ra_nil))).re) (re_mod (by decide) (rv 3) re_int)) (ra_cons (re_tup (ra_cons (re_call FI (cell, aheadOf w.l) ah (ra_cons (rv 4) (ra_cons (rv 6) ra_nil))) ra_nil)) ra_nil))))))
    have h1 : 0 ≤ what % 2 := Int.emod_nonneg _ (by decide)
    have h2 : what % 2 < 2 := Int.emod_lt_of_pos _ (by decide)
    show atI [rS "all", rS "first"] (what % 2) = some (rS ((["all", "first"] : List Str).getD (what % 2).toNat ""))
    generalize what % 2 = r at h1 h2
    have : r = 0 ∨ r = 1 := by omega
    rcases this with rfl | rfl
    · exact at0 _ _
    · exact atI_nat (n := 1) rfl
  have plv : ∀ (w' : Wk), w'.ps = w.ps → w'.pp = w.pp → ∀ env : List Sl, noAB env = true → env[0]? = some (.dat (rV (.ref w.pp))) → View env (pWork w') (env.set 0 (.dat (rLPs w.ps))) := fun w' h1 h2 env h3 h4 => view_set h3 h4 fun H0 B H h hB => by rw [← h1, ← h2]; exact work_plans h hB
  by_cases hc : what % 4 = 3 ∧ 1 < (w.ps.length : Int)
  · have hix : partIx w what < w.ps.length - 1 := by
      unfold partIx
      have h1 : 0 ≤ (what / 4) % ((w.ps.length : Int) - 1) := Int.emod_nonneg _ (by omega)
      have h2 : (what / 4) % ((w.ps.length : Int) - 1) < (w.ps.length : Int) - 1 := Int.emod_lt_of_pos _ (by omega)
      omega
    have hixI : (what / 4) % ((w.ps.length : Int) - 1) = (partIx w what : Int) := by
      unfold partIx
      have h1 : 0 ≤ (what / 4) % ((w.ps.length : Int) - 1) := Int.emod_nonneg _ (by omega)
      omega
    let e4 : List Sl := [.dat (rV (.ref w.pp)), .dat (rV (.ref w.pl)), .dat (rL (names.map rS)), .dat (rI what), .dat (rI cell), .dat (rV (.ref w.z.1)), .dat (rI (aheadOf w.l)), .dat (rS (nameAt w names)), .dat (rI (partIx w what)), .no, .no]
    have ppl : w.ps[partIx w what]? = some (partPlan w what) := by
      unfold partPlan
      rw [List.getD_eq_getElem?_getD, List.getElem?_eq_getElem (by omega)]
      rfl
    by_cases hs : loadSum w what ≤ 100
    · have hp : isPart w what = true := by unfold isPart; rw [decide_eq_true hc.1, decide_eq_true hc.2, decide_eq_true hs]; rfl
      have er : rowBy w names what cell = (partRow w names what cell, setLast (loads1 w) (loadSum w what)) := by unfold rowBy; rw [hp]; rfl
      rw [er]
      let e5 : List Sl := [.dat (rV (.ref w.pp)), .dat (rV (.ref w.pl)), .dat (rL (names.map rS)), .dat (rI what), .dat (rI cell), .dat (rV (.ref w.z.1)), .dat (rI (aheadOf w.l)), .dat (rS (nameAt w names)), .dat (rI (partIx w what)), .dat (rI (partPlan w what).givens.length), .no]
      have gp := (hw.gv _ (List.mem_of_getElem? ppl)).1
      refine qs_stop (q1_if (k := true) rfl (qt_look (plv { w with loads := loads1 w } rfl rfl e3 rfl rfl) (RT.eq (rw_and (rt_eqI (re_mod (by decide) (rv 3) re_int) re_int) fun _ => rw_and1 (rt_gt (re_len (G.bi _ (by decide)) (rp_of (rs := w.ps.map rLP) (rv 0))) re_int)).pt (by rw [List.length_map, decide_eq_true hc.1, decide_eq_true hc.2]; rfl))) (fun _ => ?_) (fun h => by cases h))
      refine qs_cons (env1 := e4) (P1 := pWork { w with loads := loads1 w }) (q1_set 8 rfl (qe_look (plv { w with loads := loads1 w } rfl rfl e3 rfl rfl) (RE.eq (re_mod (by rw [List.length_map]; omega) (re_fdiv ⟨by decide, by decide⟩ (rv 3) re_int) (re_sub (re_len (G.bi _ (by decide)) (rp_of (rs := w.ps.map rLP) (rv 0))) re_int)) (by rw [List.length_map, hixI])))) ?_
      refine qs_one (q1_if (k := true) rfl (qt_look (vl { w with loads := loads1 w } e4 rfl rfl) (RT.eq (rt_le (re_add (re_ixL (i := -1) (last_int l1ne) (rp_of (rv 1)) (re_neg re_int)) (re_ixL (rs := (loads1 w).map rI) (i := (partIx w what : Int)) (at_int (by omega) (by omega)) (rp_of (rv 1)) (rv 8))) re_int) (decide_eq_true (by unfold loadSum at hs; simpa using hs)))) (fun _ => ?_) (fun h => by cases h))
      refine qs_cons (env1 := e4) (P1 := pWork { w with loads := setLast (loads1 w) (loadSum w what) }) (q1_setAt (l := w.pl) (n := -1) (P1 := pWork { w with loads := loads1 w }) rfl (qe_look (vl { w with loads := loads1 w } e4 rfl rfl) (re_add (re_ixL (i := -1) (last_int l1ne) (rp_of (rv 1)) (re_neg re_int)) (re_ixL (rs := (loads1 w).map rI) (i := (partIx w what : Int)) (at_int (by omega) (by omega)) (rp_of (rv 1)) (rv 8)))) (qe_of (rv 1)) (qe_of (re_neg re_int)) fun H0 B H v h hv => ?_) ?_
      · have hv : v = .int (loadSum w what) := by
          have hv : v = .int (lastOfL (loads1 w) + (loads1 w).getD ((partIx w what : Int)).toNat 0) := hv
          rw [Int.toNat_natCast] at hv
          exact hv
        subst hv
        refine ⟨(loads1 w).map V.int, (loads1 w).length - 1, h.2.2.2.2.1, ?_, ?_⟩
        · rw [List.length_map]; exact ixN_last (by omega)
        · rw [setl]
          exact work_setloads (w := { w with loads := loads1 w }) h
      · have ixp : ∀ {env L E e e2 pos}, RE Γ L E e env (rLPs w.ps) → RE Γ L E e2 env (rI (partIx w what : Int)) → L2.PlainIx e2 → RE Γ L E (.Subscript e e2 pos) env (rLP (partPlan w what)) := fun a b c => re_ixL (rs := w.ps.map rLP) (i := (partIx w what : Int)) (atI_nat (by rw [List.getElem?_map, ppl]; rfl)) (rp_of a) b c
        refine qs_cons (env1 := e5) (P1 := pWork { w with loads := setLast (loads1 w) (loadSum w what) }) (q1_set 9 rfl (qe_look (plv { w with loads := setLast (loads1 w) (loadSum w what) } rfl rfl e4 rfl rfl) (RE.eq (re_len (G.bi _ (by decide)) (rp_of (re_lp1 G (ixp (rv 0) (rv 8) (by intro _ _; rfl))))) (by rw [List.length_map])))) ?_
        refine qs_one (q1_ret (qe_tup (qa_cons rfl (qe_of (rv 7)) (qa_cons rfl (qe_look (plv { w with loads := setLast (loads1 w) (loadSum w what) } rfl rfl e5 rfl rfl) (re_lp0 G (ixp (rv 0) (rv 8) (by intro _ _; rfl)))) (qa_cons rfl (qe_of (RE.eq (re_tuple (G.bi _ (by decide)) (rp_of (rf_lc (h := fun (j : Nat) => rPr (itemBy (cell + 31 * (j : Int) * (j : Int)) (aheadOf w.l))) [("j", 10)] (ri_range (n := (partPlan w what).givens.length) (by omega) (G.bi _ (by decide)) (rv 9)) (fun j hj => rg_name 10) (fun j hj => re_call FI (cell + 31 * (j : Int) * (j : Int), aheadOf w.l) ah (ra_cons (re_add (rv 4) (re_mul (.inr (by have := List.mem_range.mp hj; exact ⟨by omega, by omega⟩)) (re_mul (.inl ⟨by decide, by decide⟩) re_int (rv 10)) (rv 10))) (ra_cons (rv 6) ra_nil))) (by rw [List.length_range]; exact small (by omega))).re)) ?_)) qa_nil)))))
        unfold partRow
        rw [List.map_map]
        rfl
    · have hp : isPart w what = false := by unfold isPart; rw [decide_eq_true hc.1, decide_eq_true hc.2, decide_eq_false hs]; rfl
      have er : rowBy w names what cell = (plainRow w names what cell, loads1 w) := by unfold rowBy; rw [hp]; rfl
      rw [er]
      refine qs_cons (env1 := e3) (P1 := pWork { w with loads := loads1 w }) (q1_if (k := true) rfl (qt_look (plv { w with loads := loads1 w } rfl rfl e3 rfl rfl) (RT.eq (rw_and (rt_eqI (re_mod (by decide) (rv 3) re_int) re_int) fun _ => rw_and1 (rt_gt (re_len (G.bi _ (by decide)) (rp_of (rs := w.ps.map rLP) (rv 0))) re_int)).pt (by rw [List.length_map, decide_eq_true hc.1, decide_eq_true hc.2]; rfl))) (fun _ => ?_) (fun h => by cases h)) (fin rfl)
      refine qs_cons (env1 := e4) (P1 := pWork { w with loads := loads1 w }) (q1_set 8 rfl (qe_look (plv { w with loads := loads1 w } rfl rfl e3 rfl rfl) (RE.eq (re_mod (by rw [List.length_map]; omega) (re_fdiv ⟨by decide, by decide⟩ (rv 3) re_int) (re_sub (re_len (G.bi _ (by decide)) (rp_of (rs := w.ps.map rLP) (rv 0))) re_int)) (by rw [List.length_map, hixI])))) ?_
      exact qs_one (q1_if (k := false) rfl (qt_look (vl { w with loads := loads1 w } e4 rfl rfl) (RT.eq (rt_le (re_add (re_ixL (i := -1) (last_int l1ne) (rp_of (rv 1)) (re_neg re_int)) (re_ixL (rs := (loads1 w).map rI) (i := (partIx w what : Int)) (at_int (by omega) (by omega)) (rp_of (rv 1)) (rv 8))) re_int) (decide_eq_false (by unfold loadSum at hs; simpa using hs)))) (fun h => by cases h) fun _ => qs_nilw ⟨.inr rfl, .inr rfl, .inr rfl, .inr rfl, .inr rfl, .inr rfl, .inr rfl, .inr rfl, .inl rfl, .inr rfl, .inr rfl, trivial⟩)
  · have hp : isPart w what = false := by
      unfold isPart
      by_cases h3 : what % 4 = 3
      · have : ¬ 1 < (w.ps.length : Int) := fun h => hc ⟨h3, h⟩
        rw [decide_eq_false this]; simp
      · rw [decide_eq_false h3]; rfl
    have er : rowBy w names what cell = (plainRow w names what cell, loads1 w) := by unfold rowBy; rw [hp]; rfl
    rw [er]
    refine qs_cons (env1 := e3) (P1 := pWork { w with loads := loads1 w }) (q1_if (k := false) rfl (qt_look (plv { w with loads := loads1 w } rfl rfl e3 rfl rfl) (RT.eq (rw_and (rt_eqI (re_mod (by decide) (rv 3) re_int) re_int) fun _ => rw_and1 (rt_gt (re_len (G.bi _ (by decide)) (rp_of (rs := w.ps.map rLP) (rv 0))) re_int)).pt ?_)) (fun h => by cases h) fun _ => qs_nil) (fin rfl)
    rw [List.length_map]
    by_cases h3 : what % 4 = 3
    · have : ¬ 1 < (w.ps.length : Int) := fun h => hc ⟨h3, h⟩
      rw [decide_eq_false this]; simp
    · rw [decide_eq_false h3]; rfl
end
end K60
/-! text RL21 -/
set_option Elab.async false
set_option linter.all false
set_option maxRecDepth 100000
set_option maxHeartbeats 4000000
namespace Rl
open PySem PySem.Spec PyProof.Rows L2
section
variable {Γ : Cg} {L : Lc} {E : Wc} {env : List Sl} {a : Expr} {pos : Pos} {rs : List Rp}
theorem rf_slL {lo hi : Option Expr} {i j : Option Int} {p2 : Pos} (ha : RPl Γ L E a env rs) (hl : RO Γ L E lo env i) (hh : RO Γ L E hi env j) : RF Γ L E (.Subscript a (.Slice lo hi none p2) pos) env (cutR rs i j) := by
  obtain ⟨ta, a1, a2⟩ := ha
  obtain ⟨tl, l1, l2⟩ := hl
  obtain ⟨th, h1, h2⟩ := hh
  refine ⟨tSl (rSlL Γ.K) ta tl th, fun X o => by have z := sl_list (X := X); rw [o.K] at z; exact pe_slice z (a1 X o) (l1 X o) (h1 X o), fun H0 B H σ Q s q => a2 H0 B H σ _ s fun p vs B2 H2 g hp ho =>
    l2 H0 B2 H2 σ _ (s.grow g) fun B3 H3 g2 => h2 H0 B3 H3 σ _ ((s.grow g).grow g2) fun B4 H4 g3 => ⟨p, vs, rfl, (g2.h.trans g3.h).seq hp, fun n hn => ?_⟩⟩
  have gg := (g.trans g2).trans g3
  exact q n (cutV vs i j) B4 _ (gg.trans (Grow.stay g3.i (same_new hn _))) upd_same (g3.i.free hn) (gg.h.free hn) ((ho.mono (g2.b.trans g3.b)).cut i j)
end
end Rl
/-! text W22 -/
set_option Elab.async false
set_option linter.all false
set_option maxRecDepth 100000
set_option maxHeartbeats 4000000
namespace K60
open PySem PyProof.Rows Rl
open PySem.Spec hiding Row
open L2 (E0 XK Hp V atI ixN inClass defScope upd upd_same upd_ne HO Same)
/-! ### grow -/
def encM (r : MRow) : PyData := .tuple [.str r.name, .str r.how, .tuple (r.items.map encP)]
def rowsD (rows : List MRow) : PyData := .list (rows.map encM)
theorem rdt_mrow {K} {r : MRow} : RDt K (rMRow r) (encM r) := rdt_T3 rdt_str rdt_str (rdt_T (f := rPr) fun _ => rdt_pr)
theorem rdt_rows {K} {rows : List MRow} : RDt K (rL (rows.map rMRow)) (rowsD rows) := rdt_L fun _ => rdt_mrow
theorem canP (xs : Row) : PyData.canLayAll0 (xs.map encP) = true := by
  induction xs with
  | nil => rfl
  | cons x xs ih =>
    rw [List.map_cons, PyData.canLayAll0, ih]
    rfl
theorem depP (xs : Row) : PyData.depthAll (xs.map encP) ≤ 2 := by
  induction xs with
  | nil => exact Nat.zero_le _
  | cons x xs ih =>
    rw [List.map_cons, PyData.depthAll]
    exact Nat.max_le.mpr ⟨Nat.le_of_ble_eq_true rfl, ih⟩
def MrOk (r : MRow) : Prop := PyData.strOk r.name = true ∧ PyData.strOk r.how = true
theorem canM (xs : List MRow) (hx : ∀ r ∈ xs, MrOk r) : PyData.canLayAll0 (xs.map encM) = true := by
  induction xs with
  | nil => rfl
  | cons x xs ih =>
    rw [List.map_cons, PyData.canLayAll0, ih fun r hr => hx r (List.mem_cons_of_mem _ hr)]
    have h0 := hx x List.mem_cons_self
    have : (encM x).canLay0 = true := by
      unfold encM
      simp only [PyData.canLay0, PyData.canLayAll0, canP, Bool.and_self, Bool.and_true, h0.1, h0.2]
    rw [this]; rfl
theorem depM (xs : List MRow) : PyData.depthAll (xs.map encM) ≤ 10 := by
  induction xs with
  | nil => exact Nat.zero_le _
  | cons x xs ih =>
    rw [List.map_cons, PyData.depthAll]
    refine Nat.max_le.mpr ⟨?_, ih⟩
    unfold encM
    have h := depP x.items
    simp only [PyData.depth, PyData.depthAll]
    omega
theorem shaped_rows (rows : List MRow) (hr : ∀ r ∈ rows, MrOk r) : SeqAt.shaped (rowsD rows) = true := by
  unfold SeqAt.shaped rowsD
  have h1 : (PyData.list (rows.map encM)).canLay0 = true := by simp only [PyData.canLay0, canM rows hr]
  have h2 : (PyData.list (rows.map encM)).depth ≤ 64 := by
    have := depM rows
    simp only [PyData.depth]
    omega
  rw [h1, decide_eq_true h2]; rfl
theorem eqv_rows (rows : List MRow) : PyData.eqv (rowsD rows) (rowsD []) = decide (rows = []) := by
  unfold rowsD
  cases rows with
  | nil => simp [PyData.eqv, PyData.eqvAll]
  | cons r rs => simp [PyData.eqv, PyData.eqvAll]
def lastRow (rows : List MRow) : MRow := rows.getLastD ⟨"", "", []⟩
def lastItem (w : Wk) (cell : Int) : MRow := ⟨(lastRow w.l.rows).name, (lastRow w.l.rows).how, (lastRow w.l.rows).items ++ [itemBy cell (aheadOf w.l - 1)]⟩
def cutNames (names : List Str) (n many : Nat) : List Str := (names.drop (n + 1)).take many
def growI (w : Wk) (names : List Str) (what cell : Int) : List MPlan × MPlan × List Int :=
  if what % 8 = 0 ∧ w.l.rows ≠ [] then (w.ps, ⟨nmAt names w.ps.length, cutNames names w.ps.length (1 + cell % 4).toNat, []⟩, w.loads ++ [0])
  else if what % 8 = 1 ∧ w.l.rows = [] ∧ w.l.givens.length < 12 then (w.pre, { w.l with givens := w.l.givens ++ [nmAt names (((w.ps.length + w.l.givens.length) % names.length : Nat) : Int)] }, w.loads)
  else if what % 8 > 3 ∧ w.l.rows ≠ [] ∧ plainHow (lastRow w.l.rows).how = true then (w.pre, { w.l with rows := w.l.rows.set (w.l.rows.length - 1) (lastItem w cell) }, w.loads)
  else (w.pre, { w.l with rows := w.l.rows ++ [(rowBy w names (what / 8) cell).1] }, (rowBy w names (what / 8) cell).2)
def growP (pp pl : Addr) (x : List MPlan × MPlan × List Int) : Pd := Pd.ex fun z : Z3 => pWork ⟨pp, pl, z, x.1, x.2.1, x.2.2⟩
structure GrowOk (x : RIn) : Prop where
  ok : WkOk x.w x.names
  nm : ∀ r ∈ x.w.l.rows, MrOk r
  lt : x.w.ps.length ≤ 20
  it : ∀ r ∈ x.w.l.rows, r.items.length ≤ 500
  ne : ∀ r ∈ x.w.l.rows, r.items ≠ []
abbrev P_grow (Γ : Cg) : Prop := Fn0 Γ 4 "_law_grow" ["plans", "loads", "names", "what", "cell"] (SpQ GrowOk (fun x : RIn => [rV (.ref x.w.pp), rV (.ref x.w.pl), rL (x.names.map rS), rI x.what, rI x.cell]) (fun x => pWork x.w) (fun _ => rN) fun x => growP x.w.pp x.w.pl (growI x.w x.names x.what x.cell))
/-- the plans sure, only the two lists are changed yet -/
def pClosed (pp pl : Addr) (ps : List MPlan) (loads : List Int) : Pd := ⟨fun H0 B H => (∃ vs, OwnAt H0 B H pp (.lst vs) ∧ Oks B (ps.map rLP) vs) ∧ OwnAt H0 B H pl (.lst (loads.map V.int)) ∧ pp ≠ pl, fun g ⟨⟨vs, h1, h2⟩, h3, h4⟩ => ⟨⟨vs, h1.grow g, h2.mono g.b⟩, h3.grow g, h4⟩⟩
theorem work_close {w : Wk} (H0 B H : Hp) (h : (pWork w).ok H0 B H) (hB : Same B H) (h0 : Same H0 H) : ∃ B2, Grow B H0 B2 H ∧ (pClosed w.pp w.pl w.ps w.loads).ok H0 B2 H := by
  obtain ⟨⟨vs, h1, h2⟩, h3, h4, ⟨wb, h5, h6⟩, h7, h8⟩ := h
  have d := nd5 h8
  obtain ⟨⟨d1, d2, d3, d4⟩, ⟨d5, d6, d7⟩, ⟨d8, d9⟩, d10⟩ := d
  have s1 : Same B (upd B w.z.2.1 (.lst (w.l.givens.map V.str))) := same_new h4.2.1 _
  have n2 : upd B w.z.2.1 (.lst (w.l.givens.map V.str)) w.z.2.2 = none := by rw [upd_ne (Ne.symm d8)]; exact h5.2.1
  have s2 := same_new n2 (.lst wb)
  have n3 : upd (upd B w.z.2.1 (.lst (w.l.givens.map V.str))) w.z.2.2 (.lst wb) w.z.1 = none := by rw [upd_ne d6, upd_ne d5]; exact h3.2.1
  have s3 := same_new n3 (.lst [.str w.l.name, .ref w.z.2.1, .ref w.z.2.2])
  have off : ∀ c, c ≠ w.z.1 → c ≠ w.z.2.1 → c ≠ w.z.2.2 → (upd (upd (upd B w.z.2.1 (.lst (w.l.givens.map V.str))) w.z.2.2 (.lst wb)) w.z.1 (.lst [.str w.l.name, .ref w.z.2.1, .ref w.z.2.2])) c = B c := fun c c1 c2 c3 => by rw [upd_ne c1, upd_ne c3, upd_ne c2]
  refine ⟨upd (upd (upd B w.z.2.1 (.lst (w.l.givens.map V.str))) w.z.2.2 (.lst wb)) w.z.1 (.lst [.str w.l.name, .ref w.z.2.1, .ref w.z.2.2]), ⟨(s1.trans s2).trans s3, same_two (same_two (same_two hB h4.1 h4.2.1) h5.1 n2) h3.1 n3, h0, fun c hc => ?_⟩, ⟨vs ++ [.ref w.z.1], ⟨h1.1, by rw [off _ d1 d2 d3]; exact h1.2.1, h1.2.2⟩, ?_⟩, ⟨h7.1, by rw [off _ (Ne.symm d7) (Ne.symm d9) (Ne.symm d10)]; exact h7.2.1, h7.2.2⟩, d4⟩
  · by_cases c1 : c = w.z.1
    · rw [c1]; exact .inr h3.2.2
    · by_cases c2 : c = w.z.2.1
      · rw [c2]; exact .inr h4.2.2
      · by_cases c3 : c = w.z.2.2
        · rw [c3]; exact .inr h5.2.2
        · rw [off c c1 c2 c3] at hc; exact .inl hc
  · unfold Wk.ps
    rw [List.map_append]
    refine (h2.mono ((s1.trans s2).trans s3)).append ⟨⟨w.z.1, _, rfl, upd_same, rfl, ⟨w.z.2.1, w.l.givens.map V.str, rfl, ?_, strs_ok _⟩, ⟨w.z.2.2, wb, rfl, ?_, h6.mono ((s1.trans s2).trans s3)⟩, trivial⟩, trivial⟩
    · rw [upd_ne (Ne.symm d5), upd_ne d8]; exact upd_same
    · rw [upd_ne (Ne.symm d6)]; exact upd_same
theorem closed_plans {pp pl : Addr} {ps : List MPlan} {loads : List Int} {H0 B H : Hp} (h : (pClosed pp pl ps loads).ok H0 B H) (hB : Same B H) : (rLPs ps).ok H (.ref pp) := by
  obtain ⟨⟨vs, h1, h2⟩, _⟩ := h
  exact ⟨pp, vs, rfl, h1.1, h2.mono hB⟩
theorem cut_names (names : List Str) (n many : Nat) (h : n + 1 + many ≤ names.length) : cutR names (some ((n : Int) + 1)) (some ((n : Int) + 1 + (many : Int))) = cutNames names n many := by
  unfold cutR cutNames
  have e1 : HT.sIx names.length 0 (some ((n : Int) + 1)) = n + 1 := by
    have : ((n : Int) + 1) = ((n + 1 : Nat) : Int) := by omega
    rw [this, HT.sIx_nat, Nat.min_eq_left (by omega)]
  have e2 : HT.sIx names.length names.length (some ((n : Int) + 1 + (many : Int))) = n + 1 + many := by
    have : ((n : Int) + 1 + (many : Int)) = ((n + 1 + many : Nat) : Int) := by omega
    rw [this, HT.sIx_nat, Nat.min_eq_left (by omega)]
  rw [e1, e2]
  congr 1
  omega
end K60
/-! text W23 -/
set_option Elab.async false
set_option linter.all false
set_option maxRecDepth 100000
set_option maxHeartbeats 4000000
namespace Rl
open PySem PySem.Spec PyProof.Rows L2
section
variable {Γ : Cg} {L : Lc} {E : Wc} {env env1 env2 : List Sl} {r : Rp} {ss : List Stmt} {o : OutQ} {P P1 P2 : Pd}
theorem view_then {i : Nat} {v : V} (w : View env P env1) (he : env1[i]? = some (.dat (rV v))) (hr : ∀ H0 B H, P.ok H0 B H → Same B H → r.ok H v) : View env P (env1.set i (.dat r)) := fun H0 B H σ s p => by
  have s1 : Sok H H H σ env1 := w H0 B H σ s p
  obtain ⟨u, e1, e2⟩ := s1.dat he
  have e2 : u = v := e2
  subst e2
  have k := s1.set (i := i) (v := u) (r := r) (hr _ _ _ p s.ex)
  have es : σ.set i (some u) = σ := by
    apply List.ext_getElem?
    intro j
    by_cases hj : i = j
    · subst hj
      rw [List.getElem?_set_self (List.getElem?_eq_some_iff.mp e1).1, e1]
    · rw [List.getElem?_set_ne hj]
  rwa [es] at k
theorem qs_know {i : Nat} {v : V} (he : env[i]? = some (.dat (rV v))) (hr : ∀ H0 B H, P.ok H0 B H → r.ok B v) (hs : QS Γ L E ss (env.set i (.dat r)) P o) : QS Γ L E ss env P o := by
  obtain ⟨t, h1, h2⟩ := hs
  refine ⟨t, h1, fun H0 B0 B H σ D s p g q => ?_⟩
  obtain ⟨u, e1, e2⟩ := s.dat he
  have e2 : u = v := e2
  subst e2
  have k := s.set (i := i) (v := u) (r := r) (hr _ _ _ p)
  have es : σ.set i (some u) = σ := by
    apply List.ext_getElem?
    intro j
    by_cases hj : i = j
    · subst hj
      rw [List.getElem?_set_self (List.getElem?_eq_some_iff.mp e1).1, e1]
    · rw [List.getElem?_set_ne hj]
  rw [es] at k
  exact h2 H0 B0 B H σ D k p g q
theorem rf_eq {e : Expr} {rs rs2 : List Rp} (h : RF Γ L E e env rs) (q : rs = rs2) : RF Γ L E e env rs2 := q ▸ h
theorem qe_addt {a b : Expr} {pos : Pos} {xs ys : List Rp} {P3 : Pd} (hn : noAB env = true) (h : xs.length + ys.length ≤ sizeLine) (h1 : xs ≠ []) (h2 : ys ≠ []) (ha : QE Γ L E a env P (rT xs) P1) (hb : QE Γ L E b env P1 (rT ys) P2) : QE Γ L E (.BinOp a .Add b pos) env P (rT (xs ++ ys)) P2 := by
  obtain ⟨ta, a1, a2⟩ := ha
  obtain ⟨tb, b1, b2⟩ := hb
  refine ⟨tOp (rCatT Γ.K) ta tb, fun X o => by have z := op_catT (X := X); rw [o.K] at z; exact pe_op z (a1 X o) (b1 X o), fun H0 B H σ Q s p q => a2 H0 B H σ _ s p fun x B2 H2 g p1 hx => b2 H0 B2 H2 σ _ (s.move hn g.b g.i g.h) p1 fun y B3 H3 g2 p2 hy => ?_⟩
  obtain ⟨p, vs, hx, hp, ho⟩ := (rT xs).mono g2.b hx
  obtain ⟨p2', ws, hy, hp2, ho2⟩ := hy
  have l1 := ho.length
  have l2 := ho2.length
  refine ⟨p, p2', vs, ws, hx, hy, SqT.of (g2.i _ _ hp), SqT.of (g2.i _ _ hp2), fun z => h1 ?_, by rw [l1, l2]; exact h, fun z => absurd ?_ h2, fun _ n hn => ?_⟩
  · rw [z] at l1; exact List.eq_nil_of_length_eq_zero l1.symm
  · rw [z] at l2; exact List.eq_nil_of_length_eq_zero l2.symm
  · have g3 : Grow B3 H3 (upd B3 n (.tup (vs ++ ws))) (upd H3 n (.tup (vs ++ ws))) := Grow.new g2.i hn _
    exact q _ _ _ ((g.trans0 g2).trans0 (g3.frame g2.h)) (P2.grow g3 p2) ⟨n, vs ++ ws, rfl, upd_same, (ho.append ho2).mono (same_new (g2.i.free hn) _)⟩
end
end Rl
namespace K60
open PySem PyProof.Rows Rl
open PySem.Spec hiding Row
open L2 (E0 XK Hp V atI ixN inClass defScope upd upd_same upd_ne HO Same)
theorem work_setlast {w : Wk} {g : List Str} {H0 B H : Hp} (h : (pWork w).ok H0 B H) : (pWork { w with l := { w.l with givens := g } }).ok H0 B (upd H w.z.2.1 (.lst (g.map V.str))) := by
  obtain ⟨⟨vs, h1, h2⟩, h3, h4, ⟨wb, h5, h6⟩, h7, h8⟩ := h
  have d := nd5 h8
  exact ⟨⟨vs, h1.upd_ne d.a.2.1, h2⟩, h3.upd_ne d.b.1, h4.upd, ⟨wb, h5.upd_ne (Ne.symm d.c.1), h6⟩, h7.upd_ne (Ne.symm d.c.2), h8⟩
theorem work_setrows {w : Wk} {rows : List MRow} {wb : List V} {H0 B H : Hp} (h : (pWork w).ok H0 B H) (ho : Oks B (rows.map rMRow) wb) : (pWork { w with l := { w.l with rows := rows } }).ok H0 B (upd H w.z.2.2 (.lst wb)) := by
  obtain ⟨⟨vs, h1, h2⟩, h3, h4, ⟨wb0, h5, h6⟩, h7, h8⟩ := h
  have d := nd5 h8
  exact ⟨⟨vs, h1.upd_ne d.a.2.2.1, h2⟩, h3.upd_ne d.b.2.1, h4.upd_ne d.c.1, ⟨wb, h5.upd, ho⟩, h7.upd_ne (Ne.symm d.d), h8⟩
theorem last_row {rows : List MRow} (h : rows ≠ []) : atI (rows.map rMRow) (-1) = some (rMRow (lastRow rows)) := by
  refine atI_last ?_
  rw [List.length_map, List.getElem?_map]
  unfold lastRow
  have : rows.length ≠ 0 := fun z => h (List.eq_nil_of_length_eq_zero z)
  rw [List.getLastD_eq_getLast?, List.getLast?_eq_getElem?, List.getElem?_eq_getElem (by omega)]
  rfl
/-- the rows' own values named -/
def pWb (w : Wk) (wb : List V) : Pd := ⟨fun H0 B H => (pWork w).ok H0 B H ∧ OwnAt H0 B H w.z.2.2 (.lst wb) ∧ Oks B (w.l.rows.map rMRow) wb, fun g ⟨h1, h2, h3⟩ => ⟨(pWork w).grow g h1, h2.grow g, h3.mono g.b⟩⟩
theorem wb_name {w : Wk} (h : w.l.rows ≠ []) (H0 B H : Hp) (hp : (pWork w).ok H0 B H) : (Pd.ex fun x : { wb : List V // wb.length = w.l.rows.length } => pWb w x.1).ok H0 B H := by
  obtain ⟨wb, h5, h6⟩ := hp.2.2.2.1
  exact ⟨⟨wb, by rw [h6.length, List.length_map]⟩, hp, h5, h6⟩
section
variable {Γ : Cg} {C : Cls} (G : Gk Γ C)
include G
theorem w_grow (FR : P_row_by Γ) (FI : P_litem Γ) (D : DfAt Γ "_law_grow" 72 ["plans", "loads", "names", "what", "cell"]) : P_grow Γ := by
  refine defQ 3 Ll_grow D Sl_grow rfl rfl (fun _ => rfl) fun ⟨w, names, what, cell⟩ hw => ⟨.nx [.no, .no, .no, .no, .no, .no, .no, .no, .no] (growP w.pp w.pl (growI w names what cell)), ⟨rfl, fun _ _ _ h => h⟩, ?_⟩
  have ok : WkOk w names := hw.ok
  have lt : w.ps.length ≤ 20 := hw.lt
  have nm : ∀ r ∈ w.l.rows, MrOk r := hw.nm
  have it : ∀ r ∈ w.l.rows, r.items.length ≤ 500 := hw.it
  have nl := ok.nl
  have psl : w.ps.length = w.pre.length + 1 := by unfold Wk.ps; rw [List.length_append]; rfl
  obtain ⟨gl, rl⟩ := ok.gv w.l (by unfold Wk.ps; simp)
  let e0 : List Sl := [.dat (rV (.ref w.pp)), .dat (rV (.ref w.pl)), .dat (rL (names.map rS)), .dat (rI what), .dat (rI cell), .no, .no, .no, .no]
  let e1 : List Sl := [.dat (rV (.ref w.pp)), .dat (rV (.ref w.pl)), .dat (rL (names.map rS)), .dat (rI what), .dat (rI cell), .dat (rV (.ref w.z.1)), .no, .no, .no]
  let e2 : List Sl := [.dat (rV (.ref w.pp)), .dat (rV (.ref w.pl)), .dat (rL (names.map rS)), .dat (rI what), .dat (rI cell), .dat (rV (.ref w.z.1)), .dat (rI (what % 8)), .no, .no]
  have v5 : View e2 (pWork w) (e2.set 5 (.dat (rLP w.l))) := view_set (env := e2) (i := 5) (v := .ref w.z.1) rfl rfl fun H0 B H h hB => work_last h hB
  have v5b : View e2 (pWork w) (e2.set 5 (.dat (rL [rS w.l.name, rV (.ref w.z.2.1), rV (.ref w.z.2.2)]))) := view_set (env := e2) (i := 5) (v := .ref w.z.1) rfl rfl fun H0 B H h hB => work_last2 h
  have v05 : View e2 (pWork w) ((e2.set 5 (.dat (rLP w.l))).set 0 (.dat (rLPs w.ps))) := view_then (i := 0) (v := .ref w.pp) v5 rfl fun H0 B H h hB => work_plans h hB
  refine qs_cons (env1 := e1) (P1 := pWork w) (q1_set 5 rfl (qe_look (view_set (env := e0) (i := 0) (v := .ref w.pp) rfl rfl fun H0 B H h hB => work_refs h hB) (re_ixL (i := -1) (atI_end _ _) (rp_of (rv 0)) (re_neg re_int)))) ?_
  refine qs_cons (env1 := e2) (P1 := pWork w) (q1_set 6 rfl (qe_of (re_mod (by decide) (rv 3) re_int))) ?_
  have sr := shaped_rows w.l.rows nm
  have s0 : SeqAt.shaped (rowsD []) = true := shaped_rows [] (fun _ h => by cases h)
  by_cases cA : what % 8 = 0 ∧ w.l.rows ≠ []
  · let np : MPlan := ⟨nmAt names w.ps.length, cutNames names w.ps.length (1 + cell % 4).toNat, []⟩
    have ei : growI w names what cell = (w.ps, np, w.loads ++ [0]) := by
      unfold growI; rw [if_pos cA]
    rw [ei]
    refine qs_one (q1_if (k := true) rfl (qt_look v5 (RT.eq (rw_and (rt_eqI (rv 6) re_int) fun _ => rw_and1 (rt_neD (re_lp2 G (p := w.l) (rv 5)) (rf_lst ra_nil).re rdt_rows (rdt_rows (rows := [])) sr s0)).pt ?_)) (fun _ => ?_) (fun h => by cases h))
    · rw [eqv_rows, decide_eq_true cA.1, decide_eq_false cA.2]; rfl
    let e3 : List Sl := [.dat (rV (.ref w.pp)), .dat (rV (.ref w.pl)), .dat (rL (names.map rS)), .dat (rI what), .dat (rI cell), .dat (rV (.ref w.z.1)), .dat (rI (what % 8)), .dat (rI (1 + cell % 4)), .no]
    refine qs_cons (env1 := e3) (P1 := pWork w) (q1_set 7 rfl (qe_of (re_add re_int (re_mod (by decide) (rv 4) re_int)))) ?_
    refine qs_freeze rfl (fun H0 B H h hB h0 => work_close H0 B H h hB h0) ?_
    have vp : View e3 (pClosed w.pp w.pl w.ps w.loads) (e3.set 0 (.dat (rLPs w.ps))) := view_set (env := e3) (i := 0) (v := .ref w.pp) rfl rfl fun H0 B H h hB => closed_plans h hB
    have cm : 0 ≤ cell % 4 ∧ cell % 4 < 4 := ⟨Int.emod_nonneg _ (by decide), Int.emod_lt_of_pos _ (by decide)⟩
    refine qs_cons (env1 := e3) (P1 := Pd.ex fun z : Z3 => pWork ⟨w.pp, w.pl, z, w.ps, np, w.loads⟩) (q1_append3 false (kk := 0) (l := w.pp) (s1 := np.givens) (s2 := []) (t := np.name) rfl rfl (qg_of (rv 0)) (qg_look vp (re_ixL (i := (w.ps.length : Int)) (nm_at (by omega) (by omega)) (rp_of (rs := names.map rS) (rv 2)) (RE.eq (re_len (G.bi _ (by decide)) (rp_of (rs := w.ps.map rLP) (rv 0))) (by rw [List.length_map])))) (qf_look vp (rf_eq (rf_slL (i := some ((w.ps.length : Int) + 1)) (j := some ((w.ps.length : Int) + 1 + (1 + cell % 4))) (rp_of (rs := names.map rS) (rv 2)) (ro_some (RE.eq (re_add (re_len (G.bi _ (by decide)) (rp_of (rs := w.ps.map rLP) (rv 0))) re_int) (by rw [List.length_map]))) (ro_some (RE.eq (re_add (re_add (re_len (G.bi _ (by decide)) (rp_of (rs := w.ps.map rLP) (rv 0))) re_int) (rv 7)) (by rw [List.length_map])))) ?_)) (qf_of (ss := []) (rf_lst ra_nil)) (fun H0 B H B2 H2 q x y h hB2 hs hq hx hy h3 hxy hqx hqy => ?_) (fun H0 B H h => h.1.elim fun vs h => ⟨vs, h.1.1⟩)) (qs_ex fun z => ?_)
    · have e : (1 + cell % 4 : Int) = (((1 + cell % 4).toNat : Nat) : Int) := by omega
      rw [cutR_map, e, cut_names _ _ _ (by omega)]
    · obtain ⟨⟨vs, a1, a2⟩, a3, a4⟩ := hB2
      obtain ⟨⟨vs0, b1, _⟩, b3, _⟩ := h
      obtain ⟨c1, c2, c3⟩ := h3
      have off : ∀ c, H c = none → c ≠ w.pp := fun c hc z => by rw [z, b1.1] at hc; cases hc
      have off2 : ∀ c, H c = none → c ≠ w.pl := fun c hc z => by rw [z, b3.1] at hc; cases hc
      have la := a2.length
      rw [List.length_map] at la
      refine ⟨vs, a1, by rw [la]; exact Nat.lt_of_le_of_lt lt (by decide +kernel), (q, x, y), ⟨vs, a1.upd, a2⟩, c1.upd_ne (off q hq), c2.upd_ne (off x hx), ⟨[], c3.upd_ne (off y hy), trivial⟩, a3.upd_ne (Ne.symm a4), ?_⟩
      simp only [List.nodup_cons, List.mem_cons, not_or, List.not_mem_nil, not_false_eq_true, and_true, List.nodup_nil]
      exact ⟨⟨Ne.symm (off q hq), Ne.symm (off x hx), Ne.symm (off y hy), a4⟩, ⟨hqx, hqy, off2 q hq⟩, ⟨hxy, off2 x hx⟩, off2 y hy⟩
    · refine qs_cons (q1_append (l := w.pl) (P1 := pWork ⟨w.pp, w.pl, z, w.ps, np, w.loads⟩) (P2 := pWork ⟨w.pp, w.pl, z, w.ps, np, w.loads ++ [0]⟩) rfl (qe_of (rv 1)) (qe_of re_int) (fun H0 B H v h hv => ?_) (fun H0 B H h => ⟨_, h.2.2.2.2.1.1⟩)) ?_
      · have hv : v = .int 0 := hv
        subst hv
        refine ⟨_, h.2.2.2.2.1, ?_, ?_⟩
        · rw [List.length_map, ok.ll]
          exact Nat.lt_of_le_of_lt lt (by decide +kernel)
        · have z := work_setloads (ls := w.loads ++ [0]) h
          rwa [List.map_append] at z
      · exact qs_pd (P1 := growP w.pp w.pl (w.ps, np, w.loads ++ [0])) (fun H0 B H h => ⟨z, h⟩) (qs_nilw ⟨.inl rfl, .inl rfl, .inl rfl, .inl rfl, .inl rfl, .inl rfl, .inl rfl, .inl rfl, .inl rfl, trivial⟩)
  refine qs_one (q1_if (k := false) rfl (qt_look v5 (RT.eq (rw_and (rt_eqI (rv 6) re_int) fun _ => rw_and1 (rt_neD (re_lp2 G (p := w.l) (rv 5)) (rf_lst ra_nil).re rdt_rows (rdt_rows (rows := [])) sr s0)).pt ?_)) (fun h => by cases h) fun _ => ?_)
  · rw [eqv_rows]
    by_cases h : what % 8 = 0
    · have : w.l.rows = [] := Classical.byContradiction fun z => cA ⟨h, z⟩
      rw [decide_eq_true this]; simp
    · rw [decide_eq_false h]; rfl
  by_cases cB : what % 8 = 1 ∧ w.l.rows = [] ∧ w.l.givens.length < 12
  · have ei : growI w names what cell = (w.pre, { w.l with givens := w.l.givens ++ [nmAt names (((w.ps.length + w.l.givens.length) % names.length : Nat) : Int)] }, w.loads) := by
      unfold growI; rw [if_neg cA, if_pos cB]
    rw [ei]
    refine qs_one (q1_if (k := true) rfl (qt_look v5 (RT.eq (rw_and (rt_eqI (rv 6) re_int) fun _ => rw_and (rt_eqD (re_lp2 G (p := w.l) (rv 5)) (rf_lst ra_nil).re rdt_rows (rdt_rows (rows := [])) sr s0) fun _ => rw_and1 (rt_lt (re_len (G.bi _ (by decide)) (rp_of (re_lp1 G (p := w.l) (rv 5)))) re_int)).pt ?_)) (fun _ => ?_) (fun h => by cases h))
    · rw [eqv_rows, decide_eq_true cB.1, decide_eq_true cB.2.1, List.length_map, decide_eq_true (by have := cB.2.2; omega)]; rfl
    refine qs_cons (q1_append (l := w.z.2.1) (P1 := pWork w) (P2 := pWork { w with l := { w.l with givens := w.l.givens ++ [nmAt names (((w.ps.length + w.l.givens.length) % names.length : Nat) : Int)] } }) rfl (qe_look v5b (re_ixL (rs := [rS w.l.name, rV (.ref w.z.2.1), rV (.ref w.z.2.2)]) (i := 1) (atI_nat (n := 1) rfl) (rp_of (rv 5)) re_int)) (qe_look v05 (re_ixL (i := (((w.ps.length + w.l.givens.length) % names.length : Nat) : Int)) (nm_at (by omega) (by have := Nat.mod_lt (w.ps.length + w.l.givens.length) (show 0 < names.length by omega); omega)) (rp_of (rs := names.map rS) (rv 2)) (RE.eq (re_mod (by rw [List.length_map]; omega) (re_add (re_len (G.bi _ (by decide)) (rp_of (rs := w.ps.map rLP) (rv 0))) (re_len (G.bi _ (by decide)) (rp_of (re_lp1 G (p := w.l) (rv 5))))) (re_len (G.bi _ (by decide)) (rp_of (rs := names.map rS) (rv 2)))) ?_))) (fun H0 B H v h hv => ?_) (fun H0 B H h => ⟨_, h.2.2.1.1⟩)) ?_
    · rw [List.length_map, List.length_map, List.length_map]; rfl
    · have hv : v = .str (nmAt names (((w.ps.length + w.l.givens.length) % names.length : Nat) : Int)) := hv
      subst hv
      refine ⟨_, h.2.2.1, by rw [List.length_map]; exact Nat.lt_of_le_of_lt gl (by decide +kernel), ?_⟩
      have z := work_setlast (g := w.l.givens ++ [nmAt names (((w.ps.length + w.l.givens.length) % names.length : Nat) : Int)]) h
      rwa [List.map_append] at z
    · exact qs_pd (P1 := growP w.pp w.pl (w.pre, { w.l with givens := w.l.givens ++ [nmAt names (((w.ps.length + w.l.givens.length) % names.length : Nat) : Int)] }, w.loads)) (fun H0 B H h => ⟨w.z, h⟩) (qs_nilw ⟨.inl rfl, .inl rfl, .inl rfl, .inl rfl, .inl rfl, .inl rfl, .inl rfl, .inl rfl, .inl rfl, trivial⟩)
  refine qs_one (q1_if (k := false) rfl (qt_look v5 (RT.eq (rw_and (rt_eqI (rv 6) re_int) fun _ => rw_and (rt_eqD (re_lp2 G (p := w.l) (rv 5)) (rf_lst ra_nil).re rdt_rows (rdt_rows (rows := [])) sr s0) fun _ => rw_and1 (rt_lt (re_len (G.bi _ (by decide)) (rp_of (re_lp1 G (p := w.l) (rv 5)))) re_int)).pt ?_)) (fun h => by cases h) fun _ => ?_)
  · rw [eqv_rows, List.length_map]
    by_cases h : what % 8 = 1
    · by_cases h2 : w.l.rows = []
      · rw [decide_eq_false (p := (w.l.givens.length : Int) < 12) (fun z => cB ⟨h, h2, by omega⟩)]; simp
      · rw [decide_eq_false h2]; simp
    · rw [decide_eq_false h]; rfl
  have lr : (!(rowsD w.l.rows).eqv (rowsD [])) = true → atI (w.l.rows.map rMRow) (-1) = some (rMRow (lastRow w.l.rows)) := fun hk => last_row (by rw [eqv_rows] at hk; simpa using hk)
  by_cases cC : what % 8 > 3 ∧ w.l.rows ≠ [] ∧ plainHow (lastRow w.l.rows).how = true
  · have ei : growI w names what cell = (w.pre, { w.l with rows := w.l.rows.set (w.l.rows.length - 1) (lastItem w cell) }, w.loads) := by
      unfold growI; rw [if_neg cA, if_neg cB, if_pos cC]
    rw [ei]
    refine qs_one (q1_if (k := true) rfl (qt_look v5 (RT.eq (rw_and (rt_gt (rv 6) re_int) fun _ => rw_and (rt_neD (re_lp2 G (p := w.l) (rv 5)) (rf_lst ra_nil).re rdt_rows (rdt_rows (rows := [])) sr s0) fun hk => rw_and1 (rt_inT (ss := ["all", "first"]) (re_mr1 G (r := lastRow w.l.rows) (re_ixL (rs := w.l.rows.map rMRow) (i := -1) (lr hk) (rp_of (re_lp2 G (p := w.l) (rv 5))) (re_neg re_int))) (re_tup (ra_cons re_str (ra_cons re_str ra_nil))))).pt ?_)) (fun _ => ?_) (fun h => by cases h))
    · rw [eqv_rows]
      show (decide (what % 8 > 3) && (!decide (w.l.rows = []) && plainHow (lastRow w.l.rows).how)) = true
      rw [decide_eq_true cC.1, decide_eq_false cC.2.1, cC.2.2]; rfl
    have rne : w.l.rows.length ≠ 0 := fun z => cC.2.1 (List.eq_nil_of_length_eq_zero z)
    refine qs_pd (wb_name cC.2.1) (qs_ex fun ⟨wb, hwb⟩ => ?_)
    have hv : wb[wb.length - 1]? = some (wb.getD (wb.length - 1) .non) := by
      rw [List.getD_eq_getElem?_getD, List.getElem?_eq_getElem (by omega)]; rfl
    have hl : w.l.rows[wb.length - 1]? = some (lastRow w.l.rows) := by
      unfold lastRow
      rw [hwb, List.getLastD_eq_getLast?, List.getLast?_eq_getElem?, List.getElem?_eq_getElem (by omega)]
      rfl
    have hlm : lastRow w.l.rows ∈ w.l.rows := List.mem_of_getElem? hl
    generalize wb.getD (wb.length - 1) .non = lv at hv
    let e3 : List Sl := [.dat (rV (.ref w.pp)), .dat (rV (.ref w.pl)), .dat (rL (names.map rS)), .dat (rI what), .dat (rI cell), .dat (rV (.ref w.z.1)), .dat (rI (what % 8)), .no, .dat (rV lv)]
    let e4 : List Sl := [.dat (rV (.ref w.pp)), .dat (rV (.ref w.pl)), .dat (rL (names.map rS)), .dat (rI what), .dat (rI cell), .dat (rV (.ref w.z.1)), .dat (rI (what % 8)), .no, .dat (rMRow (lastRow w.l.rows))]
    have v3 : View e2 (pWb w wb) (e2.set 5 (.dat (rL [rS w.l.name, rV (.ref w.z.2.1), rL (wb.map rV)]))) := view_set (env := e2) (i := 5) (v := .ref w.z.1) rfl rfl fun H0 B H h hB => ⟨w.z.1, _, rfl, h.1.2.1.1, rfl, rfl, ⟨w.z.2.2, wb, rfl, h.2.1.1, (by have := Oks.of (H := H) (f := rV) (g := fun v : V => v) (fun _ => rfl) wb; rwa [List.map_id'] at this)⟩, trivial⟩
    have v4 : View e4 (pWb w wb) (e4.set 5 (.dat (rLP w.l))) := view_set (env := e4) (i := 5) (v := .ref w.z.1) rfl rfl fun H0 B H h hB => work_last h.1 hB
    have v4b : View e4 (pWb w wb) (e4.set 5 (.dat (rL [rS w.l.name, rV (.ref w.z.2.1), rV (.ref w.z.2.2)]))) := view_set (env := e4) (i := 5) (v := .ref w.z.1) rfl rfl fun H0 B H h hB => work_last2 h.1
    refine qs_cons (env1 := e3) (P1 := pWb w wb) (q1_set 8 rfl (qe_look v3 (re_ixL (rs := wb.map rV) (i := -1) (atI_last (by rw [List.length_map, List.getElem?_map, hv]; rfl)) (rp_of (re_ixL (rs := [rS w.l.name, rV (.ref w.z.2.1), rL (wb.map rV)]) (i := 2) (atI_nat (n := 2) rfl) (rp_of (rv 5)) re_int)) (re_neg re_int)))) ?_
    refine qs_know (i := 8) (v := lv) (r := rMRow (lastRow w.l.rows)) rfl (fun H0 B H h => ?_) ?_
    · obtain ⟨u, h1, h2⟩ := h.2.2.get (i := wb.length - 1) (r := rMRow (lastRow w.l.rows)) (by rw [List.getElem?_map, hl]; rfl)
      rw [hv] at h1
      cases h1
      exact h2
    refine qs_cons (env1 := e4) (P1 := pWork { w with l := { w.l with rows := w.l.rows.set (w.l.rows.length - 1) (lastItem w cell) } }) (q1_setAt (l := w.z.2.2) (n := -1) (P1 := pWb w wb) (r := rT [rS (lastRow w.l.rows).name, rS (lastRow w.l.rows).how, rT ((lastRow w.l.rows).items.map rPr ++ [rPr (itemBy cell (aheadOf w.l - 1))])]) rfl (qe_tup (rs := [rS (lastRow w.l.rows).name, rS (lastRow w.l.rows).how, rT ((lastRow w.l.rows).items.map rPr ++ [rPr (itemBy cell (aheadOf w.l - 1))])]) (qa_cons rfl (qe_of (re_mr0 G (r := lastRow w.l.rows) (rv 8))) (qa_cons rfl (qe_of (re_mr1 G (r := lastRow w.l.rows) (rv 8))) (qa_cons rfl (qe_addt (P3 := pWb w wb) (xs := (lastRow w.l.rows).items.map rPr) (ys := [rPr (itemBy cell (aheadOf w.l - 1))]) rfl ?_ ?_ (by simp) (qe_of (re_mr2 G (r := lastRow w.l.rows) (rv 8))) (qe_tup (qa_cons rfl (qe_call FI (cell, aheadOf w.l - 1) ?_ (qa_cons rfl (qe_of (rv 4)) (qa_cons rfl (qe_look v4 (RE.eq (re_sub (re_add (re_len (G.bi _ (by decide)) (rp_of (re_lp1 G (p := w.l) (rv 5)))) (re_len (G.bi _ (by decide)) (rp_of (re_lp2 G (p := w.l) (rv 5))))) re_int) ?_)) qa_nil))) qa_nil))) qa_nil)))) (qe_look v4b (re_ixL (rs := [rS w.l.name, rV (.ref w.z.2.1), rV (.ref w.z.2.2)]) (i := 2) (atI_nat (n := 2) rfl) (rp_of (rv 5)) re_int)) (qe_of (re_neg re_int)) fun H0 B H v h hv => ?_) ?_
    · rw [List.length_map]
      exact Nat.le_trans (Nat.add_le_add_right (it _ hlm) 1) (by decide +kernel)
    · exact fun z => hw.ne _ hlm (List.map_eq_nil_iff.mp z)
    · show 0 < aheadOf w.l - 1 ∧ aheadOf w.l - 1 ≤ 1000
      have := ok.g1
      unfold aheadOf; omega
    · rw [List.length_map, List.length_map]
      unfold aheadOf
      have := ok.g1
      congr 1
      omega
    · refine ⟨wb, wb.length - 1, h.2.1, ixN_last (by omega), ?_⟩
      have z := work_setrows (rows := w.l.rows.set (w.l.rows.length - 1) (lastItem w cell)) (wb := wb.set (wb.length - 1) v) h.1 (by
        rw [List.map_set, ← hwb]
        refine h.2.2.set _ ?_
        have e : rMRow (lastItem w cell) = rT [rS (lastRow w.l.rows).name, rS (lastRow w.l.rows).how, rT ((lastRow w.l.rows).items.map rPr ++ [rPr (itemBy cell (aheadOf w.l - 1))])] := by
          unfold rMRow lastItem
          rw [List.map_append]; rfl
        rw [e]; exact hv)
      exact z
    · exact qs_pd (P1 := growP w.pp w.pl (w.pre, { w.l with rows := w.l.rows.set (w.l.rows.length - 1) (lastItem w cell) }, w.loads)) (fun H0 B H h => ⟨w.z, h⟩) (qs_nilw ⟨.inl rfl, .inl rfl, .inl rfl, .inl rfl, .inl rfl, .inl rfl, .inl rfl, .inl rfl, .inl rfl, trivial⟩)
  · have ei : growI w names what cell = (w.pre, { w.l with rows := w.l.rows ++ [(rowBy w names (what / 8) cell).1] }, (rowBy w names (what / 8) cell).2) := by
      unfold growI; rw [if_neg cA, if_neg cB, if_neg cC]
    rw [ei]
    refine qs_one (q1_if (k := false) rfl (qt_look v5 (RT.eq (rw_and (rt_gt (rv 6) re_int) fun _ => rw_and (rt_neD (re_lp2 G (p := w.l) (rv 5)) (rf_lst ra_nil).re rdt_rows (rdt_rows (rows := [])) sr s0) fun hk => rw_and1 (rt_inT (ss := ["all", "first"]) (re_mr1 G (r := lastRow w.l.rows) (re_ixL (rs := w.l.rows.map rMRow) (i := -1) (lr hk) (rp_of (re_lp2 G (p := w.l) (rv 5))) (re_neg re_int))) (re_tup (ra_cons re_str (ra_cons re_str ra_nil))))).pt ?_)) (fun h => by cases h) fun _ => ?_)
    · rw [eqv_rows]
      show (decide (what % 8 > 3) && (!decide (w.l.rows = []) && plainHow (lastRow w.l.rows).how)) = false
      by_cases h : what % 8 > 3
      · by_cases h2 : w.l.rows = []
        · rw [decide_eq_true h2]; simp
        · cases h3 : plainHow (lastRow w.l.rows).how with
          | true => exact absurd ⟨h, h2, h3⟩ cC
          | false => simp
      · rw [decide_eq_false h]; rfl
    refine qs_cons (q1_append (l := w.z.2.2) (P1 := pWork { w with loads := (rowBy w names (what / 8) cell).2 }) (P2 := pWork { w with loads := (rowBy w names (what / 8) cell).2, l := { w.l with rows := w.l.rows ++ [(rowBy w names (what / 8) cell).1] } }) rfl (qe_look v5b (re_ixL (rs := [rS w.l.name, rV (.ref w.z.2.1), rV (.ref w.z.2.2)]) (i := 2) (atI_nat (n := 2) rfl) (rp_of (rv 5)) re_int)) (qe_callQ FR ⟨w, names, what / 8, cell⟩ ok (P1 := pWork w) (qa_cons rfl (qe_of (rv 0)) (qa_cons rfl (qe_of (rv 1)) (qa_cons rfl (qe_of (rv 2)) (qa_cons rfl (qe_of (re_fdiv ⟨by decide, by decide⟩ (rv 3) re_int)) (qa_cons rfl (qe_of (rv 4)) qa_nil))))) (fun _ _ _ h => h) (fun _ _ _ h => h)) (fun H0 B H v h hv => ?_) (fun H0 B H h => h.2.2.2.1.elim fun wb h => ⟨_, h.1.1⟩)) ?_
    · obtain ⟨wb, h5, h6⟩ := h.2.2.2.1
      refine ⟨wb, h5, ?_, work_setrows h (by rw [List.map_append]; exact h6.append ⟨hv, trivial⟩)⟩
      rw [h6.length, List.length_map]
      exact Nat.lt_of_le_of_lt rl (by decide +kernel)
    · exact qs_pd (P1 := growP w.pp w.pl (w.pre, { w.l with rows := w.l.rows ++ [(rowBy w names (what / 8) cell).1] }, (rowBy w names (what / 8) cell).2)) (fun H0 B H h => ⟨w.z, h⟩) (qs_nilw ⟨.inl rfl, .inl rfl, .inl rfl, .inl rfl, .inl rfl, .inl rfl, .inl rfl, .inl rfl, .inl rfl, trivial⟩)
end
end K60
/-! text W24 -/
set_option Elab.async false
set_option linter.all false
set_option maxRecDepth 100000
set_option maxHeartbeats 4000000
namespace K60
open PySem PyProof.Rows Rl
open PySem.Spec hiding Row
open L2 (E0 XK Hp V atI ixN inClass defScope upd upd_same upd_ne HO Same)
abbrev WS := List MPlan × MPlan × List Int
def wk (pp pl : Addr) (z : Z3) (x : WS) : Wk := ⟨pp, pl, z, x.1, x.2.1, x.2.2⟩
def NmsOk (names : List Str) : Prop := names.length = 26 ∧ ∀ s ∈ names, PyData.strOk s = true
/-- a plan, n turns in -/
structure PlIn (n : Nat) (p : MPlan) : Prop where
  nm : PyData.strOk p.name = true
  g1 : 1 ≤ p.givens.length
  g2 : p.givens.length ≤ 12
  rw : p.rows.length ≤ n
  it : ∀ r ∈ p.rows, MrOk r ∧ r.items ≠ [] ∧ r.items.length ≤ 12 + n
structure WsIn (n : Nat) (x : WS) : Prop where
  len : x.1.length ≤ n
  ll : x.2.2.length = x.1.length + 1
  pr : ∀ p ∈ x.1, PlIn n p
  la : PlIn n x.2.1
theorem PlIn.up {n m : Nat} {p : MPlan} (h : PlIn n p) (hm : n ≤ m) : PlIn m p := ⟨h.nm, h.g1, h.g2, Nat.le_trans h.rw hm, fun r hr => ⟨(h.it r hr).1, (h.it r hr).2.1, by have := (h.it r hr).2.2; omega⟩⟩
theorem WsIn.all {n : Nat} {x : WS} (h : WsIn n x) : ∀ p ∈ x.1 ++ [x.2.1], PlIn n p := fun p hp => by
  rcases List.mem_append.mp hp with q | q
  · exact h.pr p q
  · rw [List.mem_singleton.mp q]; exact h.la
theorem WsIn.wkok {n : Nat} {x : WS} {names : List Str} {pp pl : Addr} {z : Z3} (h : WsIn n x) (hn : NmsOk names) (h19 : n ≤ 19) : WkOk (wk pp pl z x) names := by
  have e : (wk pp pl z x).ps = x.1 ++ [x.2.1] := rfl
  have l : (wk pp pl z x).ps.length = x.1.length + 1 := by rw [e, List.length_append]; rfl
  have := h.len
  exact ⟨hn.1, by omega, by rw [l]; exact h.ll, fun p hp => by have q := h.all p hp; have := q.g2; have := q.rw; omega, h.la.g1⟩
theorem WsIn.growOk {n : Nat} {x : WS} {names : List Str} {pp pl : Addr} {z : Z3} {what cell : Int} (h : WsIn n x) (hn : NmsOk names) (h19 : n ≤ 19) : GrowOk ⟨wk pp pl z x, names, what, cell⟩ := by
  have e : (wk pp pl z x).ps = x.1 ++ [x.2.1] := rfl
  have l : (wk pp pl z x).ps.length = x.1.length + 1 := by rw [e, List.length_append]; rfl
  have := h.len
  exact ⟨h.wkok hn h19, fun r hr => (h.la.it r hr).1, by show (wk pp pl z x).ps.length ≤ 20; omega, fun r hr => by have := (h.la.it r hr).2.2; omega, fun r hr => (h.la.it r hr).2.1⟩
theorem strOk_at {names : List Str} (h : NmsOk names) (t : Int) : PyData.strOk (nmAt names t) = true := by
  unfold nmAt
  rw [List.getD_eq_getElem?_getD]
  cases e : names[t.toNat]? with
  | none => decide +kernel
  | some s => exact h.2 s (List.mem_of_getElem? e)
theorem loads1_len (w : Wk) : (loads1 w).length = w.loads.length := by unfold loads1 setLast; rw [List.length_set]
theorem part_in {n : Nat} {x : WS} {pp pl : Addr} {z : Z3} {what : Int} (h : WsIn n x) (hp : 1 < (x.1.length + 1 : Int)) : PlIn n (partPlan (wk pp pl z x) what) := by
  have e : (wk pp pl z x).ps = x.1 ++ [x.2.1] := rfl
  have l : (wk pp pl z x).ps.length = x.1.length + 1 := by rw [e, List.length_append]; rfl
  have hix : partIx (wk pp pl z x) what < (wk pp pl z x).ps.length := by
    unfold partIx
    have h1 : 0 ≤ (what / 4) % (((wk pp pl z x).ps.length : Int) - 1) := Int.emod_nonneg _ (by omega)
    have h2 : (what / 4) % (((wk pp pl z x).ps.length : Int) - 1) < ((wk pp pl z x).ps.length : Int) - 1 := Int.emod_lt_of_pos _ (by omega)
    omega
  unfold partPlan
  rw [List.getD_eq_getElem?_getD, List.getElem?_eq_getElem hix]
  exact h.all _ (List.getElem_mem _)
theorem row_in {n : Nat} {x : WS} {names : List Str} {pp pl : Addr} {z : Z3} {what cell : Int} (h : WsIn n x) (hn : NmsOk names) : (MrOk (rowBy (wk pp pl z x) names what cell).1 ∧ (rowBy (wk pp pl z x) names what cell).1.items ≠ [] ∧ (rowBy (wk pp pl z x) names what cell).1.items.length ≤ 12) ∧ (rowBy (wk pp pl z x) names what cell).2.length = x.2.2.length := by
  have e : (wk pp pl z x).ps = x.1 ++ [x.2.1] := rfl
  have l : (wk pp pl z x).ps.length = x.1.length + 1 := by rw [e, List.length_append]; rfl
  unfold rowBy
  cases hp : isPart (wk pp pl z x) what with
  | true =>
    have h1 : 1 < (x.1.length + 1 : Int) := by
      unfold isPart at hp
      simp only [Bool.and_eq_true, decide_eq_true_eq, l] at hp
      omega
    have q := part_in (pp := pp) (pl := pl) (z := z) (what := what) h h1
    refine ⟨⟨⟨strOk_at hn _, q.nm⟩, fun z => ?_, ?_⟩, ?_⟩
    · have := congrArg List.length z
      simp only [if_true, partRow, List.length_map, List.length_range, List.length_nil] at this
      have := q.g1
      omega
    · simp only [if_true, partRow, List.length_map, List.length_range]; exact q.g2
    · simp only [if_true, setLast, List.length_set, loads1_len]; rfl
  | false =>
    refine ⟨⟨⟨strOk_at hn _, ?_⟩, by simp [plainRow], by simp [plainRow]⟩, ?_⟩
    · show PyData.strOk ((["all", "first"] : List Str).getD (what % 2).toNat "") = true
      have h1 : 0 ≤ what % 2 := Int.emod_nonneg _ (by decide)
      have h2 : what % 2 < 2 := Int.emod_lt_of_pos _ (by decide)
      generalize what % 2 = r at h1 h2
      have : r = 0 ∨ r = 1 := by omega
      rcases this with rfl | rfl <;> decide +kernel
    · show (loads1 (wk pp pl z x)).length = _
      rw [loads1_len]; rfl
end K60
/-! text W25 -/
set_option Elab.async false
set_option linter.all false
set_option maxRecDepth 100000
set_option maxHeartbeats 4000000
namespace K60
open PySem PyProof.Rows Rl
open PySem.Spec hiding Row
open L2 (E0 XK Hp V atI ixN inClass defScope upd upd_same upd_ne HO Same)
theorem PlIn.of_rows {n : Nat} {p : MPlan} {rows : List MRow} (h : PlIn n p) (hl : rows.length ≤ n + 1) (hr : ∀ r ∈ rows, MrOk r ∧ r.items ≠ [] ∧ r.items.length ≤ 12 + (n + 1)) : PlIn (n + 1) { p with rows := rows } := ⟨h.nm, h.g1, h.g2, hl, hr⟩
theorem grow_in {n : Nat} {x : WS} {names : List Str} {pp pl : Addr} {z : Z3} {what cell : Int} (h : WsIn n x) (hn : NmsOk names) (h19 : n ≤ 19) : WsIn (n + 1) (growI (wk pp pl z x) names what cell) := by
  have e : (wk pp pl z x).ps = x.1 ++ [x.2.1] := rfl
  have l : (wk pp pl z x).ps.length = x.1.length + 1 := by rw [e, List.length_append]; rfl
  have up : ∀ p ∈ x.1, PlIn (n + 1) p := fun p hp => (h.pr p hp).up (Nat.le_succ n)
  have it1 : ∀ r ∈ x.2.1.rows, MrOk r ∧ r.items ≠ [] ∧ r.items.length ≤ 12 + (n + 1) := fun r hr => ⟨(h.la.it r hr).1, (h.la.it r hr).2.1, by have := (h.la.it r hr).2.2; omega⟩
  have hlen := h.len
  unfold growI
  split
  · refine ⟨?_, ?_, fun p hp => ?_, ?_⟩
    · show (wk pp pl z x).ps.length ≤ n + 1
      omega
    · show (x.2.2 ++ [0]).length = (wk pp pl z x).ps.length + 1
      rw [List.length_append, h.ll, l]; rfl
    · exact (h.all p (by rw [← e]; exact hp)).up (Nat.le_succ n)
    · have cm : 0 ≤ cell % 4 ∧ cell % 4 < 4 := ⟨Int.emod_nonneg _ (by decide), Int.emod_lt_of_pos _ (by decide)⟩
      have gl : (cutNames names (wk pp pl z x).ps.length (1 + cell % 4).toNat).length = (1 + cell % 4).toNat := by
        unfold cutNames
        rw [List.length_take, List.length_drop, hn.1, l]
        omega
      exact ⟨strOk_at hn _, by show 1 ≤ (cutNames _ _ _).length; omega, by show (cutNames _ _ _).length ≤ 12; omega, Nat.zero_le _, fun r hr => by cases hr⟩
  · split
    · rename_i hc
      refine ⟨Nat.le_succ_of_le h.len, h.ll, up, h.la.nm, ?_, ?_, Nat.le_succ_of_le h.la.rw, it1⟩
      · show 1 ≤ (x.2.1.givens ++ [_]).length
        rw [List.length_append]; simp
      · show (x.2.1.givens ++ [_]).length ≤ 12
        rw [List.length_append]
        have : x.2.1.givens.length < 12 := hc.2.2
        simp; omega
    · split
      · rename_i hc
        refine ⟨Nat.le_succ_of_le h.len, h.ll, up, h.la.of_rows ?_ fun r hr => ?_⟩
        · rw [List.length_set]; exact Nat.le_succ_of_le h.la.rw
        · rcases List.mem_or_eq_of_mem_set hr with q | q
          · exact it1 r q
          · subst q
            have hl : lastRow x.2.1.rows ∈ x.2.1.rows := by
              unfold lastRow
              have : x.2.1.rows ≠ [] := hc.2.1
              have l0 : x.2.1.rows.length ≠ 0 := fun z => this (List.eq_nil_of_length_eq_zero z)
              rw [List.getLastD_eq_getLast?, List.getLast?_eq_getElem?, List.getElem?_eq_getElem (by omega)]
              exact List.getElem_mem _
            have q := h.la.it _ hl
            refine ⟨q.1, by simp [lastItem], ?_⟩
            show ((lastRow x.2.1.rows).items ++ [_]).length ≤ _
            rw [List.length_append]
            have := q.2.2
            simp; omega
      · have q := row_in (pp := pp) (pl := pl) (z := z) (what := what / 8) (cell := cell) h hn
        refine ⟨Nat.le_succ_of_le h.len, by rw [q.2]; exact h.ll, up, h.la.of_rows ?_ fun r hr => ?_⟩
        · show (x.2.1.rows ++ [_]).length ≤ n + 1
          rw [List.length_append]
          have := h.la.rw
          simp; omega
        · rcases List.mem_append.mp hr with q2 | q2
          · exact it1 r q2
          · rw [List.mem_singleton.mp q2]
            exact ⟨q.1.1, q.1.2.1, by have := q.1.2.2; omega⟩
def growW (x : WS) (names : List Str) (what cell : Int) : WS := growI (wk 0 0 (0, 0, 0) x) names what cell
theorem growW_eq (pp pl : Addr) (z : Z3) (x : WS) (names : List Str) (what cell : Int) : growI (wk pp pl z x) names what cell = growW x names what cell := rfl
def manyOf (xs : List Int) : Int := cellAt xs 1 / 5 % 4
def start (xs : List Int) (names : List Str) : WS := ([], ⟨nmAt names 0, (names.drop 1).take (1 + manyOf xs).toNat, []⟩, [0])
def growsW (xs : List Int) (names : List Str) : Nat → WS
  | 0 => start xs names
  | n + 1 => growW (growsW xs names n) names (cellAt xs (2 + 2 * n)) (cellAt xs (2 + 2 * n + 1))
def turnsOf (xs : List Int) : Nat := cnt2 (min xs.length 38)
def closeW (x : WS) (names : List Str) : List MPlan := if x.2.1.rows = [] then x.1 ++ [{ x.2.1 with rows := [(rowBy (wk 0 0 (0, 0, 0) x) names 0 0).1] }] else x.1 ++ [x.2.1]
def plansBy (xs : List Int) : List MPlan := closeW (growsW xs (namesBy xs 26) (turnsOf xs)) (namesBy xs 26)
theorem start_in (xs : List Int) {names : List Str} (hn : NmsOk names) : WsIn 0 (start xs names) := by
  have cm : 0 ≤ manyOf xs ∧ manyOf xs < 4 := ⟨Int.emod_nonneg _ (by decide), Int.emod_lt_of_pos _ (by decide)⟩
  have gl : ((names.drop 1).take (1 + manyOf xs).toNat).length = (1 + manyOf xs).toNat := by
    rw [List.length_take, List.length_drop, hn.1]
    omega
  refine ⟨Nat.le_refl _, rfl, fun p hp => absurd hp List.not_mem_nil, ⟨strOk_at hn _, ?_, ?_, Nat.le_refl _, fun r hr => absurd hr List.not_mem_nil⟩⟩
  · show 1 ≤ ((names.drop 1).take (1 + manyOf xs).toNat).length
    omega
  · show ((names.drop 1).take (1 + manyOf xs).toNat).length ≤ 12
    omega
theorem grows_in (xs : List Int) {names : List Str} (hn : NmsOk names) : ∀ n, n ≤ 19 → WsIn n (growsW xs names n)
  | 0, _ => start_in xs hn
  | n + 1, h => by
    have q := grows_in xs hn n (by omega)
    unfold growsW
    rw [← growW_eq 0 0 (0, 0, 0)]
    exact grow_in q hn (by omega)
theorem turns_le (xs : List Int) : turnsOf xs ≤ 18 := by unfold turnsOf cnt2; omega
abbrev P_plans_by (Γ : Cg) : Prop := Fn0 Γ 5 "_law_plans_by" ["script"] (Sp0 (fun _ : List Int => True) (fun xs => [rQ Γ.K xs]) fun xs => rLPs (plansBy xs))
end K60
/-! text W26 -/
set_option Elab.async false
set_option linter.all false
set_option maxRecDepth 100000
set_option maxHeartbeats 4000000
namespace Rl
open PySem PySem.Spec PyProof.Rows L2
/-- an own list of one own three -/
def pOne (l : Addr) (t : Str) (s1 s2 : List Str) (z : Addr × Addr × Addr) : Pd := ⟨fun H0 B H => OwnAt H0 B H l (.lst [.ref z.1]) ∧ own3 false t s1 s2 z.1 z.2.1 z.2.2 H0 B H ∧ [l, z.1, z.2.1, z.2.2].Nodup, fun g ⟨h1, ⟨h2, h3, h4⟩, h5⟩ => ⟨h1.grow g, ⟨h2.grow g, h3.grow g, h4.grow g⟩, h5⟩⟩
section
variable {Γ : Cg} {L : Lc} {E : Wc} {env env1 env2 : List Sl} {a b c : Expr} {pos p lpos dpos : Pos} {rest : List Stmt} {o : OutQ} {P P1 P2 : Pd}
theorem qs_own3 (i : Nat) {x : Str} {s1 s2 : List Str} {t : Str} (hn : noAB env = true) (h1 : QG Γ L E a env P (rS t)) (h2 : QF Γ L E b env P s1) (h3 : QF Γ L E c env P s2)
    (hr : ∀ (l : Addr) (z : Addr × Addr × Addr), QS Γ L E rest (env.set i (.dat (rV (.ref l)))) (pOne l t s1 s2 z) o) (hb : stoB L i x = true := by decide +kernel)
    (hs1 : ∀ en : Env, starEach [a, b, c] en = (false, eval a en) :: starEach [b, c] en := by intro _; rfl) (hs2 : ∀ en : Env, starEach [b, c] en = (false, eval b en) :: starEach [c] en := by intro _; rfl) (hs3 : ∀ en : Env, starEach [c] en = (false, eval c en) :: starEach [] en := by intro _; rfl)
    (hd : ∀ en : Env, starEach [.List [a, b, c] dpos] en = (false, eval (.List [a, b, c] dpos) en) :: starEach [] en := by intro _; rfl)
    (hs : ∀ en : Env, en.scope = L.sc → swapsWith (.List [.List [a, b, c] dpos] lpos) (some (.Name x p)) pos.line en = pure false := by intro _ _; rfl) : QS Γ L E (.Assign [.Name x p] (.List [.List [a, b, c] dpos] lpos) pos :: rest) env P o := by
  obtain ⟨ta, a1, a2⟩ := pa3 h1 h2 h3 hs1 hs2 hs3
  obtain ⟨q1, q2, q3⟩ := stoB_ok hb
  refine ⟨tSeq (tAsg (tLst (tCons (tLst ta) tNil)) (gName i)) (fun D σ H => ∃ l z, (hr l z).choose D σ H), fun X k => pss_cons (ps_set (by rw [k.N]; exact k.nd) (by rw [k.N]; exact q1) (by rw [k.sc]; exact q2) (pe_lst (pa_cons (pe_lst (a1 X k)) pa_nil (hd _))) (hs _ k.sc) (by
    rcases q3 with h3 | h3
    · exact .inr (by rw [k.sc]; exact h3)
    · exact .inl (k.fn h3 x))) ⟨fun pins s1 σ1 H1 D1 I1 ⟨l, z, w⟩ => ((hr l z).choose_spec.1 X k).run pins s1 σ1 H1 D1 I1 w⟩, fun H0 B0 B H σ D k p g q => ?_⟩
  refine a2 H0 B H σ _ k p fun x y B2 H2 g2 x1 x2 x3 y1 y2 y3 hxy => ⟨Nat.le_of_ble_eq_true rfl, fun q' hq' => ⟨Nat.le_of_ble_eq_true rfl, fun l hl => ?_⟩⟩
  have hqx : q' ≠ x := fun z => by rw [z, x1] at hq'; cases hq'
  have hqy : q' ≠ y := fun z => by rw [z, y1] at hq'; cases hq'
  have hlq : l ≠ q' := fun z => by rw [z, upd_same] at hl; cases hl
  rw [upd_ne hlq] at hl
  have hlx : l ≠ x := fun z => by rw [z, x1] at hl; cases hl
  have hly : l ≠ y := fun z => by rw [z, y1] at hl; cases hl
  have g3 : Grow B2 H2 B2 (upd H2 q' (.lst [.str t, .ref x, .ref y])) := Grow.stay g2.i (same_new hq' _)
  have hl2 : (upd H2 q' (.lst [.str t, .ref x, .ref y])) l = none := by rw [upd_ne hlq]; exact hl
  have g4 := Grow.stay g3.i (same_new hl2 (.lst [.ref q']))
  have gg := (g2.trans g3).trans g4
  have gf := gg.frame k.e0
  have k2 : Sok H0 B2 (upd (upd H2 q' (.lst [.str t, .ref x, .ref y])) l (.lst [.ref q'])) σ env := k.move hn gf.b gf.i gf.h
  refine ⟨l, (q', x, y), (hr l (q', x, y)).choose_spec.2 H0 B0 B2 _ _ D (k2.set rfl) ?_ (g.trans0 gf) q⟩
  refine ⟨⟨upd_same, g2.i.free hl, k.e0.free (g2.h.free hl)⟩, ⟨⟨by rw [upd_ne (Ne.symm hlq)]; exact upd_same, g2.i.free hq', k.e0.free (g2.h.free hq')⟩, ⟨by rw [upd_ne (Ne.symm hlx), upd_ne (Ne.symm hqx)]; exact x1, x2, k.e0.free x3⟩, ⟨by rw [upd_ne (Ne.symm hly), upd_ne (Ne.symm hqy)]; exact y1, y2, k.e0.free y3⟩⟩, ?_⟩
  simp only [List.nodup_cons, List.mem_cons, not_or, List.not_mem_nil, not_false_eq_true, and_true, List.nodup_nil]
  exact ⟨⟨hlq, hlx, hly⟩, ⟨hqx, hqy⟩, hxy⟩
theorem qs_ownK {e : Expr} {rs : List Rp} {PP : Addr → Pd} (i : Nat) {x : Str} (hn : noAB env = true) (he : RF Γ L E e env rs) (hm : ∀ (H0 B H B2 H2 : Hp) (l : Addr) (vs : List V), P.ok H0 B H → P.ok H0 B2 H2 → H l = none → OwnAt H0 B2 H2 l (.lst vs) → Oks B2 rs vs → (PP l).ok H0 B2 H2) (hr : ∀ l : Addr, QS Γ L E rest (env.set i (.dat (rV (.ref l)))) (PP l) o) (hb : stoB L i x = true := by decide +kernel)
    (hs : ∀ en : Env, en.scope = L.sc → swapsWith e (some (.Name x p)) pos.line en = pure false := by intro _ _; rfl) : QS Γ L E (.Assign [.Name x p] e pos :: rest) env P o := by
  obtain ⟨t, e1, e2⟩ := he
  obtain ⟨h1, h2, h3⟩ := stoB_ok hb
  refine ⟨tSeq (tAsg t (gName i)) (fun D σ H => ∃ l, (hr l).choose D σ H), fun X k => pss_cons (ps_set (by rw [k.N]; exact k.nd) (by rw [k.N]; exact h1) (by rw [k.sc]; exact h2) (e1 X k) (hs _ k.sc) (by
    rcases h3 with h3 | h3
    · exact .inr (by rw [k.sc]; exact h3)
    · exact .inl (k.fn h3 x))) ⟨fun pins s1 σ1 H1 D1 I1 ⟨l, z⟩ => ((hr l).choose_spec.1 X k).run pins s1 σ1 H1 D1 I1 z⟩, fun H0 B0 B H σ D k p g q => e2 H0 B H σ _ k fun l vs B2 H2 g2 a1 a2 a3 a4 => ?_⟩
  have gf := g2.frame k.e0
  exact ⟨l, (hr l).choose_spec.2 H0 B0 B2 H2 _ D ((k.move hn gf.b gf.i gf.h).set rfl) (hm H0 B H B2 H2 l vs p (P.grow g2 p) a3 ⟨a1, a2, k.e0.free a3⟩ a4) (g.trans0 gf) q⟩
end
end Rl
/-! text W27 -/
set_option Elab.async false
set_option linter.all false
set_option maxRecDepth 100000
set_option maxHeartbeats 4000000
namespace K60
open PySem PyProof.Rows Rl
open PySem.Spec hiding Row
open L2 (E0 XK Hp V atI ixN inClass defScope upd upd_same upd_ne HO Same)
theorem closed_out {pp pl : Addr} {ps : List MPlan} {loads : List Int} {H0 B B2 H : Hp} (h : (pClosed pp pl ps loads).ok H0 B2 H) (g : Grow B H0 B2 H) : ∃ B3, Grow B H0 B3 H ∧ (rLPs ps).ok B3 (.ref pp) := by
  obtain ⟨⟨vs, h1, h2⟩, _⟩ := h
  have s1 : Same B2 (upd B2 pp (.lst vs)) := same_new h1.2.1 _
  refine ⟨upd B2 pp (.lst vs), ⟨g.b.trans s1, same_two g.i h1.1 h1.2.1, g.h, fun c hc => ?_⟩, pp, vs, rfl, upd_same, h2.mono s1⟩
  by_cases c1 : c = pp
  · rw [c1]; exact .inr h1.2.2
  · rw [upd_ne c1] at hc; exact g.f c hc
section
variable {Γ : Cg} {C : Cls} (G : Gk Γ C)
include G
theorem w_plans_by (FN : P_names_by Γ) (FC : P_cell Γ) (FG : P_grow Γ) (FR : P_row_by Γ) (hnm : ∀ xs : List Int, NmsOk (namesBy xs 26)) (D : DfAt Γ "_law_plans_by" 73 ["script"]) : P_plans_by Γ := by
  refine fnq_0 (Pi := fun _ => Pd.tt) (Po := fun _ => Pd.tt) (defQ 4 Ll_plans_by D Sl_plans_by rfl rfl (fun _ => rfl) fun xs _ => ⟨.ret (rLPs (plansBy xs)) Pd.tt, ⟨rfl, fun _ _ _ h => h⟩, ?_⟩)
  have hn := hnm xs
  have nl := hn.1
  have cm : 0 ≤ manyOf xs ∧ manyOf xs < 4 := ⟨Int.emod_nonneg _ (by decide), Int.emod_lt_of_pos _ (by decide)⟩
  refine qs_cons (env1 := [.dat (rQ Γ.K xs), .dat (rL ((namesBy xs 26).map rS)), .no, .no, .no]) (P1 := Pd.tt) (q1_set 1 rfl (qe_of (re_call FN (xs, 26) (show (26 : Nat) ≤ 100 by decide) (ra_cons (rv 0) (ra_cons re_int ra_nil))))) ?_
  have hps : plansBy xs = closeW (growsW xs (namesBy xs 26) (turnsOf xs)) (namesBy xs 26) := rfl
  rw [hps]
  generalize namesBy xs 26 = names at hn nl ⊢
  refine qs_own3 2 (s1 := (start xs names).2.1.givens) (s2 := []) (t := nmAt names 0) rfl (qg_of (re_ixL (i := 0) (nm_at (by decide) (by omega)) (rp_of (rs := names.map rS) (rv 1)) re_int)) (qf_of (rf_eq (rf_slL (i := some 1) (j := some (2 + manyOf xs)) (rp_of (rs := names.map rS) (rv 1)) (ro_some re_int) (ro_some (re_add re_int (re_mod (by decide) (re_fdiv ⟨by decide, by decide⟩ (re_call FC (xs, 1) trivial (ra_cons (rv 0) (ra_cons re_int ra_nil))) re_int) re_int)))) ?_)) (qf_of (ss := []) (rf_lst ra_nil)) fun pp z => ?_
  · have e : (2 + manyOf xs : Int) = ((0 : Nat) : Int) + 1 + (((1 + manyOf xs).toNat : Nat) : Int) := by omega
    have c := cut_names names 0 (1 + manyOf xs).toNat (by omega)
    rw [cutR_map, e]
    exact congrArg (List.map rS) c
  refine qs_ownK (PP := fun pl => pWork (wk pp pl z (start xs names))) 3 rfl (rf_lst (ra_cons re_int ra_nil)) (fun H0 B H B2 H2 l vs h h2 hl hv ho => ?_) fun pl => ?_
  · obtain ⟨v, rfl, hv0⟩ := ho.one
    have hv0 : v = .int 0 := hv0
    subst hv0
    obtain ⟨a1, ⟨a2, a3, a4⟩, a5⟩ := h2
    obtain ⟨b1, ⟨b2, b3, b4⟩, _⟩ := h
    have off : ∀ c o, H c = some o → c ≠ l := fun c o hc q => by rw [q, hl] at hc; cases hc
    refine ⟨⟨[], a1, trivial⟩, a2, a3, ⟨[], a4, trivial⟩, hv, ?_⟩
    simp only [List.nodup_cons, List.mem_cons, not_or, List.not_mem_nil, not_false_eq_true, and_true, List.nodup_nil] at a5 ⊢
    exact ⟨⟨a5.1.1, a5.1.2.1, a5.1.2.2, off _ _ b1.1⟩, ⟨a5.2.1.1, a5.2.1.2, off _ _ b2.1⟩, ⟨a5.2.2, off _ _ b3.1⟩, off _ _ b4.1⟩
  let S : Nat → List Sl := fun _ => [.dat (rQ Γ.K xs), .dat (rL (names.map rS)), .dat (rV (.ref pp)), .dat (rV (.ref pl)), .no]
  let PP : Nat → Pd := fun n => Pd.ex fun z => pWork (wk pp pl z (growsW xs names n))
  refine qs_pd (P1 := PP 0) (fun H0 B H h => ⟨z, h⟩) ?_
  refine qs_cons (q1_upto (xs := List.range (turnsOf xs)) S PP (fun _ => rfl) rfl rfl (ri_range2 (m := min xs.length 38) (by omega) (G.bi _ (by decide)) re_int (RE.eq (re_min2 (G.bi _ (by decide)) (re_len (G.bi _ (by decide)) (rp_q (ns := xs) (rv 0))) re_int) (congrArg rI (show min ((xs.map rI).length : Int) 38 = ((min xs.length 38 : Nat) : Int) from by rw [List.length_map]; omega))) re_int) fun n x hx => ?_) ?_
  · have hx2 : n < turnsOf xs ∧ x = n := by
      have q := List.getElem?_eq_some_iff.mp hx
      obtain ⟨q1, q2⟩ := q
      rw [List.getElem_range] at q2
      rw [List.length_range] at q1
      exact ⟨q1, q2.symm⟩
    obtain ⟨hlt, hxn⟩ := hx2
    rw [hxn]
    have hm : turnsOf xs ≤ 18 := turns_le xs
    have ht : n ≤ 17 := by omega
    have ks : (2 + (n : Int) * 2) = ((2 + 2 * n : Nat) : Int) := by omega
    have kl : 2 + 2 * n < xs.length := by
      have : n < cnt2 (min xs.length 38) := hlt
      unfold cnt2 at this
      omega
    have kat : atI (xs.map rI) (2 + (n : Int) * 2) = some (rI (cellAt xs (2 + 2 * n))) := by
      rw [ks]
      refine atI_nat ?_
      unfold cellAt
      rw [List.getElem?_map, List.getElem?_eq_getElem kl]
      rfl
    have w := grows_in xs hn n (by omega)
    refine ⟨_, _, [.dat (rQ Γ.K xs), .dat (rL (names.map rS)), .dat (rV (.ref pp)), .dat (rV (.ref pl)), .dat (rI (2 + (n : Int) * 2))], rg_name 4, rfl, qs_ex fun z => qs_one (q1_expr rfl (qe_callQ FG ⟨wk pp pl z (growsW xs names n), names, cellAt xs (2 + 2 * n), cellAt xs (2 + 2 * n + 1)⟩ (w.growOk hn (by omega)) (P1 := pWork (wk pp pl z (growsW xs names n))) (qa_cons rfl (qe_of (rv 2)) (qa_cons rfl (qe_of (rv 3)) (qa_cons rfl (qe_of (rv 1)) (qa_cons rfl (qe_of (re_ixL (i := 2 + (n : Int) * 2) kat (rp_q (ns := xs) (rv 0)) (rv 4))) (qa_cons rfl (qe_of (re_call FC (xs, 2 + 2 * n + 1) trivial (ra_cons (rv 0) (ra_cons (RE.eq (re_add (rv 4) re_int) (congrArg rI (by omega))) ra_nil)))) qa_nil))))) (fun _ _ _ h => h) (fun _ _ _ h => h))), EnvLe.of ⟨.inr rfl, .inr rfl, .inr rfl, .inr rfl, .inl rfl, trivial⟩⟩
  have hm : turnsOf xs ≤ 18 := turns_le xs
  have wi := grows_in xs hn (turnsOf xs) (by omega)
  rw [List.length_range]
  show QS Γ Ll_plans_by ⟨E0, 4⟩ _ [.dat (rQ Γ.K xs), .dat (rL (names.map rS)), .dat (rV (.ref pp)), .dat (rV (.ref pl)), .no] (Pd.ex fun z => pWork (wk pp pl z (growsW xs names (turnsOf xs)))) _
  generalize growsW xs names (turnsOf xs) = x at wi ⊢
  refine qs_ex fun z => ?_
  have sr := shaped_rows x.2.1.rows (fun r hr => (wi.la.it r hr).1)
  have s0 : SeqAt.shaped (rowsD []) = true := shaped_rows [] (fun _ h => by cases h)
  let e2 : List Sl := [.dat (rQ Γ.K xs), .dat (rL (names.map rS)), .dat (rV (.ref pp)), .dat (rV (.ref pl)), .no]
  have v2 : View e2 (pWork (wk pp pl z x)) (e2.set 2 (.dat (rLPs (wk pp pl z x).ps))) := view_set (env := e2) (i := 2) (v := .ref pp) rfl rfl fun H0 B H h hB => work_plans h hB
  have v2b : View e2 (pWork (wk pp pl z x)) (e2.set 2 (.dat (rL (x.1.map rLP ++ [rL [rS x.2.1.name, rV (.ref z.2.1), rV (.ref z.2.2)]])))) := view_set (env := e2) (i := 2) (v := .ref pp) rfl rfl fun H0 B H h hB => by
    have hl := work_last2 h
    obtain ⟨⟨vs, h1, h2⟩, _⟩ := h
    exact ⟨pp, _, rfl, h1.1, (h2.mono hB).append ⟨hl, trivial⟩⟩
  have lastP : atI ((wk pp pl z x).ps.map rLP) (-1) = some (rLP x.2.1) := by
    show atI ((x.1 ++ [x.2.1]).map rLP) (-1) = _
    rw [List.map_append]
    exact atI_end _ _
  have fin : ∀ (y : MPlan) (ls : List Int), QS Γ Ll_plans_by ⟨E0, 4⟩ (List.drop 5 (L2.defBody (top 73))) e2 (pWork ⟨pp, pl, z, x.1, y, ls⟩) (.ret (rLPs (x.1 ++ [y])) Pd.tt) := fun y ls => qs_one (q1_retP (v := .ref pp) (qe_of (rv 2)) fun H0 B H h hB h0 => by
    obtain ⟨B2, g, hc⟩ := work_close H0 B H h hB h0
    exact closed_out hc g)
  by_cases hr : x.2.1.rows = []
  · have ec : closeW x names = x.1 ++ [{ x.2.1 with rows := [(rowBy (wk pp pl z x) names 0 0).1] }] := by
      unfold closeW; rw [if_pos hr]; rfl
    rw [ec]
    refine qs_cons (env1 := e2) (P1 := pWork ⟨pp, pl, z, x.1, { x.2.1 with rows := [(rowBy (wk pp pl z x) names 0 0).1] }, (rowBy (wk pp pl z x) names 0 0).2⟩) (q1_if (k := true) rfl (qt_look v2 (RT.eq (rt_eqD (re_lp2 G (p := x.2.1) (re_ixL (rs := (wk pp pl z x).ps.map rLP) (i := -1) lastP (rp_of (rv 2)) (re_neg re_int))) (rf_lst ra_nil).re rdt_rows (rdt_rows (rows := [])) sr s0) ?_)) (fun _ => ?_) (fun h => by cases h)) (fin _ _)
    · rw [eqv_rows, decide_eq_true hr]
    · refine qs_cons (q1_append (l := z.2.2) (P1 := pWork { wk pp pl z x with loads := (rowBy (wk pp pl z x) names 0 0).2 }) (P2 := pWork ⟨pp, pl, z, x.1, { x.2.1 with rows := [(rowBy (wk pp pl z x) names 0 0).1] }, (rowBy (wk pp pl z x) names 0 0).2⟩) rfl (qe_look v2b (re_ixL (rs := [rS x.2.1.name, rV (.ref z.2.1), rV (.ref z.2.2)]) (i := 2) (atI_nat (n := 2) rfl) (rp_of (re_ixL (rs := x.1.map rLP ++ [rL [rS x.2.1.name, rV (.ref z.2.1), rV (.ref z.2.2)]]) (i := -1) (atI_end _ _) (rp_of (rv 2)) (re_neg re_int))) re_int)) (qe_callQ FR ⟨wk pp pl z x, names, 0, 0⟩ (wi.wkok hn (by omega)) (P1 := pWork (wk pp pl z x)) (qa_cons rfl (qe_of (rv 2)) (qa_cons rfl (qe_of (rv 3)) (qa_cons rfl (qe_of (rv 1)) (qa_cons rfl (qe_of re_int) (qa_cons rfl (qe_of re_int) qa_nil))))) (fun _ _ _ h => h) (fun _ _ _ h => h)) (fun H0 B H v h hv => ?_) (fun H0 B H h => h.2.2.2.1.elim fun wb h => ⟨_, h.1.1⟩)) qs_nil
      obtain ⟨wb, h5, h6⟩ := h.2.2.2.1
      have h6 : Oks B (x.2.1.rows.map rMRow) wb := h6
      have hw : wb = [] := by
        have := h6.length
        rw [hr] at this
        exact List.eq_nil_of_length_eq_zero this
      subst hw
      exact ⟨[], h5, by decide +kernel, work_setrows (rows := [(rowBy (wk pp pl z x) names 0 0).1]) h ⟨hv, trivial⟩⟩
  · have ec : closeW x names = x.1 ++ [x.2.1] := by
      unfold closeW; rw [if_neg hr]
    rw [ec]
    refine qs_cons (env1 := e2) (P1 := pWork (wk pp pl z x)) (q1_if (k := false) rfl (qt_look v2 (RT.eq (rt_eqD (re_lp2 G (p := x.2.1) (re_ixL (rs := (wk pp pl z x).ps.map rLP) (i := -1) lastP (rp_of (rv 2)) (re_neg re_int))) (rf_lst ra_nil).re rdt_rows (rdt_rows (rows := [])) sr s0) ?_)) (fun h => by cases h) (fun _ => qs_nil)) (fin x.2.1 _)
    rw [eqv_rows, decide_eq_false hr]
end
end K60
/-! text RX1 -/
set_option Elab.async false
set_option linter.all false
set_option maxRecDepth 100000
set_option maxHeartbeats 4000000
namespace Rl
open PySem PySem.Spec PyProof.Rows L2
/-! ### a call that may raise, within a try: what is wished may look at the slots -/
def tCallW (sp : Sp) (W : WX) (t : TA) : TE := fun σ H Q => t σ H fun vs H1 => sp vs H1 Q fun cls d H2 => W cls d σ H2
section
variable {Γ : Cg} {L : Lc} {E : Wc} {X : Cx} {W : WX} {env env1 : List Sl} {e : Expr} {es : List Expr} {pos p : Pos}
theorem pe_fnW {j : Nat} {x : Str} {ps : List Str} {sp : Sp} {t : TA} (F : FnX Γ j x ps sp) (hj : j ≤ E.k) (hg : gloB L x = true) (o : Ok Γ L E X) (tk : Takes X W) (ha : PA X (e :: es) t)
    (hs : ∀ en : Env, starEach (e :: es) en = (false, eval e en) :: starEach es en) (hp : ∀ (q : Pos) (en : Env), (backTo q (starEach es en)).any (·.1) = false) : PE X (.Call (.Name x p) (e :: es) [] pos) (tCallW sp W t) := by
  obtain ⟨f, fd, h1, h2, h3, h4⟩ := F.ex
  have F' : FnOk X.prog X.w X.K X.mg X.base (L2.CX X.prog X.w) j f fd ps sp := by rw [o.prog, o.w, o.K, o.mg, o.base]; exact h4
  have hb : Binds X.K fd ps [] := by rw [o.K]; exact h3
  refine ⟨fun pins s0 σ H Q I0 hq => ?_⟩
  refine wpAny_Call_Name_kw (ld_glob I0 (o.gl hg) (by rw [o.mg]; exact h1) ?_ (gloB_ok hg).2.1)
  refine PySem.W.callWith_K (h₀ := X.base) I0.ok.mod.kin (by rw [o.K]; exact h2) (thn (ha.run pos pins s0 σ H _ I0 hq) fun us s1 ⟨vs, H1, J, rv, q⟩ => ⟨J.kIn, ?_⟩) (hs _) (hp _ _)
  have hlen : (us ++ []).length = ps.length := by rw [List.append_nil, ← rv.length]; exact F'.len _ _ _ _ q
  have rv2 : Vals vs (us ++ []) := by rw [List.append_nil]; exact rv
  refine wpAny_call (codeAny_mono (F'.run X.A X.stack s1 H1 ⟨us, []⟩ (us ++ []) vs Q (fun cls d H2 => W cls d σ H2) (o.room.mono hj) J.env0 (hb s1 us J.kIn hlen) rv2 q) fun res s2 hres => ?_)
  rcases res with ex | fl
  · exact tk ex s2 (XE.of_call J (fun cls d H' h => h) hres)
  · cases fl with
    | ret u => exact J.after hres
    | next => exact False.elim hres
    | brk => exact False.elim hres
    | cont => exact False.elim hres
/-- a body's context -/
theorem Ok.tr (o : Ok Γ L E X) (pn : List (Addr × Obj)) (xe : Value → Shared → Prop) (hp : PassesOwn (model X.prog X.w) X.A X.env xe) : Ok Γ L ⟨E0, E.k⟩ (X.tr pn xe) where
  prog := o.prog
  w := o.w
  K := o.K
  mg := o.mg
  base := o.base
  room := o.room
  N := o.N
  nd := o.nd
  sc := o.sc
  calm := o.calm
  fn := o.fn
  own := hp
  takes := fun u s' z => by
    obtain ⟨a, B, sI, pins, σ, H, cls, d, _, _, _, _, _, _, _, _, f⟩ := z
    exact f.elim
  top := o.top
/-! ### handlers that set a name to a constant -/
inductive HR (Γ : Cg) (L : Lc) : List ExceptHandler → List (Addr × Nat × V) → Prop
  | nil : HR Γ L [] []
  | cons {xn n : Str} {C : Addr} {i : Nat} {v : V} {ec : Expr} {np p pos pos' : Pos} {hds : List ExceptHandler} {l : List (Addr × Nat × V)} (hm : Γ.mg xn = some (.ref C)) (hg : gloB L xn = true) (hb : stoB L i n = true) (hv : ∀ X : Cx, PE X ec (tC v))
      (hs : ∀ en : Env, swapsWith ec (some (.Name n p)) pos.line en = pure false) (r : HR Γ L hds l) : HR Γ L (.ExceptHandler (some (.Name xn np)) none [.Assign [.Name n p] ec pos] pos' :: hds) ((C, i, v) :: l)
def hTS (l : List (Addr × Nat × V)) : List (Value × (Addr → Value → Option Addr → TS)) := l.map fun q => (.ref q.1, fun _ _ _ => tAsg (tC q.2.2) (gName q.2.1))
theorem HR.ok {hds : List ExceptHandler} {l : List (Addr × Nat × V)} (h : HR Γ L hds l) (o : Ok Γ L E X) : HdsOk X hds (hTS l) := by
  induction h with
  | nil => exact .nil
  | cons hm hg hb hv hs r ih =>
    obtain ⟨h1, h2, h3⟩ := stoB_ok hb
    refine .cons ⟨o.gl hg, (gloB_ok hg).2.1, .inl (by rw [o.mg]; exact hm)⟩ (fun a oe cls d pn hz hf => ?_) ih
    refine pss_one (ps_set (X := X.suite a ((a, oe) :: pn)) (by show X.N.Nodup; rw [o.N]; exact o.nd) (by show X.N[_]? = _; rw [o.N]; exact h1) (by show Loc X.env.scope _; rw [o.sc]; exact h2) (hv _) (hs _) ?_)
    rcases h3 with h3 | h3
    · exact .inr (by show X.env.scope.names.lookup _ = _; rw [o.sc]; exact h3)
    · exact .inl (o.fn h3 _)
/-- which handler takes it -/
def Picks (K : PySem.W.Frag) (cls : Value) (env env1 : List Sl) : List (Addr × Nat × V) → Prop
  | [] => False
  | (C, i, v) :: l => (PySem.W.exmOne K cls (.ref C) = some true ∧ env1 = env.set i (.dat (rV v))) ∨ (PySem.W.exmOne K cls (.ref C) = some false ∧ Picks K cls env env1 l)
theorem picks_many {H0 B H : Hp} {σ : L2.St} {env env1 : List Sl} {K : PySem.W.Frag} {Wout : WX} {D : Ends} {cls : Value} {d : Option Addr} (s : Sok H0 B H σ env) (hD : ∀ σ', Sok H0 B H σ' env1 → D.nx σ' H) : ∀ (l : List (Addr × Nat × V)), Picks K cls env env1 l → wMany K Wout D (hTS l) cls d σ H
  | [], h => h.elim
  | (C, i, v) :: l, h => by
    rcases h with ⟨h1, h2⟩ | ⟨h1, h2⟩
    · exact ⟨true, h1, (fun _ a _ => hD _ (by rw [h2]; exact s.set rfl)), (fun z => by cases z)⟩
    · exact ⟨false, h1, (fun z => by cases z), fun _ => picks_many s hD l h2⟩
/-- try: x = f(..) / except ..: y = const / .. -/
theorem r1_tryMany {α : Type} {pre : α → Prop} {pf : α → List Rp} {res : α → Res} {j : Nat} {f x : Str} {ps : List Str} {ap cpos p2 : Pos} {hds : List ExceptHandler} {h₀ : ExceptHandler} {l : List (Addr × Nat × V)} (F : FnX Γ j f ps (SpX pre pf res)) (y : α) (hy : pre y)
    (ha : RA Γ L ⟨E0, E.k⟩ (e :: es) env (pf y)) (hl : HR Γ L (h₀ :: hds) l) (i : Nat) (hr : match res y with | .ok r => env1 = env.set i (.dat r) | .err k => Picks Γ.K k.cls env env1 l)
    (hdf : L.df = true := by rfl) (hj : j ≤ E.k := by exact Nat.le_of_ble_eq_true rfl) (hg : gloB L f = true := by decide +kernel) (hb : stoB L i x = true := by decide +kernel)
    (hs : ∀ en : Env, starEach (e :: es) en = (false, eval e en) :: starEach es en := by intro _; rfl) (hp : ∀ (q : Pos) (en : Env), (backTo q (starEach es en)).any (·.1) = false := by intro _ _; rfl)
    (hsw : ∀ en : Env, swapsWith (.Call (.Name f p2) (e :: es) [] cpos) (some (.Name x p)) ap.line en = pure false := by intro _; rfl) :
    R1 Γ L E (.Try [.Assign [.Name x p] (.Call (.Name f p2) (e :: es) [] cpos) ap] (h₀ :: hds) [] [] pos) env (.nx env1) := by
  obtain ⟨t, a1, a2⟩ := ha
  obtain ⟨h1, h2, h3⟩ := stoB_ok hb
  refine ⟨fun D σ H => tAsg (tCallW (SpX pre pf res) (wMany Γ.K (fun cls d _ H => E.xk cls d H) D (hTS l)) t) (gName i) D σ H, fun X o => ?_, fun H0 B0 B H σ D s g q => ?_⟩
  · obtain ⟨t1, t2⟩ := o.top hdf
    have z := ps_try_many (X := X) (body := [.Assign [.Name x p] (.Call (.Name f p2) (e :: es) [] cpos) ap]) (pos := pos) (l := hTS l) (tb := fun W => tAsg (tCallW (SpX pre pf res) W t) (gName i)) (Wout := fun cls d _ H => E.xk cls d H) t1 t2 o.takes (fun W pn xe tk own => ?_) (hl.ok o)
    · rw [o.K] at z; exact z
    · have o2 := o.tr pn xe own
      refine pss_one (ps_set (X := X.tr pn xe) (by rw [o2.N]; exact o2.nd) (by rw [o2.N]; exact h1) (by rw [o2.sc]; exact h2) (pe_fnW (E := ⟨E0, E.k⟩) F hj hg o2 tk (a1 _ o2) hs hp) (hsw _) ?_)
      rcases h3 with h3 | h3
      · exact .inr (by rw [o2.sc]; exact h3)
      · exact .inl (o2.fn h3 _)
  · refine a2 H0 B H σ _ s fun vs B2 H2 g2 k2 => ⟨y, B2, hy, g2.i, k2, ?_⟩
    have s2 := s.grow g2
    cases er : res y with
    | ok r =>
      rw [er] at hr
      have hr : env1 = env.set i (.dat r) := hr
      subst hr
      exact fun v B3 H3 g3 k3 => q _ B3 H3 ((s2.grow g3).set k3) ((g.trans g2).trans g3)
    | err k =>
      rw [er] at hr
      exact fun d B3 H3 g3 k3 => picks_many (s2.grow g3) (fun σ' s' => q σ' B3 H3 s' ((g.trans g2).trans g3)) l hr
end
end Rl
/-! text RX2 -/
set_option Elab.async false
set_option linter.all false
set_option maxRecDepth 100000
set_option maxHeartbeats 4000000
namespace Rl
open PySem PySem.Spec PyProof.Rows L2
/-! ### an error kept behind its suite -/
def exO (a : Addr) (cls : Value) : HO := .ext fun h => ∃ oe, h.get? a = some oe ∧ oe.cls = cls ∧ ∃ vs, oe.data = .fields vs
section
variable {X : Cx} {pins : List (Addr × Obj)} {σ : L2.St} {H : Hp} {s : Shared}
theorem inv_track (I : Inv X pins σ H s) {a : Addr} {oe : Obj} {vs : Array Value} {cls : Value} (ha : s.heap.get? a = some oe) (hc : oe.cls = cls) (hd : oe.data = .fields vs) (na : H a = none) (nL : a ≠ X.env.locals)
    (new : ∀ o, X.s_0.heap.get? a = some o → a ∈ X.ex) (np : ∀ p ∈ X.pn ++ pins, p.1 ≠ a) : Inv X pins σ (upd H a (exO a cls)) s where
  ok := I.ok
  os := I.os
  bare := I.bare
  base := ⟨I.base.keep, I.base.slot, fun b o e n hx => by
      rw [upd_ne (fun z => hx (by rw [z] at e ⊢; exact new o e))]
      exact I.base.free b o e n hx, I.base.there, fun b xs e => by
      have q := I.base.tups b xs e
      rw [upd_ne (ne_of_none q na)]; exact q, fun b o u e => by
      have q := I.base.frzs b o u e
      rw [upd_ne (ne_of_none q na)]; exact q, fun b qs e => by
      obtain ⟨m, q⟩ := I.base.tbls b qs e
      exact ⟨m, by rw [upd_ne (ne_of_none q na)]; exact q⟩⟩
  loc := I.loc
  cell := I.cell
  free := by rw [upd_ne (Ne.symm nL)]; exact I.free
  freeC := fun x c e => by
    rw [upd_ne fun z => ?_]
    · exact I.freeC x c e
    · obtain ⟨v, o, h1, h2⟩ := I.cell x c e
      rw [z, ha] at h1
      cases h1
      rw [hd] at h2
      cases h2
  pin := fun p hp => by
    obtain ⟨h1, h2, h3, h4, h5⟩ := I.pin p hp
    exact ⟨h1, by rw [upd_ne (np p hp)]; exact h2, h3, h4, h5⟩
  hok := fun b ob e => by
    by_cases hb : b = a
    · subst hb
      rw [upd_same] at e
      cases e
      exact ⟨⟨oe, ha, hc, vs, hd⟩, ⟨oe, ha⟩, fun g1 g2 ⟨o, z1, z2⟩ k => ⟨o, k o z1, z2⟩⟩
    · rw [upd_ne hb] at e
      exact (I.hok b ob e).stay (fun _ _ _ q => q) (fun c q => by rw [upd_ne (ne_of_none q na)]; exact q) fun c xs q => by rw [upd_ne (ne_of_none q na)]; exact q
  len := I.len
end
/-- behind the suite: its name is gone, the error is kept -/
def endX (i : Nat) (a : Addr) (cls : Value) (D : Ends) : Ends := { nx := fun τ G => D.nx (τ.set i none) (upd G a (exO a cls)), rt := fun _ _ => False, bk := fun _ _ => False, ct := fun _ _ => False }
def wX (K : PySem.W.Frag) (c : Value) (i : Nat) (ts : Addr → Value → Option Addr → TS) (D : Ends) : WX := fun cls d σ H =>
  PySem.W.exmOne K cls c = some true ∧ ∀ a, H a = none → ts a cls d (endX i a cls D) (σ.set i (some (.ref a))) H
section
variable {X : Cx} {x n : Str} {c : Value} {i : Nat} {body suite : List Stmt} {b0 : Stmt} {np pos pos' : Pos} {tb : WX → TS} {ts : Addr → Value → Option Addr → TS}
theorem ps_tryX (hst : X.stack = X.env :: X.outer) (hfm : X.env.frame = some X.env.locals) (hnd : X.N.Nodup) (hix : X.N[i]? = some n) (hlc : X.env.kindOf n = some .local) (hnm : Names X x c)
    (hbody : ∀ (W : WX) (pn : List (Addr × Obj)) (xe : Value → Shared → Prop), Takes (X.tr pn xe) W → PassesOwn (model X.prog X.w) X.A X.env xe → PSs (X.tr pn xe) body (tb W))
    (hsuite : ∀ (a : Addr) (oe : Obj) (cls : Value) (d : Option Addr) (pn : List (Addr × Obj)), Zc cls d oe → (∃ vs, oe.data = .fields vs) → PSs (X.suite a ((a, oe) :: pn)) (b0 :: suite) (ts a cls d)) :
    PS X (.Try body [.ExceptHandler (some (.Name x np)) (some n) (b0 :: suite) pos'] [] [] pos) (fun D σ H => tb (wX X.K c i ts D) D σ H) := by
  refine ⟨fun pins s σ H D I h0 => wpAny_Try_except ?_⟩
  have okX := I.ok
  have fr : X.A.frames = some (X.env :: X.outer) := by rw [okX.frames, hst]
  have B1 := hbody (wX X.K c i ts D) (X.pn ++ pins) (fun e s1 => wpAny (model X.prog X.w) X.A (noteFrame e X.env) (fun _ s2 => wpAny (model X.prog X.w) X.A (setFlight e none) (fun _ s3 => wpAny (model X.prog X.w) X.A (handleBy e X.env [.ExceptHandler (some (.Name x np)) (some n) (b0 :: suite) pos']) (SP X pins D) X.xe s3) X.xe s2) X.xe s1)
    (fun u s1 xx => ?caught) PassesOwn.looking
  case caught =>
    obtain ⟨a, B, sI, pins1, σ1, H1, cls, d, rfl, J1, nb, up, sky, na, os, ag, hm, hgo⟩ := xx
    have J := J1.ofTry okX
    rw [show (X.tr (X.pn ++ pins) _).stack = X.env :: X.outer from hst] at sky
    refine Sky.land Zc.steady fr hfm sky fun g fl upg => ?_
    have J2 := J.landed (s' := { s1 with heap := g }) nb fl.1 (up.trans upg) os ag
    obtain ⟨oe, vs, he, hz, hd⟩ := fl.there
    have a1 : a ∉ frs (X.env :: X.outer) := fun hin => by
      obtain ⟨_, o2, e2, nf2⟩ := Heap.FunFrames.mem fl.2.2.1 hin
      rw [he] at e2
      cases e2
      exact nf2 _ hd
    have a2 : a ≠ X.env.locals := fun z => a1 (List.mem_filterMap.mpr ⟨X.env, .head _, by rw [hfm, z]⟩)
    have a3 : a ∉ X.fs := fun hin => a1 (by
      obtain ⟨en, h1, h2⟩ := List.mem_filterMap.mp hin
      exact List.mem_filterMap.mpr ⟨en, .tail _ h1, h2⟩)
    have a4 : a ∉ frs X.stack := by rw [hst]; exact a1
    have fresh : ∀ o, X.s_0.heap.get? a = some o → a ∈ X.ex := fun o e => Classical.byContradiction fun hx => by
      obtain ⟨o2, e2⟩ := J.base.there a o e hx
      have := nb a o2 e2 a4
      rw [fl.2.1] at this
      cases this
    have apart : ∀ p ∈ X.pn ++ pins, p.1 ≠ a := fun p hp z => by
      obtain ⟨q1, q2, q3, q4, q5⟩ := J.pin p hp
      rw [z] at q1
      have := nb a p.2 q1 a4
      rw [fl.2.1] at this
      cases this
    have S := J2.suite he hd na a2 a3
    refine wpAny_handleBy_cons (codeAny_handlers_test ?_) (fun z => nomatch z)
    have look : PySem.W.Looks (model X.prog X.w) g (typeOf (.ref a)) cls := fun A Q E t k q => wpAny_typeOf_ref (k _ _ he) (by rw [hz.1]; exact q)
    have yes := PySem.W.exm_one (M := model X.prog X.w) J2.kIn look hm
    have named : ∀ {Q : Value → Shared → Prop} {E : Value → Shared → Prop}, Q c { s1 with heap := g } → wpAny (model X.prog X.w) (X.A.mark (some (.ref a))) (eval (.Name x np) X.env) Q E { s1 with heap := g } := fun {Q E} q => by
      obtain ⟨n1, n2, n3 | ⟨n3, n4, n5⟩⟩ := hnm
      · exact ld_glob (X := X.suite a ((a, oe) :: (X.pn ++ pins))) S n1 n3 q n2
      · exact ld_blt (X := X.suite a ((a, oe) :: (X.pn ++ pins))) S n1 n3 n4 q n5 n2
    refine named (yes.here (codeAny_handlers_suite_as ?_))
    refine HandSPX.lands_againZ fl fun g2 fl2 up2 => ?_
    have J3 := J.landed (s' := { s1 with heap := g2 }) nb fl2.1 ((up.trans upg).trans up2) os ag
    obtain ⟨oe2, vs2, he2, hz2, hd2⟩ := fl2.there
    have S2 := J3.suite he2 hd2 na a2 a3
    refine store_ok (X := X.suite a ((a, oe2) :: (X.pn ++ pins))) (v := .ref a) S2 hnd hix (.inl hlc) rfl (fun s5 S5 => ?_) (.inr hlc)
    refine wpAny_mono ((hsuite a oe2 cls d (X.pn ++ pins) hz2 ⟨_, hd2⟩).run [] s5 _ H1 _ S5 (hgo a na)) (fun f s6 q6 => ?_) (fun _ _ z => z.elim)
    cases f with
    | next =>
      obtain ⟨σ6, H6, S6, q⟩ := q6
      refine gone_ok (X := X.suite a ((a, oe2) :: (X.pn ++ pins))) S6 hnd hix hlc fun s7 S7 => ?_
      obtain ⟨r1, r2, r3, r4, r5⟩ := S7.pin (a, oe2) (List.mem_append.mpr (.inl (.head _)))
      exact ⟨_, _, inv_track (S7.unsuite okX) r1 hz2.1 hd2 r2 a2 fresh apart, q⟩
    | brk => obtain ⟨_, _, _, q⟩ := q6; exact q.elim
    | cont => obtain ⟨_, _, _, q⟩ := q6; exact q.elim
    | ret u => obtain ⟨_, _, _, _, _, q⟩ := q6; exact q.elim
  refine wpAny_mono (B1.run [] s σ H D (I.toTry _) h0) (fun f s1 q1 => ?_) (fun e s1 z => z)
  cases f with
  | next =>
    obtain ⟨τ, G, J, q⟩ := q1
    exact wpAny_execs_nil ⟨τ, G, J.ofTry okX, q⟩
  | brk =>
    obtain ⟨τ, G, J, q⟩ := q1
    exact ⟨τ, G, J.ofTry okX, q⟩
  | cont =>
    obtain ⟨τ, G, J, q⟩ := q1
    exact ⟨τ, G, J.ofTry okX, q⟩
  | ret u =>
    obtain ⟨v, τ, G, J, rv, q⟩ := q1
    exact ⟨v, τ, G, J.ofTry okX, rv, q⟩
end
end Rl
/-! text RX3 -/
set_option Elab.async false
set_option linter.all false
set_option maxRecDepth 100000
set_option maxHeartbeats 4000000
namespace PySem.ExK
open PySem PySem.W PySem.Spec PySem.Calls PyProof.Rows Builtin Builtin.ObjectAttr Builtin.Getset_descriptor
/-- an error's object, whether it has a dict or not -/
def ErrAt (h : Heap) (x D : Addr) : Prop := ∃ oe, h.get? x = some oe ∧ oe.cls = .ref D ∧ ∃ vs, oe.data = .fields vs
section
variable {prog : Program} {w : World} {A : Around} {E : Value → Shared → Prop} {s : Shared} {K : Frag} {x D : Addr}
theorem ErrAt.ty {M : Model} {h : Heap} (I : ErrAt h x D) : Looks M h (typeOf (.ref x)) (.ref D) := by
  obtain ⟨oe, h1, h2, _⟩ := I
  exact fun A Q E s k q => wpAny_typeOf_ref (k _ _ h1) (by rw [h2]; exact q)
theorem err_find {M : Model} {h : Heap} {name : Str} {at_ g : Value} (X : K.In h) (ha : findIn K (.ref D) name = some (some at_)) (hg : specialIn K at_ "__get__" = some (some g)) (ht : takesIn K at_ = some true) : Looks M h (find (.ref x) (.ref D) name) (.bind g at_) := by
  have l2 : Looks M h (getOf (some at_)) (some g) := looks_specialIn X hg
  have l3 : Looks M h (dataDescriptor? (some at_) (some g)) (some (g, at_)) := (looks_takesIn (M := M) X ht).andThen .now
  exact (looks_findIn (M := M) X ha).andThen (l2.andThen (l3.andThen (Looks.tag .now)))
theorem err_class {R : Result → Shared → Prop} {tp : Value} (X : K.In s.heap) (I : ErrAt s.heap x D) (hm : mroIn K D (.type "object") = some true) (q : R (.ok (.ret (.ref D))) s) :
    codeAny (model prog w) A (.call (.builtin "getset_descriptor.__get__") ⟨[.builtin "object.__class__", .ref x, tp], []⟩) R s := by
  obtain ⟨h1, h2, h3, h4, h5⟩ := s
  have T0 := I.ty (M := model prog w)
  have T1 := looks_mroIn (M := model prog w) X hm
  refine codeAny_call_builtin KF.slot_gs.plain KF.entry_gs
    (KF.slot_gs.check _ _ _ _ _ _ _ _ KF.type_class (KF.args_gs _ _ _) ?_)
  unfold Builtin.«getset_descriptor.__get__»
  unfold descrGet
  rw [dga_obj]
  apply wpAny_bind
  apply wpAny_pure
  unfold descrGetter descrCheckInstance
  unfold descrNameAndClass isInstance
  simp only [KF.owner_class]
  repeat lk
  refine ⟨Code.quiet_builtin _ (by decide +kernel), ?_⟩
  refine codeAny_builtin KF.entry_class ?_
  unfold Builtin.«object.__class__»
  unfold shownTypeOf
  repeat lk
  exact q
theorem err_getc {Q : Option Value → Shared → Prop} (C : L2.ExcC K D) (X : K.In s.heap) (I : ErrAt s.heap x D) (q : Q (some (.ref D)) { s with toks := s.toks + 1 }) : wpAny (model prog w) A (getAttr? (.ref x) "__class__") Q E s := by
  obtain ⟨e1, e2, e3, e4, e5⟩ := s
  have T0 := I.ty (M := model prog w)
  have T1 := looks_findIn (M := model prog w) X C.hg
  have T2 := looks_findIn (M := model prog w) X C.hk
  have T3 := err_find (M := model prog w) (x := x) X C.ha C.hn C.ht
  have T4 : Looks (model prog w) e1 (isInstance (.ref x) (.type "BaseException")) true := T0.andThen (looks_subIn X C.hs)
  have n0 : (false && onTheHeap (Value.builtin "BaseException.__getattribute__")) = false := rfl
  have n2 : (Value.builtin "BaseException.__getattribute__" == Value.builtin "object.__getattribute__") = false := by decide +kernel
  have n1 : (onTheHeap (Value.ref D) && Value.builtin "BaseException.__getattribute__" == Value.builtin "object.__getattribute__") = false := by rw [n2]; rfl
  unfold getAttr?
  unfold getAttrBy? getAttrBy
  apply wpAny_bind
  apply wpAny_mkText
  refine wpAny_bind (wpAny_attempt (wpAny_holding (wpAny_bind (T0.at (wpAny_bind (T1.at ?_))))))
  show wpAny _ _ (if (onTheHeap (Value.ref D) && Value.builtin "BaseException.__getattribute__" == Value.builtin "object.__getattribute__") = true then _ else _) _ _ _
  rw [n1]
  rw [if_neg Bool.false_ne_true]
  unfold getAttrByItsOwn
  unfold hookBefore
  apply wpAny_bind
  rw [if_pos (show onTheHeap (Value.ref D) = true from rfl)]
  apply T2.at
  apply wpAny_bind
  apply wpAny_attempt
  apply wpAny_holding
  unfold callGetattribute
  rw [n0]
  rw [if_neg Bool.false_ne_true]
  unfold boundAndCalled
  rw [PySem.F.excAttr_ValueError.ga.bind (.ref x)]
  apply wpAny_bind
  apply wpAny_pure
  show wpAny _ _ (call (.builtin "BaseException.__getattribute__") [.ref x, .str "__class__" e4]) _ _ _
  apply wpAny_call
  apply codeAny_call_builtin PySem.F.excAttr_ValueError.ga.plain PySem.F.entry_bexc_ga
  refine @check_slot (model prog w) _ _ ⟨e1, e2, e3, e4 + 1, e5⟩ "BaseException.__getattribute__" "BaseException" "__getattribute__" (.ref x) [.str "__class__" e4] [] _ (by decide +kernel) (by decide +kernel) T4 (PySem.F.args_bexc_ga (.ref x) (.str "__class__" e4)) ?_
  unfold Builtin.«object.__getattribute__»
  refine wpAny_bind (wpAny_of_eq (a := ((Value.ref x : Value), [Value.str "__class__" e4])) (by first | rfl | (simp only [slotArgs]; rfl)) ?_)
  apply wpAny_bind
  apply wpAny_pure
  refine wpAny_bind (T0.at (wpAny_bind (T3.at ?_)))
  show wpAny _ _ (holding [Value.builtin "object.__class__"] (call (.builtin "getset_descriptor.__get__") [.builtin "object.__class__", .ref x, .ref D]) >>= ret) _ _ _
  refine wpAny_bind (wpAny_holding (wpAny_call (err_class (s := ⟨e1, e2, e3, e4 + 1, e5⟩) X I C.hm ?_)))
  apply wpAny_pure
  show wpAny _ _ (handedOut (.ref D)) _ _ _
  rw [handedOut_of (v := .ref D) rfl]
  first
    | exact wpAny_pure (wpAny_pure q)
    | exact wpAny_pure q
    | exact wpAny_pure (wpAny_bind (wpAny_pure (wpAny_pure q)))
theorem err_kit (C : L2.ExcC K D) : KitX K (.ref x) (.ref D) (fun h => ErrAt h x D) where
  ty := fun _ _ _ I => I.ty
  it := fun _ _ X _ => by
    obtain ⟨cd, hcd, _⟩ := any_some C.hd
    unfold clsIn at hcd
    split at hcd
    · rename_i c1 d1 cd1 sl1 ho
      intro A1 Q1 E1 s1 k q
      unfold isType
      unfold loadHead
      exact wpAny_bind (wpAny_loadPart (k _ _ (X _ _ ho)) (wpAny_pure q))
    · cases hcd
  ne := fun h tp dd its n sl X htp => by
    obtain ⟨cd, hcd, _⟩ := any_some C.hd
    refine Bool.eq_false_iff.mpr fun q => ?_
    have e : D = tp := Value.ref.inj (beq_iff_eq.mp q)
    subst e
    unfold clsIn at hcd
    split at hcd
    · rename_i c1 d1 cd1 sl1 ho
      have z := (X _ _ ho).symm.trans htp
      cases z
    · cases hcd
  ca := fun X I q => err_getc C X I q
end
end PySem.ExK
/-! text RX4 -/
set_option Elab.async false
set_option linter.all false
set_option maxRecDepth 100000
set_option maxHeartbeats 4000000
namespace Rl
open PySem PySem.Spec PyProof.Rows L2
/-- an error of the class D, kept -/
def rEx (cls : Value) : Rp := ⟨fun H v => ∃ a, v = .ref a ∧ H a = some (exO a cls), fun e ⟨a, h1, h2⟩ => ⟨a, h1, e _ _ h2⟩⟩
theorem Sok.gone {H0 B H : Hp} {σ : L2.St} {env : List Sl} (s : Sok H0 B H σ env) {i : Nat} {w : Option V} : Sok H0 B H (σ.set i w) (env.set i .no) := by
  refine ⟨s.ex, s.e0, by rw [List.length_set, List.length_set]; exact s.len, fun j x e => ?_, fun a b p ha hb => ?_⟩
  · by_cases hj : i = j
    · subst hj
      have hl : i < env.length := by
        have := (List.getElem?_eq_some_iff.mp e).1
        rwa [List.length_set] at this
      rw [List.getElem?_set_self hl] at e
      cases e
      cases (σ.set i w)[i]?.join <;> trivial
    · rw [List.getElem?_set_ne hj] at e ⊢
      exact s.sl j x e
  · have key : ∀ c, AccAt (σ.set i w) (env.set i .no) c p → AccAt σ env c p := fun c ⟨⟨x, hx, hxa⟩, hc⟩ => by
      by_cases hj : i = c
      · subst hj
        have hl : i < env.length := by
          have := (List.getElem?_eq_some_iff.mp hx).1
          rwa [List.length_set] at this
        rw [List.getElem?_set_self hl] at hx
        cases hx
        cases hxa
      · rw [List.getElem?_set_ne hj] at hx hc
        exact ⟨⟨x, hx, hxa⟩, hc⟩
    exact s.ap a b p (key a ha) (key b hb)
section
variable {Γ : Cg} {L : Lc} {E : Wc} {X : Cx} {env env1 : List Sl} {e a c : Expr} {es : List Expr} {pos p : Pos} {r : Rp}
/-- try: f(..) / except x as n: y = n -/
theorem r1_tryAs {α : Type} {pre : α → Prop} {pf : α → List Rp} {res : α → Res} {j : Nat} {f x n y : Str} {ps : List Str} {ap cpos p2 np pos' q1 q2 q3 : Pos} {Cx : Addr} {k : XC} (F : FnX Γ j f ps (SpX pre pf res)) (z : α) (hz : pre z)
    (ha : RA Γ L ⟨E0, E.k⟩ (e :: es) env (pf z)) (i i2 : Nat) (hr : res z = .err k) (hm : Γ.mg x = some (.ref Cx)) (hk : PySem.W.exmOne Γ.K k.cls (.ref Cx) = some true) (hne : i < env.length)
    (hlc : L.sc.names.lookup n = some .local := by rfl) (hdf : L.df = true := by rfl) (hj : j ≤ E.k := by exact Nat.le_of_ble_eq_true rfl) (hg : gloB L f = true := by decide +kernel) (hgx : gloB L x = true := by decide +kernel)
    (hv : varB L i n = true := by decide +kernel) (hb2 : stoB L i2 y = true := by decide +kernel)
    (hs : ∀ en : Env, starEach (e :: es) en = (false, eval e en) :: starEach es en := by intro _; rfl) (hp : ∀ (q : Pos) (en : Env), (backTo q (starEach es en)).any (·.1) = false := by intro _ _; rfl)
    (hsw : ∀ en : Env, swapsWith (.Call (.Name f p2) (e :: es) [] cpos) none ap.line en = pure false := by intro _; rfl) (hsw2 : ∀ en : Env, swapsWith (.Name n q1) (some (.Name y q2)) q3.line en = pure false := by intro _; rfl) :
    R1 Γ L E (.Try [.Expr (.Call (.Name f p2) (e :: es) [] cpos) ap] [.ExceptHandler (some (.Name x np)) (some n) [.Assign [.Name y q2] (.Name n q1) q3] pos'] [] [] pos) env (.nx (((env.set i (.dat (rEx k.cls))).set i2 (.dat (rEx k.cls))).set i .no)) := by
  obtain ⟨t, a1, a2⟩ := ha
  obtain ⟨v1, v2, v3, v4⟩ := varB_ok hv
  obtain ⟨h1, h2, h3⟩ := stoB_ok hb2
  refine ⟨fun D σ H => tDrop (tCallW (SpX pre pf res) (wX Γ.K (.ref Cx) i (fun _ _ _ => tAsg (tVar i) (gName i2)) D) t) D σ H, fun X o => ?_, fun H0 B0 B H σ D s g q => ?_⟩
  · obtain ⟨t1, t2⟩ := o.top hdf
    have w := ps_tryX (X := X) (x := x) (n := n) (c := .ref Cx) (i := i) (body := [.Expr (.Call (.Name f p2) (e :: es) [] cpos) ap]) (suite := []) (b0 := .Assign [.Name y q2] (.Name n q1) q3) (np := np) (pos := pos) (pos' := pos') (tb := fun W => tDrop (tCallW (SpX pre pf res) W t)) (ts := fun _ _ _ => tAsg (tVar i) (gName i2)) t1 t2 (by rw [o.N]; exact o.nd) (by rw [o.N]; exact v1) (by
      show X.env.scope.names.lookup n = _
      rw [o.sc]; exact hlc) ⟨o.gl hgx, (gloB_ok hgx).2.1, .inl (by rw [o.mg]; exact hm)⟩ (fun W pn xe tk own => ?_) (fun a oe cls d pn hz hf => ?_)
    · rw [o.K] at w; exact w
    · have o2 := o.tr pn xe own
      exact pss_one (ps_expr (pe_fnW (E := ⟨E0, E.k⟩) F hj hg o2 tk (a1 _ o2) hs hp) (hsw _))
    · refine pss_one (ps_set (X := X.suite a ((a, oe) :: pn)) (by show X.N.Nodup; rw [o.N]; exact o.nd) (by show X.N[_]? = _; rw [o.N]; exact h1) (by show Loc X.env.scope _; rw [o.sc]; exact h2) (pe_var (by show X.N[_]? = _; rw [o.N]; exact v1) (by show Vis X.env.scope _; rw [o.sc]; exact v2) v3 v4) (hsw2 _) ?_)
      rcases h3 with h3 | h3
      · exact .inr (by show X.env.scope.names.lookup _ = _; rw [o.sc]; exact h3)
      · exact .inl (o.fn h3 _)
  · refine a2 H0 B H σ _ s fun vs B2 H2 g2 k2 => ⟨z, B2, hz, g2.i, k2, ?_⟩
    have s2 := s.grow g2
    rw [hr]
    refine fun d B3 H3 g3 k3 => ⟨hk, fun a na => ?_⟩
    have s3 := s2.grow g3
    have gn : Grow B3 H3 (upd B3 a (exO a k.cls)) (upd H3 a (exO a k.cls)) := Grow.new g3.i na _
    have s4 := s3.grow gn
    have hx : (rEx k.cls).ok (upd B3 a (exO a k.cls)) (.ref a) := ⟨a, rfl, upd_same⟩
    have s5 := ((s4.set (i := i) hx).set (i := i2) hx).gone (i := i) (w := none)
    have hl : i < σ.length := by rw [s.len]; exact hne
    exact ⟨.ref a, List.getElem?_set_self hl, q _ _ _ s5 (((g.trans g2).trans g3).trans gn)⟩
/-! ### isinstance -/
def rIsX (K : PySem.W.Frag) : List V → Hp → VK → Prop := fun xs H Q => ∃ (a D : Addr) (c : V) (u : Value) (b : Bool), xs = [.ref a, c] ∧ H a = some (exO a (.ref D)) ∧ ExcC K D ∧ ClsV c u ∧ PySem.W.kitOne K (.ref D) u = some b ∧ Q (.bl b) H
def rIsXT (K : PySem.W.Frag) : List V → Hp → VK → Prop := fun xs H Q => ∃ (a D tp : Addr) (cs : List V) (us : List Value) (b : Bool), xs = [.ref a, .ref tp] ∧ H tp = some (.tup cs) ∧ Paired ClsV cs us ∧ H a = some (exO a (.ref D)) ∧ ExcC K D ∧ PySem.W.kitAny K (.ref D) us = some b ∧ Q (.bl b) H
theorem call_isX : CallR X (.builtin "isinstance") (rIsX X.K) := by
  intro pins s σ H xs us Q I rv h
  obtain ⟨a, D, c, u, b, rfl, ha, C, hc, hk, q⟩ := h
  obtain ⟨u1, u2, rfl, r1, r2⟩ := vals2 rv
  have e2 := hc.eq r2
  subst e2
  cases (show u1 = Value.ref a from r1)
  have hx : PySem.ExK.ErrAt s.heap a D := (I.hok a _ ha).1
  exact PySem.W.kia_one (PySem.ExK.err_kit C) I.kIn hx hk (fun z => nomatch z) fun tk => ⟨.bl b, H, I.tok tk, rfl, q⟩
theorem call_isXT : CallR X (.builtin "isinstance") (rIsXT X.K) := by
  intro pins s σ H xs us Q I rv h
  obtain ⟨a, D, tp, cs, ws, b, rfl, hT, hc, ha, C, hk, q⟩ := h
  obtain ⟨u1, u2, rfl, r1, r2⟩ := vals2 rv
  cases (show u1 = Value.ref a from r1)
  cases (show u2 = Value.ref tp from r2)
  have hx : PySem.ExK.ErrAt s.heap a D := (I.hok a _ ha).1
  obtain ⟨_, its, rw, o, g1, g2, m, g3⟩ := (show ObjOk X.prog X.w H s.heap tp (.tup cs) from I.hok tp _ hT)
  have e3 := ClsV.all hc rw
  subst e3
  obtain ⟨oc, od, dt, sl⟩ := o
  simp only at g2 g3
  subst g2 g3
  exact PySem.W.kia_tup (PySem.ExK.err_kit C) I.kIn hx g1 hk (fun z => nomatch z) fun tk => ⟨.bl b, H, I.tok tk, rfl, q⟩
end
end Rl
/-! text RX5 -/
set_option Elab.async false
set_option linter.all false
set_option maxRecDepth 100000
set_option maxHeartbeats 4000000
namespace Rl
open PySem PySem.Spec PyProof.Rows L2
section
variable {Γ : Cg} {L : Lc} {E : Wc} {env env1 : List Sl} {a c : Expr} {pos p : Pos} {r ra rc : Rp} {b : Bool} {D : Addr} {cv : V} {t u : Value}
theorem re_isA {rr : List V → Hp → VK → Prop} (hC : ∀ X : Cx, Ok Γ L E X → CallR X (.builtin "isinstance") rr) (hm : Γ.mg "isinstance" = none) (h1 : RE Γ L E a env ra) (h2 : RE Γ L E c env rc)
    (hk : ∀ (B H : Hp) (vs : List V) (Q : VK), Same B H → Oks B [ra, rc] vs → Q (.bl b) H → rr vs H Q) (hg : gloB L "isinstance" = true)
    (hs : ∀ en : Env, starEach [a, c] en = (false, eval a en) :: starEach [c] en) (hs2 : ∀ en : Env, starEach [c] en = (false, eval c en) :: starEach [] en) (hp : ∀ (q : Pos) (en : Env), (backTo q (starEach [c] en)).any (·.1) = false) : RE Γ L E (.Call (.Name "isinstance" p) [a, c] [] pos) env (rB b) := by
  obtain ⟨t, t1, t2⟩ := ra_cons (es := [c]) h1 (ra_cons (es := []) h2 ra_nil hs2) hs
  exact ⟨tCB rr t, fun X o => pe_callB (hC X o) (o.gl hg) (by rw [o.mg]; exact hm) boot_isinstance (t1 X o) (by decide) (by decide) (hs _) (hp _ _), fun H0 B H σ Q s q => t2 H0 B H σ _ s fun vs B2 H2 g k => hk B2 H2 vs _ g.i k (q _ B2 H2 g rfl)⟩
/-- isinstance(a, c), a plain value -/
theorem re_isD (hm : Γ.mg "isinstance" = none) (h1 : RE Γ L E a env r) (h2 : RE Γ L E c env (rV cv)) (hty : ∀ H v, r.ok H v → TyX Γ.K H v t) (hc : ClsV cv u) (hk : PySem.W.kitOne Γ.K t u = some b) (hg : gloB L "isinstance" = true := by decide +kernel)
    (hs : ∀ en : Env, starEach [a, c] en = (false, eval a en) :: starEach [c] en := by intro _; rfl) (hs2 : ∀ en : Env, starEach [c] en = (false, eval c en) :: starEach [] en := by intro _; rfl) (hp : ∀ (q : Pos) (en : Env), (backTo q (starEach [c] en)).any (·.1) = false := by intro _ _; rfl) : RE Γ L E (.Call (.Name "isinstance" p) [a, c] [] pos) env (rB b) :=
  re_isA (rr := rIsi Γ.K) (fun X o => by have z := call_isi (X := X); rw [o.K] at z; exact z) hm h1 h2 (fun B H vs Q e k q => by
    obtain ⟨v, w, rfl, k1, k2⟩ := k.two
    have k2 : w = cv := k2
    subst k2
    exact ⟨v, w, t, u, b, rfl, hc, hty H v (r.mono e k1), hk, q⟩) hg hs hs2 hp
/-- .. an error -/
theorem re_isX (C : ExcC Γ.K D) (hm : Γ.mg "isinstance" = none) (h1 : RE Γ L E a env (rEx (.ref D))) (h2 : RE Γ L E c env (rV cv)) (hc : ClsV cv u) (hk : PySem.W.kitOne Γ.K (.ref D) u = some b) (hg : gloB L "isinstance" = true := by decide +kernel)
    (hs : ∀ en : Env, starEach [a, c] en = (false, eval a en) :: starEach [c] en := by intro _; rfl) (hs2 : ∀ en : Env, starEach [c] en = (false, eval c en) :: starEach [] en := by intro _; rfl) (hp : ∀ (q : Pos) (en : Env), (backTo q (starEach [c] en)).any (·.1) = false := by intro _ _; rfl) : RE Γ L E (.Call (.Name "isinstance" p) [a, c] [] pos) env (rB b) :=
  re_isA (rr := rIsX Γ.K) (fun X o => by have z := call_isX (X := X); rw [o.K] at z; exact z) hm h1 h2 (fun B H vs Q e k q => by
    obtain ⟨v, w, rfl, k1, k2⟩ := k.two
    have k2 : w = cv := k2
    subst k2
    obtain ⟨x, rfl, hx⟩ := (rEx (.ref D)).mono e k1
    exact ⟨x, D, w, u, b, rfl, hx, C, hc, hk, q⟩) hg hs hs2 hp
/-- .. of one of some classes -/
theorem re_isXT {cs : List V} {us : List Value} (C : ExcC Γ.K D) (hm : Γ.mg "isinstance" = none) (h1 : RE Γ L E a env (rEx (.ref D))) (h2 : RE Γ L E c env (rT (cs.map rV))) (hc : Paired ClsV cs us) (hk : PySem.W.kitAny Γ.K (.ref D) us = some b) (hg : gloB L "isinstance" = true := by decide +kernel)
    (hs : ∀ en : Env, starEach [a, c] en = (false, eval a en) :: starEach [c] en := by intro _; rfl) (hs2 : ∀ en : Env, starEach [c] en = (false, eval c en) :: starEach [] en := by intro _; rfl) (hp : ∀ (q : Pos) (en : Env), (backTo q (starEach [c] en)).any (·.1) = false := by intro _ _; rfl) : RE Γ L E (.Call (.Name "isinstance" p) [a, c] [] pos) env (rB b) :=
  re_isA (rr := rIsXT Γ.K) (fun X o => by have z := call_isXT (X := X); rw [o.K] at z; exact z) hm h1 h2 (fun B H vs Q e k q => by
    obtain ⟨v, w, rfl, k1, k2⟩ := k.two
    obtain ⟨x, rfl, hx⟩ := (rEx (.ref D)).mono e k1
    obtain ⟨tp, ws, rfl, ht, ho⟩ := (rT (cs.map rV)).mono e k2
    have : ws = cs := by
      have := Oks.eqs (f := rV) (g := fun v : V => v) (fun _ _ q => q) ho
      rwa [List.map_id'] at this
    subst this
    exact ⟨x, D, tp, ws, us, b, rfl, ht, hc, hx, C, hk, q⟩) hg hs hs2 hp
end
theorem ty_int {K : PySem.W.Frag} {i : Int} {H : Hp} {v : V} (h : (rI i).ok H v) : TyX K H v (.type "int") := by
  have h : v = .int i := h
  subst h
  exact .base (.int i)
theorem ty_list {K : PySem.W.Frag} {rs : List Rp} {H : Hp} {v : V} (h : (rL rs).ok H v) : TyX K H v (.type "list") := by
  obtain ⟨p, vs, rfl, h2, _⟩ := h
  exact .base (.lst h2)
theorem ty_tup {K : PySem.W.Frag} {rs : List Rp} {H : Hp} {v : V} (h : (rT rs).ok H v) : TyX K H v (.type "tuple") := by
  obtain ⟨p, vs, rfl, h2, _⟩ := h
  exact .base (.tup h2)
end Rl
/-! text W28 -/
set_option Elab.async false
set_option linter.all false
set_option maxRecDepth 100000
set_option maxHeartbeats 4000000
namespace K60
open PySem PyProof.Rows Rl
open PySem.Spec hiding Row
open L2 (E0 XK Hp V atI ixN inClass defScope upd upd_same upd_ne HO Same)
/-! ### the law's judgement of an answer -/
abbrev P_whole (Γ : Cg) : Prop := Fn0 Γ 1 "_law_whole" ["found"] (Sp0 (fun _ : Int => True) (fun i => [rI i]) fun _ => rB true)
/-- one comes so much earlier or later -/
structure PIn where
  ps : List MPlan
  at_ : Nat
  to_ : Nat
  hours : List Int
  sign : Int
def partedI (x : PIn) : Bool := decide ((runN x.ps DEEP x.at_ x.hours - runN x.ps DEEP x.to_ x.hours) * x.sign > 0)
structure PartedPre (x : PIn) : Prop where
  a : RunPre x.ps DEEP x.at_ x.hours
  t : RunPre x.ps DEEP x.to_ x.hours
  few : x.hours.length ≤ 1000
  sg : x.sign = 1 ∨ x.sign = -1
abbrev P_lparted (Γ : Cg) : Prop := Fn0 Γ 13 "_law_parted" ["plans", "at", "to", "hours", "sign"] (Sp0 PartedPre (fun x => [rLPs x.ps, rI x.at_, rI x.to_, rL (x.hours.map rI), rI x.sign]) fun x => rB (partedI x))
structure RIn2 where
  xs : List Int
  ps : List MPlan
  at_ : Nat
  to_ : Nat
  o0 : Option (List Int)
  o1 : Option (List Int)
def goodPart (x : RIn2) (o : Option (List Int)) (sign : Int) : Prop := match o with
  | some hs => hs.length = givAt x.ps x.at_ ∧ partedI ⟨x.ps, x.at_, x.to_, hs, sign⟩ = true
  | none => ∀ turn : Nat, turn < 9 → partedI ⟨x.ps, x.at_, x.to_, hoursOf x.xs (givAt x.ps x.at_) turn, sign⟩ = false
structure RightPre (x : RIn2) : Prop where
  good : BookGood x.ps
  few : x.ps.length ≤ 1000
  a : x.at_ < DEEP ∧ x.at_ < x.ps.length
  t : x.to_ < DEEP ∧ x.to_ < x.ps.length
  same : givAt x.ps x.at_ = givAt x.ps x.to_
  p0 : goodPart x x.o0 (-1)
  p1 : goodPart x x.o1 1
abbrev P_right (Γ : Cg) : Prop := Fn0 Γ 14 "_law_right" ["script", "plans", "at", "to", "pair"] (Sp0 RightPre (fun x => [rQ Γ.K x.xs, rLPs x.ps, rI x.at_, rI x.to_, rT [rOH x.o0, rOH x.o1]]) fun _ => rB true)
theorem all_true : ∀ (n : Nat), (List.replicate n true).all id = true
  | 0 => rfl
  | n + 1 => by rw [List.replicate_succ, List.all_cons, all_true n]; rfl
section
variable {Γ : Cg} {C : Cls} (G : Gk Γ C)
include G
theorem w_whole (D : DfAt Γ "_law_whole" 66 ["found"]) : P_whole Γ := by
  refine def0 0 Ll_whole D Sl_whole rfl rfl (fun _ => rfl) fun i _ => ⟨.ret (rB true), rfl, ?_⟩
  exact rs_one (r1_ret (RE.eq (re_and (k := true) (l := true) (re_isD (b := true) (r := rI i) (t := .type "int") (G.bi _ (by decide)) (rv 0) (re_bltn (x := "int") (v := .ty "int") (u := .type "int") (G.bi _ (by decide)) (by decide +kernel) rfl) (fun H v => ty_int) (.ty "int") (L2.kit_ty (by decide +kernel))) fun _ => re_one (re_not (k := false) (re_isD (b := false) (r := rI i) (t := .type "int") (G.bi _ (by decide)) (rv 0) (re_bltn (x := "bool") (v := .ty "bool") (u := .type "bool") (G.bi _ (by decide)) (by decide +kernel) rfl) (fun H v => ty_int) (.ty "bool") (L2.kit_ty (by decide +kernel))))) rfl))
theorem re_givs {L E env e e2 pos p2 j p3} {ps : List MPlan} {k : Nat} (hk : k < ps.length) (a : RE Γ L E e env (rLPs ps)) (b : RE Γ L E e2 env (rI (k : Int))) (c : L2.PlainIx e2) : RE Γ L E (.Subscript (.Subscript e e2 pos) (.Constant (.int 1) j p2) p3) env (rL (((ps[k]?.map fun p => p.givens).getD []).map rS)) := by
  have hx : ps[k]? = some ps[k] := List.getElem?_eq_getElem hk
  refine RE.eq (re_lp1 G (p := ps[k]) (re_ixL (rs := ps.map rLP) (i := k) (atI_nat (by rw [List.getElem?_map, hx]; rfl)) (rp_of a) b c)) ?_
  rw [hx]; rfl
theorem givs_len (ps : List MPlan) (k : Nat) : ((((ps[k]?.map fun p => p.givens).getD []).map rS).length : Int) = (givAt ps k : Int) := by
  unfold givAt
  rw [List.length_map]
  cases ps[k]? <;> rfl
theorem w_lparted (FW : P_whole Γ) (FR : P_run Γ DEEP) (D : DfAt Γ "_law_parted" 85 ["plans", "at", "to", "hours", "sign"]) : P_lparted Γ := by
  refine def0 12 Ll_parted D Sl_parted rfl rfl (fun _ => rfl) fun ⟨ps, i, j, hs, sign⟩ hp => ⟨.ret (rB (partedI ⟨ps, i, j, hs, sign⟩)), rfl, ?_⟩
  have pa : RunPre ps DEEP i hs := hp.a
  have pt : RunPre ps DEEP j hs := hp.t
  have few : hs.length ≤ 1000 := hp.few
  have sg : sign = 1 ∨ sign = -1 := hp.sg
  obtain ⟨p, hpi, hl⟩ := pa.at_
  have hi : i < ps.length := (List.getElem?_eq_some_iff.mp hpi).1
  have hg : givAt ps i = hs.length := by unfold givAt; rw [hpi]; exact hl.symm
  refine rs_cons (r1_if (k := false) (RT.eq (rw_or (k := false) (l := false) (rt_not (k := true) (rt_val (re_isD (b := true) (r := rL (hs.map rI)) (t := .type "list") (G.bi _ (by decide)) (rv 3) (re_bltn (x := "list") (v := .ty "list") (u := .type "list") (G.bi _ (by decide)) (by decide +kernel) rfl) (fun H v => ty_list) (.ty "list") (L2.kit_ty (by decide +kernel))))) fun _ => rw_or1 (RT.eq (rt_neI (i := (hs.length : Int)) (j := (hs.length : Int)) (RE.eq (re_len (G.bi _ (by decide)) (rp_of (rs := hs.map rI) (rv 3))) (by rw [List.length_map])) (RE.eq (re_len (G.bi _ (by decide)) (rp_of (re_givs G hi (rv 0) (rv 1) (by intro _ _; rfl)))) (by rw [givs_len G, hg]))) (by simp))).pt rfl) (fun h => by cases h) fun _ => rs_nil) ?_
  refine rs_cons (r1_if (k := false) (rt_not (k := true) (rt_val (RE.eq (re_all (bs := List.replicate hs.length true) (G.bi _ (by decide)) (rp_of (RE.eq (rf_lc (h := fun _ => rB true) [("hour", 5)] (ri_list (xs := hs) (f := rI) (rv 3)) (fun x hx => rg_name 5) (fun x hx => re_call FW x trivial (ra_cons (rv 5) ra_nil)) (small few)).re (by rw [List.map_replicate, List.map_const'])))) (by rw [all_true])))) (fun h => by cases h) fun _ => rs_nil) ?_
  refine rs_one (r1_ret (re_gt (re_mul ?_ (re_sub (re_call FR (ps, i, hs) pa (ra_cons (rv 0) (ra_cons (rv 1) (ra_cons (rv 3) ra_nil)))) (re_call FR (ps, j, hs) pt (ra_cons (rv 0) (ra_cons (rv 2) (ra_cons (rv 3) ra_nil))))) (rv 4)) re_int))
  refine .inr ?_
  show -(2 ^ 64) < sign ∧ sign < 2 ^ 64
  rcases sg with e | e <;> rw [e] <;> decide
theorem w_right (FP : P_lparted Γ) (FH : P_lhours Γ) (D : DfAt Γ "_law_right" 86 ["script", "plans", "at", "to", "pair"]) : P_right Γ := by
  refine def0 13 Ll_right D Sl_right rfl rfl (fun _ => rfl) fun ⟨xs, ps, i, j, o0, o1⟩ hp => ⟨.ret (rB true), rfl, ?_⟩
  have good : BookGood ps := hp.good
  have few : ps.length ≤ 1000 := hp.few
  obtain ⟨a1, a2⟩ : i < DEEP ∧ i < ps.length := hp.a
  obtain ⟨t1, t2⟩ : j < DEEP ∧ j < ps.length := hp.t
  have same : givAt ps i = givAt ps j := hp.same
  have gi : givAt ps i = ps[i].givens.length := by unfold givAt; rw [List.getElem?_eq_getElem a2]; rfl
  have gj : givAt ps j = ps[j].givens.length := by unfold givAt; rw [List.getElem?_eq_getElem t2]; rfl
  have g12 : givAt ps i ≤ 12 := by rw [gi]; exact (good.plan i _ (List.getElem?_eq_getElem a2)).g2
  have pre : ∀ (hs : List Int) (sign : Int), hs.length = givAt ps i → (sign = 1 ∨ sign = -1) → PartedPre ⟨ps, i, j, hs, sign⟩ := fun hs sign hl sg => ⟨⟨good, few, a1, ps[i], List.getElem?_eq_getElem a2, by show hs.length = _; rw [hl, gi]⟩, ⟨good, few, t1, ps[j], List.getElem?_eq_getElem t2, by show hs.length = _; rw [hl, same, gj]⟩, by show hs.length ≤ 1000; omega, sg⟩
  have hol : ∀ turn, (hoursOf xs (givAt ps i) turn).length = givAt ps i := fun turn => by unfold hoursOf; rw [List.length_map, List.length_range]
  let e0 : List Sl := [.dat (rQ Γ.K xs), .dat (rLPs ps), .dat (rI i), .dat (rI j), .dat (rT [rOH o0, rOH o1]), .no, .no, .no, .no]
  refine rs_cons (env1 := e0) (r1_if (k := false) (RT.eq (rw_or (k := false) (l := false) (rt_not (k := true) (rt_val (re_isD (b := true) (r := rT [rOH o0, rOH o1]) (t := .type "tuple") (G.bi _ (by decide)) (rv 4) (re_bltn (x := "tuple") (v := .ty "tuple") (u := .type "tuple") (G.bi _ (by decide)) (by decide +kernel) rfl) (fun H v => ty_tup) (.ty "tuple") (L2.kit_ty (by decide +kernel))))) fun _ => rw_or1 (RT.eq (rt_neI (i := 2) (j := 2) (RE.eq (re_lenT (rs := [rOH o0, rOH o1]) (G.bi _ (by decide)) (rv 4)) rfl) re_int) rfl)).pt rfl) (fun h => by cases h) fun _ => rs_nil) ?_
  refine rs_cons (env1 := e0) (r1_upto (xs := List.range 2) (fun _ => e0) rfl (ri_range (n := 2) (by decide) (G.bi _ (by decide)) re_int) fun n k hk => ?_) (rs_one (r1_ret re_bl))
  obtain ⟨hn, rfl⟩ := range_at hk
  obtain ⟨o, sign, hat, hs, sg, hgood⟩ : ∃ (o : Option (List Int)) (sign : Int), atI [rOH o0, rOH o1] (k : Int) = some (rOH o) ∧ 2 * (k : Int) - 1 = sign ∧ (sign = 1 ∨ sign = -1) ∧ goodPart ⟨xs, ps, i, j, o0, o1⟩ o sign := by
    have : k = 0 ∨ k = 1 := by omega
    rcases this with rfl | rfl
    · exact ⟨o0, -1, rfl, rfl, .inr rfl, hp.p0⟩
    · exact ⟨o1, 1, rfl, rfl, .inl rfl, hp.p1⟩
  let e1 : List Sl := [.dat (rQ Γ.K xs), .dat (rLPs ps), .dat (rI i), .dat (rI j), .dat (rT [rOH o0, rOH o1]), .dat (rI k), .dat (rI sign), .no, .no]
  refine .nx (rg_name 5) (rs_cons (env1 := e1) (r1_set 6 (RE.eq (re_sub (re_mul (.inl ⟨by decide, by decide⟩) re_int (rv 5)) re_int) (congrArg rI hs))) (rs_cons (env1 := e1) (r1_if (k := false) ?_ (fun h => by cases h) fun _ => rs_nil) (rs_one (r1_if (k := o.isNone) (rt_isN o.isNone (re_ixT (i := (k : Int)) hat (rv 4) (rv 5)) ?_) (fun h => ?_) fun h => rs_nil)))) ⟨.inr rfl, .inr rfl, .inr rfl, .inr rfl, .inr rfl, .inl rfl, .inl rfl, .inl rfl, .inl rfl, trivial⟩
  · cases o with
    | none => exact RT.eq (rw_and (k := false) (l := false) (rt_notN false (re_ixT (i := (k : Int)) hat (rv 4) (rv 5)) (.inl ⟨rfl, rfl⟩)) (fun h => by cases h)).pt rfl
    | some hs =>
      obtain ⟨q1, q2⟩ := hgood
      refine RT.eq (rw_and (k := true) (l := false) (rt_notN true (re_ixT (i := (k : Int)) hat (rv 4) (rv 5)) (.inr ⟨rfl, notN_L⟩)) fun _ => rw_and1 (rt_not (k := true) (rt_val (RE.eq (re_call FP ⟨ps, i, j, hs, sign⟩ (pre hs sign q1 sg) (ra_cons (rv 1) (ra_cons (rv 2) (ra_cons (rv 3) (ra_cons (re_ixT (i := (k : Int)) hat (rv 4) (rv 5)) (ra_cons (rv 6) ra_nil)))))) (congrArg rB q2))))).pt rfl
  · cases o with
    | none => exact .inl ⟨rfl, rfl⟩
    | some hs => exact .inr ⟨rfl, notN_L⟩
  · have ho : o = none := by cases o with
      | none => rfl
      | some hs => cases h
    subst ho
    refine rs_one (r1_upto (xs := List.range 9) (fun _ => e1) rfl (ri_range (n := 9) (by decide) (G.bi _ (by decide)) re_int) fun n t ht => ?_)
    have ht9 : t < 9 := by
      have := List.mem_range.mp (List.mem_of_getElem? ht)
      exact this
    have hpf : partedI ⟨ps, i, j, hoursOf xs (givAt ps i) t, sign⟩ = false := hgood t ht9
    let e2 : List Sl := [.dat (rQ Γ.K xs), .dat (rLPs ps), .dat (rI i), .dat (rI j), .dat (rT [rOH o0, rOH o1]), .dat (rI k), .dat (rI sign), .dat (rI t), .dat (rHours (hoursOf xs (givAt ps i) t))]
    refine .nx (rg_name 7) (rs_cons (env1 := e2) (r1_set 8 (re_call FH (xs, givAt ps i, t) ⟨by show givAt ps i ≤ 1000; omega, by show t ≤ 1000; omega⟩ (ra_cons (rv 0) (ra_cons (RE.eq (re_len (G.bi _ (by decide)) (rp_of (re_givs G a2 (rv 1) (rv 2) (by intro _ _; rfl)))) (by rw [givs_len G])) (ra_cons (rv 7) ra_nil))))) (rs_one (r1_if (k := false) (rt_val (RE.eq (re_call FP ⟨ps, i, j, hoursOf xs (givAt ps i) t, sign⟩ (pre _ sign (hol t) sg) (ra_cons (rv 1) (ra_cons (rv 2) (ra_cons (rv 3) (ra_cons (rv 8) (ra_cons (rv 6) ra_nil)))))) (congrArg rB hpf))) (fun h => by cases h) fun _ => rs_nil))) ⟨.inr rfl, .inr rfl, .inr rfl, .inr rfl, .inr rfl, .inr rfl, .inr rfl, .inl rfl, .inl rfl, trivial⟩
end
end K60
/-! text W29 -/
set_option Elab.async false
set_option linter.all false
set_option maxRecDepth 100000
set_option maxHeartbeats 4000000
namespace K60
open PySem PyProof.Rows Rl
open PySem.Spec hiding Row
open L2 (E0 XK Hp V atI ixN inClass defScope upd upd_same upd_ne HO Same)
open PySem.W (exmOne kitOne kitAny)
/-- more that is given of the module: the errors' classes -/
structure Gx (Γ : Cg) (C : Cls) (AE : Addr) : Prop where
  ae : Γ.mg "AllError" = some (.ref AE)
  br : Γ.mg "BadRow" = some (.ref C.BR)
  nn : Γ.mg "NoName" = some (.ref C.NN)
  xc : ∀ D ∈ [C.BN, C.BQ, C.NN, C.UL], L2.ExcC Γ.K D
  up : ∀ D ∈ [C.BN, C.BQ, C.NN, C.UL], exmOne Γ.K (.ref D) (.ref AE) = some true
  own : ∀ D ∈ [C.NP, C.UL, C.TM], exmOne Γ.K (.ref D) (.ref D) = some true
  un : exmOne Γ.K (.ref C.UL) (.ref C.NP) = some false
  tn : exmOne Γ.K (.ref C.TM) (.ref C.NP) = some false
  tu : exmOne Γ.K (.ref C.TM) (.ref C.UL) = some false
  bn : ∀ D ∈ [C.BQ, C.NN, C.NP], kitOne Γ.K (.ref C.BN) (.ref D) = some false
  bq : ∀ D ∈ [C.BN, C.NN, C.NP], kitOne Γ.K (.ref C.BQ) (.ref D) = some false
  nm : ∀ D ∈ [C.BN, C.BQ, C.NP], kitOne Γ.K (.ref C.NN) (.ref D) = some false
  ul : ∀ D ∈ [C.BN, C.BQ, C.BP, C.BR, C.NN, C.NP, C.TL, C.TM], kitOne Γ.K (.ref C.UL) (.ref D) = some false
  ua : kitOne Γ.K (.ref C.UL) (.ref AE) = some true
  uv : kitOne Γ.K (.ref C.UL) (.type "ValueError") = some true
theorem kit_self {K : PySem.W.Frag} {D : Addr} : kitOne K (.ref D) (.ref D) = some true := by
  unfold PySem.W.kitOne
  rw [if_pos (beq_self_eq_true _)]
theorem kit_offs {K : PySem.W.Frag} {t : Value} : ∀ {us : List Value}, (∀ u ∈ us, kitOne K t u = some false) → kitAny K t us = some false
  | [], _ => rfl
  | u :: us, h => L2.kitAny_cons (h u (.head _)) (fun _ => kit_offs fun v hv => h v (.tail _ hv)) fun z => by cases z
/-- which error, by its number -/
def errOf (C : Cls) : Nat → Addr
  | 0 => C.BN
  | 1 => C.BQ
  | _ => C.NN
abbrev P_class (Γ : Cg) (C : Cls) : Prop := Fn0 Γ 1 "_law_class_right" ["error", "which"] (Sp0 (fun w : Nat => w < 3) (fun w => [rEx (.ref (errOf C w)), rI w]) fun _ => rB true)
abbrev P_alone (Γ : Cg) (C : Cls) : Prop := Fn0 Γ 1 "_law_unlike_alone" ["error"] (Sp0 (fun _ : Unit => True) (fun _ => [rEx (.ref C.UL)]) fun _ => rB true)
def boolsD (bs : List Bool) : PyData := .list (bs.map .bool)
theorem rdt_bools {K : PySem.W.Frag} {bs : List Bool} : RDt K (rL (bs.map rB)) (boolsD bs) := rdt_L fun _ => rdt_bl
section
variable {Γ : Cg} {C : Cls} (G : Gk Γ C) {AE : Addr} (X : Gx Γ C AE)
include G X
theorem w_class (D : DfAt Γ "_law_class_right" 81 ["error", "which"]) : P_class Γ C := by
  refine def0 0 Ll_class_right D Sl_class_right rfl rfl (fun _ => rfl) fun w hw => ⟨.ret (rB true), rfl, ?_⟩
  have hw : w < 3 := hw
  obtain ⟨b0, b1, b2, k0, k1, k2, k3, hx, hb⟩ : ∃ b0 b1 b2 : Bool, kitOne Γ.K (.ref (errOf C w)) (.ref C.BN) = some b0 ∧ kitOne Γ.K (.ref (errOf C w)) (.ref C.BQ) = some b1 ∧ kitOne Γ.K (.ref (errOf C w)) (.ref C.NN) = some b2 ∧ kitOne Γ.K (.ref (errOf C w)) (.ref C.NP) = some false ∧ L2.ExcC Γ.K (errOf C w) ∧
      PyData.eqv (boolsD [b0, b1, b2, false]) (boolsD ((List.range 4).map fun (k : Nat) => decide ((k : Int) = w))) = true := by
    have : w = 0 ∨ w = 1 ∨ w = 2 := by omega
    rcases this with rfl | rfl | rfl
    · exact ⟨true, false, false, kit_self, X.bn _ (by simp), X.bn _ (by simp), X.bn _ (by simp), X.xc _ (by simp [errOf]), by decide +kernel⟩
    · exact ⟨false, true, false, X.bq _ (by simp), kit_self, X.bq _ (by simp), X.bq _ (by simp), X.xc _ (by simp [errOf]), by decide +kernel⟩
    · exact ⟨false, false, true, X.nm _ (by simp), X.nm _ (by simp), kit_self, X.nm _ (by simp), X.xc _ (by simp [errOf]), by decide +kernel⟩
  have nm : Γ.mg "isinstance" = none := G.bi _ (by decide)
  refine rs_cons (r1_own 2 (rs := [rB b0, rB b1, rB b2]) (rf_lst (ra_cons (re_isX hx nm (rv 0) (re_glob (v := .ref C.BN) G.bn.at_ rfl) (.own _) k0) (ra_cons (re_isX hx nm (rv 0) (re_glob (v := .ref C.BQ) G.bq.at_ rfl) (.own _) k1) (ra_cons (re_isX hx nm (rv 0) (re_glob (v := .ref C.NN) X.nn rfl) (.own _) k2) ra_nil))))) ?_
  refine rs_cons (r1_append (rs := [rB b0, rB b1, rB b2]) 2 (re_isX hx nm (rv 0) (re_glob (v := .ref C.NP) G.np.at_ rfl) (.own _) k3) (show 3 < 16777216 by decide)) ?_
  refine RS.freeze 2 (rs := [b0, b1, b2, false].map rB) rfl ?_
  refine rs_one (r1_ret (RE.eq (re_eqD (rv 2) (rf_lc (f := fun (k : Nat) => rI (k : Int)) (h := fun (k : Nat) => rB (decide ((k : Int) = w))) [("k", 3)] (ri_range (n := 4) (by decide) (G.bi _ (by decide)) re_int) (fun k hk => rg_name 3) (fun k hk => re_eqI (rv 3) (rv 1)) (by decide +kernel)).re (rdt_bools (bs := [b0, b1, b2, false])) (rdt_bools (bs := (List.range 4).map fun (k : Nat) => decide ((k : Int) = w))) ?_ ?_) (congrArg rB hb)))
  · rfl
  · rfl
theorem w_alone (D : DfAt Γ "_law_unlike_alone" 83 ["error"]) : P_alone Γ C := by
  refine def0 0 Ll_unlike_alone D Sl_unlike_alone rfl rfl (fun _ => rfl) fun _ _ => ⟨.ret (rB true), rfl, ?_⟩
  have nm : Γ.mg "isinstance" = none := G.bi _ (by decide)
  have hx := X.xc C.UL (by simp)
  have pr : ∀ (l : List Addr), Paired L2.ClsV (l.map V.ref) (l.map Value.ref) := fun l => by
    induction l with
    | nil => exact .nil
    | cons a l ih => exact .cons (.own a) ih
  refine rs_cons (r1_if (k := false) (rt_val (re_isXT (cs := [C.BN, C.BQ, C.BP, C.BR, C.NN].map V.ref) hx nm (rv 0) (re_tup (ra_cons (re_glob (v := .ref C.BN) G.bn.at_ rfl) (ra_cons (re_glob (v := .ref C.BQ) G.bq.at_ rfl) (ra_cons (re_glob (v := .ref C.BP) G.bp.at_ rfl) (ra_cons (re_glob (v := .ref C.BR) X.br rfl) (ra_cons (re_glob (v := .ref C.NN) X.nn rfl) ra_nil)))))) (pr _) (kit_offs fun u hu => ?_))) (fun h => by cases h) fun _ => rs_nil) ?_
  · obtain ⟨a, ha, rfl⟩ := List.mem_map.mp hu
    refine X.ul a ?_
    simp only [List.mem_cons, List.not_mem_nil, or_false] at ha ⊢
    rcases ha with h | h | h | h | h <;> simp [h]
  refine rs_cons (r1_if (k := false) (rt_val (re_isXT (cs := [C.NP, C.TL, C.TM].map V.ref) hx nm (rv 0) (re_tup (ra_cons (re_glob (v := .ref C.NP) G.np.at_ rfl) (ra_cons (re_glob (v := .ref C.TL) G.tl.at_ rfl) (ra_cons (re_glob (v := .ref C.TM) G.tm.at_ rfl) ra_nil)))) (pr _) (kit_offs fun u hu => ?_))) (fun h => by cases h) fun _ => rs_nil) ?_
  · obtain ⟨a, ha, rfl⟩ := List.mem_map.mp hu
    refine X.ul a ?_
    simp only [List.mem_cons, List.not_mem_nil, or_false] at ha ⊢
    rcases ha with h | h | h <;> simp [h]
  exact rs_one (r1_ret (re_and (k := true) (l := true) (re_isX hx nm (rv 0) (re_glob (v := .ref C.UL) G.ul.at_ rfl) (.own _) kit_self) fun _ => re_and (k := true) (l := true) (re_isX hx nm (rv 0) (re_glob (v := .ref AE) X.ae rfl) (.own _) X.ua) fun _ => re_one (re_isX hx nm (rv 0) (re_bltn (x := "ValueError") (v := .ty "ValueError") (u := .type "ValueError") (G.bi _ (by decide)) (by decide +kernel) rfl) (.ty "ValueError") X.uv)))
end
end K60
/-! text W30 -/
set_option Elab.async false
set_option linter.all false
set_option maxRecDepth 100000
set_option maxHeartbeats 4000000
namespace K60
open PySem PyProof.Rows Rl
open PySem.Spec hiding Row
open L2 (E0 XK Hp V atI ixN inClass defScope upd upd_same upd_ne HO Same)
open PySem.W (exmOne kitOne kitAny)
/-! ### what is asked of the text -/
/-- a text that is read -/
structure ReadOk (recs : List NRec) (b : MBook) : Prop where
  bp : BookPre recs
  eb : bookTo recs = some b
  nm : namesOk (b.map (·.name)) = true
  pt : partsOkB b = true
structure FIn where
  recs : List NRec
  b : MBook
  name : Str
  most : Int
def rOF : Option Form → Rp
  | none => rN
  | some f => rForm f
abbrev P_lform (Γ : Cg) : Prop := Fn0 Γ 42 "_law_form" ["text", "name", "most"] (Sp0 (fun x : FIn => ReadOk x.recs x.b ∧ 1 ≤ x.most ∧ x.most ≤ 8 ∧ ∃ p, planBy x.b x.name = some p) (fun x => [rS (bookText x.recs), rS x.name, rI x.most]) fun x => rOF (toldI x.b x.most x.name))
structure TIn where
  recs : List NRec
  b : MBook
  one : Str
  other : Str
  most : Int
/-- the word, and what is told -/
def wordBook (b : MBook) (one other : Str) (most : Int) : Str × Option (Form × Form × Nat) := match planBy b one with
  | none => ("plan", none)
  | some p => match planBy b other with
    | none => ("plan", none)
    | some q => if q.givens.length = p.givens.length then (match toldI b most one with
        | none => ("many", none)
        | some mine => match toldI b most other with
          | none => ("many", none)
          | some theirs => ("", some (mine, theirs, p.givens.length)))
      else ("unlike", none)
def rFo : Option (Form × Form × Nat) → Rp
  | none => rN
  | some x => rPair x.1 x.2.1 x.2.2
def rTold (x : Str × Option (Form × Form × Nat)) : Rp := rT [rS x.1, rFo x.2]
abbrev P_ltold (Γ : Cg) : Prop := Fn0 Γ 42 "_law_told" ["text", "one", "other", "most"] (Sp0 (fun x : TIn => ReadOk x.recs x.b ∧ 1 ≤ x.most ∧ x.most ≤ 8) (fun x => [rS (bookText x.recs), rS x.one, rS x.other, rI x.most]) fun x => rTold (wordBook x.b x.one x.other x.most))
abbrev P_caught (Γ : Cg) (C : Cls) : Prop := Fn0 Γ 42 "_law_caught" ["text", "one", "other", "most"] (Sp0 (fun x : JIn × Addr => (BookPre x.1.recs ∧ x.1.most ≤ 8 ∧ 1 ≤ x.1.most) ∧ (∃ k, judgeI C x.1 = .err k ∧ k.cls = .ref x.2) ∧ x.2 ∈ [C.BN, C.BQ, C.NN, C.UL]) (fun x => [rS (bookText x.1.recs), rS x.1.one, rS x.1.other, rI x.1.most]) fun x => rEx (.ref x.2))
section
variable {Γ : Cg} {C : Cls} (G : Gk Γ C) {AE : Addr} (X : Gx Γ C AE)
include G X
theorem w_lform (FR : P_read Γ C) (FT : P_told Γ C DEEP) (D : DfAt Γ "_law_form" 78 ["text", "name", "most"]) : P_lform Γ := by
  refine def0 41 Ll_form D Sl_form rfl rfl (fun _ => rfl) fun ⟨recs, b, name, most⟩ ⟨hr, h1, h8, p, hp⟩ => ⟨.ret (rOF (toldI b most name)), rfl, ?_⟩
  have h1 : 1 ≤ most := h1
  have h8 : most ≤ 8 := h8
  have hr : ReadOk recs b := hr
  have hp : planBy b name = some p := hp
  obtain ⟨bg, bl⟩ := hr.bp.good b hr.eb hr.nm hr.pt
  obtain ⟨dp, _⟩ := planBy_deep bl hp
  have er : readRes C recs = .ok (rBook C b) := by unfold readRes; rw [hr.eb]; dsimp only; rw [hr.nm, hr.pt]; rfl
  refine rs_cons (env1 := [.dat (rS (bookText recs)), .dat (rS name), .dat (rI most), .dat rN]) (r1_set 3 re_non) ?_
  refine rs_cons (env1 := [.dat (rS (bookText recs)), .dat (rS name), .dat (rI most), .dat (rOF (toldI b most name))]) (r1_tryMany (l := [(C.TM, 3, .non)]) FT (b, name, most) ⟨bg, dp, h8, h1⟩ (ra_cons (re_callX FR recs hr.bp.rd er (ra_cons (rv 0) ra_nil)) (ra_cons (rv 1) (ra_cons (rv 2) ra_nil))) (.cons G.tm.at_ (by decide +kernel) (by decide +kernel) (fun X => L2.pe_non) (fun _ => rfl) .nil) 3 ?_) (rs_one (r1_ret (rv 3)))
  show match resF C (toldI b most name) with | .ok r => _ | .err k => _
  cases toldI b most name with
  | none => exact .inl ⟨X.own _ (by simp), rfl⟩
  | some f => rfl
theorem w_ltold (FJ : P_judged Γ C) (D : DfAt Γ "_law_told" 79 ["text", "one", "other", "most"]) : P_ltold Γ := by
  refine def0 41 Ll_told D Sl_told rfl rfl (fun _ => rfl) fun ⟨recs, b, one, other, most⟩ ⟨hr, h1, h8⟩ => ⟨.ret (rTold (wordBook b one other most)), rfl, ?_⟩
  have h1 : 1 ≤ most := h1
  have h8 : most ≤ 8 := h8
  have hr : ReadOk recs b := hr
  have ej : judgeI C ⟨recs, one, other, most⟩ = judgeBook C b one other most := by unfold judgeI; dsimp only; rw [hr.eb]; dsimp only; rw [hr.nm, hr.pt]; rfl
  refine rs_cons (env1 := [.dat (rS (bookText recs)), .dat (rS one), .dat (rS other), .dat (rI most), .dat rN, .no]) (r1_set 4 re_non) ?_
  refine rs_cons (env1 := [.dat (rS (bookText recs)), .dat (rS one), .dat (rS other), .dat (rI most), .dat rN, .dat (rS "")]) (r1_set 5 re_str) ?_
  refine rs_cons (env1 := [.dat (rS (bookText recs)), .dat (rS one), .dat (rS other), .dat (rI most), .dat (rFo (wordBook b one other most).2), .dat (rS (wordBook b one other most).1)]) (r1_tryMany (l := [(C.NP, 5, .str "plan"), (C.UL, 5, .str "unlike"), (C.TM, 5, .str "many")]) FJ ⟨recs, one, other, most⟩ ⟨hr.bp, h8, h1⟩ (ra_cons (rv 0) (ra_cons (rv 1) (ra_cons (rv 2) (ra_cons (rv 3) ra_nil)))) (.cons G.np.at_ (by decide +kernel) (by decide +kernel) (fun X => L2.pe_str) (fun _ => rfl) (.cons G.ul.at_ (by decide +kernel) (by decide +kernel) (fun X => L2.pe_str) (fun _ => rfl) (.cons G.tm.at_ (by decide +kernel) (by decide +kernel) (fun X => L2.pe_str) (fun _ => rfl) .nil))) 4 ?_) (rs_one (r1_ret (re_tup (ra_cons (rv 5) (ra_cons (rv 4) ra_nil)))))
  show match (judgeI C ⟨recs, one, other, most⟩).res with | .ok r => _ | .err k => _
  rw [ej]
  have np : exmOne Γ.K (.ref C.NP) (.ref C.NP) = some true := X.own _ (by simp)
  have ul : exmOne Γ.K (.ref C.UL) (.ref C.UL) = some true := X.own _ (by simp)
  have tm : exmOne Γ.K (.ref C.TM) (.ref C.TM) = some true := X.own _ (by simp)
  unfold judgeBook wordBook
  cases planBy b one with
  | none => exact .inl ⟨np, rfl⟩
  | some p =>
    cases planBy b other with
    | none => exact .inl ⟨np, rfl⟩
    | some q =>
      by_cases hl : q.givens.length = p.givens.length
      · simp only [if_pos hl]
        cases toldI b most one with
        | none => exact .inr ⟨X.tn, .inr ⟨X.tu, .inl ⟨tm, rfl⟩⟩⟩
        | some mine =>
          cases toldI b most other with
          | none => exact .inr ⟨X.tn, .inr ⟨X.tu, .inl ⟨tm, rfl⟩⟩⟩
          | some theirs => rfl
      · simp only [if_neg hl]
        exact .inr ⟨X.un, .inl ⟨ul, rfl⟩⟩
theorem w_caught (FJ : P_judged Γ C) (D : DfAt Γ "_law_caught" 82 ["text", "one", "other", "most"]) : P_caught Γ C := by
  refine def0 41 Ll_caught D Sl_caught rfl rfl (fun _ => rfl) fun ⟨⟨recs, one, other, most⟩, d⟩ ⟨hp, ⟨k, hk, hc⟩, hd⟩ => ⟨.ret (rEx (.ref d)), rfl, ?_⟩
  have hk : judgeI C ⟨recs, one, other, most⟩ = .err k := hk
  have hc : k.cls = .ref d := hc
  have hd : d ∈ [C.BN, C.BQ, C.NN, C.UL] := hd
  refine rs_cons (env1 := [.dat (rS (bookText recs)), .dat (rS one), .dat (rS other), .dat (rI most), .dat rN, .no]) (r1_set 4 re_non) ?_
  refine rs_cons (r1_tryAs (k := k) (Cx := AE) FJ ⟨recs, one, other, most⟩ hp (ra_cons (rv 0) (ra_cons (rv 1) (ra_cons (rv 2) (ra_cons (rv 3) ra_nil)))) 5 4 (by show (judgeI C ⟨recs, one, other, most⟩).res = _; rw [hk]; rfl) X.ae (by rw [hc]; exact X.up d hd) (show 5 < 6 by decide)) ?_
  rw [hc]
  exact rs_one (r1_ret (rv 4))
end
end K60
/-! text N1 -/
set_option Elab.async false
set_option linter.all false
set_option maxRecDepth 100000
set_option maxHeartbeats 4000000
namespace K60
open PySem PyProof.Rows Rl
open PySem.Spec hiding Row
open L2 (E0 XK Hp V atI ixN)
open TL (tl tl_append ext_tl len_tl mk_tl tl_mk numL tl_num)
/-! ### names: good and each another -/
theorem lett_inj {i j : Nat} (hi : i < 36) (hj : j < 36) (e : lett.getD i 0 = lett.getD j 0) : i = j := by
  have : ∀ i j : Fin 36, lett.getD i.1 0 = lett.getD j.1 0 → i = j := by decide +kernel
  have := this ⟨i, hi⟩ ⟨j, hj⟩ e
  simpa using this
theorem digs_inj : ∀ (n m : Nat), digs n = digs m → n = m := by
  intro n
  induction n using Nat.strongRecOn with
  | _ n ih =>
    intro m e
    cases n with
    | zero =>
      cases m with
      | zero => rfl
      | succ m => rw [digs, digs] at e; cases e
    | succ n =>
      cases m with
      | zero => rw [digs, digs] at e; cases e
      | succ m =>
        rw [digs, digs] at e
        injection e with e1 e2
        have h1 := lett_inj (Nat.mod_lt _ (by decide)) (Nat.mod_lt _ (by decide)) e1
        have h2 := ih ((n + 1) / 36) (by omega) ((m + 1) / 36) e2
        omega
theorem signs_inj {a b : List Nat} (e : signs a = signs b) : a = b := by
  have : tl (signs a) = tl (signs b) := by rw [e]
  exact this
theorem nameOf_inj {n m : Nat} (e : nameOf n = nameOf m) : n = m := by
  have e := signs_inj e
  injection e with e1 e2
  have h1 := lett_inj (by omega) (by omega) e1
  have h2 := digs_inj _ _ e2
  omega
theorem nodup_sub {α : Type} [DecidableEq α] : ∀ (l l2 : List α), l.Nodup → (∀ a ∈ l, a ∈ l2) → l.length ≤ l2.length
  | [], l2, _, _ => Nat.zero_le _
  | a :: l, l2, hn, hs => by
    have hn2 := List.nodup_cons.mp hn
    have ha := hs a List.mem_cons_self
    have := nodup_sub l (l2.erase a) hn2.2 fun b hb => by
      have hb2 := hs b (List.mem_cons_of_mem _ hb)
      exact (List.mem_erase_of_ne (fun e => hn2.1 (by rw [← e]; exact hb))).mpr hb2
    rw [List.length_erase_of_mem ha] at this
    have : 0 < l2.length := List.length_pos_of_mem ha
    rw [List.length_cons]
    omega
theorem nameBy_is (n : Nat) (used : List Str) : ∃ m, m < used.length + 6 ∧ nameBy n used = nameOf (n + m) ∧ nameOf (n + m) ∉ used ∧ nameOf (n + m) ∉ lwords := by
  unfold nameBy
  cases e : (List.range (used.length + 6)).find? fun m => nameGood used (n + m) with
  | some m =>
    have h1 := List.mem_range.mp (List.mem_of_find?_eq_some e)
    have h2 := List.find?_some e
    unfold nameGood at h2
    simp only [Bool.and_eq_true, Bool.not_eq_true', decide_eq_false_iff_not] at h2
    exact ⟨m, h1, rfl, h2.1, h2.2⟩
  | none =>
    exfalso
    have h := List.find?_eq_none.mp e
    have := nodup_sub ((List.range (used.length + 6)).map fun m => nameOf (n + m)) (used ++ lwords) (by
      unfold List.Nodup
      rw [List.pairwise_map]
      exact List.Pairwise.imp (fun {a b} hne e => hne (by have := nameOf_inj e; omega)) List.nodup_range) fun s hs => by
        obtain ⟨m, hm, rfl⟩ := List.mem_map.mp hs
        have := h m hm
        unfold nameGood at this
        by_cases h1 : nameOf (n + m) ∈ used
        · exact List.mem_append.mpr (.inl h1)
        · by_cases h2 : nameOf (n + m) ∈ lwords
          · exact List.mem_append.mpr (.inr h2)
          · simp [h1, h2] at this
    rw [List.length_map, List.length_range, List.length_append] at this
    have : lwords.length = 5 := rfl
    omega
theorem lett_mem {i : Nat} (h : i < 36) : lett.getD i 0 ∈ lett := by
  rw [List.getD_eq_getElem?_getD, List.getElem?_eq_getElem (by show i < 36; exact h)]
  exact List.getElem_mem _
theorem digs_mem : ∀ (n : Nat), ∀ c ∈ digs n, c ∈ lett := by
  intro n
  induction n using Nat.strongRecOn with
  | _ n ih =>
    intro c hc
    cases n with
    | zero => rw [digs] at hc; cases hc
    | succ n =>
      rw [digs] at hc
      rcases List.mem_cons.mp hc with e | e
      · rw [e]; exact lett_mem (Nat.mod_lt _ (by decide))
      · exact ih _ (by omega) c e
theorem lett_signs : ∀ c ∈ lett, c ∈ lettersS.cps.toList ∨ c ∈ figsS.cps.toList := by decide +kernel
theorem lett_head : ∀ i : Fin 26, lett.getD i.1 0 ∈ lettersS.cps.toList := by decide +kernel
theorem nameOf_good {n : Nat} (hn : n < 26 * 36 ^ 11) (hw : nameOf n ∉ lwords) : isName (nameOf n) = true := by
  have el : (nameOf n).cps.toList = lett.getD (n % 26) 0 :: digs (n / 26) := rfl
  have hl : (nameOf n).length ≤ 12 := by
    have : (nameOf n).length = (lett.getD (n % 26) 0 :: digs (n / 26)).length := signs_len _
    rw [this, List.length_cons]
    have := digs_len 11 (n / 26) (Nat.div_lt_of_lt_mul hn)
    omega
  have hne : nameOf n ≠ "" := fun e => by
    have : (nameOf n).length = (lett.getD (n % 26) 0 :: digs (n / 26)).length := signs_len _
    rw [e, List.length_cons] at this
    have : (0 : Nat) = (digs (n / 26)).length + 1 := this
    omega
  unfold isName
  have c1 : decide (nameOf n = "") = false := decide_eq_false hne
  have c2 : decide (((nameOf n).length : Int) > 12) = false := decide_eq_false (by omega)
  have c3 : decide (nameOf n ∈ words) = false := decide_eq_false hw
  have c4 : decide ((nameOf n).cps.toList.headD 0 ∈ lettersS.cps.toList) = true := decide_eq_true (by
    rw [el]
    exact lett_head ⟨n % 26, by omega⟩)
  rw [c1, c2, c3, c4]
  refine List.all_eq_true.mpr fun c hc => ?_
  rw [el] at hc
  have hm : c ∈ lett := by
    rcases List.mem_cons.mp hc with e | e
    · rw [e]; exact lett_mem (by omega)
    · exact digs_mem _ c e
  rcases lett_signs c hm with z | z
  · rw [decide_eq_true z]; rfl
  · rw [decide_eq_true z]; simp
theorem namesUp_good {b s : Nat} (hb : b < 26 * 36 ^ 10) (hs : s ≤ 1213056) : ∀ n, n ≤ 28 → (namesUp b s n).Nodup ∧ ∀ x ∈ namesUp b s n, isName x = true
  | 0, _ => ⟨List.nodup_nil, fun x hx => by cases hx⟩
  | n + 1, h => by
    obtain ⟨h1, h2⟩ := namesUp_good hb hs n (by omega)
    obtain ⟨m, m1, m2, m3, m4⟩ := nameBy_is (b + n * s) (namesUp b s n)
    rw [namesUp_len] at m1
    unfold namesUp
    rw [m2]
    refine ⟨?_, fun x hx => ?_⟩
    · rw [List.nodup_append]
      exact ⟨h1, List.nodup_cons.mpr ⟨List.not_mem_nil, List.nodup_nil⟩, fun a ha c hc e => m3 (by rw [List.mem_singleton.mp hc] at e; rw [← e]; exact ha)⟩
    · rcases List.mem_append.mp hx with z | z
      · exact h2 x z
      · rw [List.mem_singleton.mp z]
        refine nameOf_good ?_ m4
        have : n * s ≤ 28 * 1213056 := Nat.mul_le_mul (by omega) hs
        have e : (26 * 36 ^ 10 + 28 * 1213056 + 40 : Nat) ≤ 26 * 36 ^ 11 := by decide +kernel
        omega
theorem namesBy_good (xs : List Int) {n : Nat} (h : n ≤ 28) : (namesBy xs n).Nodup ∧ (∀ x ∈ namesBy xs n, isName x = true) ∧ (namesBy xs n).length = n := by
  have q := namesUp_good (baseOf_le xs) (stepOf_le xs) n h
  exact ⟨q.1, q.2, namesUp_len _ _ n⟩
theorem isName_str {s : Str} (h : isName s = true) : PyData.strOk s = true := by
  have hf := (isName_facts h).all
  unfold PyData.strOk
  rw [Array.all_eq_true_iff_forall_mem]
  intro c hc
  have : c ∈ tl s := Array.mem_toList_iff.mpr hc
  rcases hf c this with z | z <;> exact decide_eq_true (by omega)
theorem nmsOk (xs : List Int) : NmsOk (namesBy xs 26) := ⟨(namesBy_good xs (by decide)).2.2, fun s hs => isName_str ((namesBy_good xs (by decide)).2.1 s hs)⟩
theorem namesUp_pre (b s : Nat) {k : Nat} : ∀ n, k ≤ n → ∃ r, namesUp b s n = namesUp b s k ++ r
  | 0, h => by
    have : k = 0 := by omega
    subst this
    exact ⟨[], by simp⟩
  | n + 1, h => by
    by_cases e : k = n + 1
    · subst e; exact ⟨[], by simp⟩
    · obtain ⟨r, hr⟩ := namesUp_pre b s (k := k) n (by omega)
      exact ⟨r ++ [nameBy (b + n * s) (namesUp b s n)], by rw [namesUp, hr, List.append_assoc]⟩
end K60
/-! text W31 -/
set_option Elab.async false
set_option linter.all false
set_option maxRecDepth 100000
set_option maxHeartbeats 4000000
namespace K60
open PySem PyProof.Rows Rl
open PySem.Spec hiding Row
open L2 (E0 XK Hp V atI ixN inClass defScope upd upd_same upd_ne HO Same)
open TL (tl tl_append ext_tl len_tl mk_tl tl_mk numL tl_num split_join partition_app partition_none tl_join joinL)
/-! ### a row more, by which the text is refused -/
def spoil (xs : List Int) (first : Str) (which : Nat) : List NRec :=
  if which = 0 then [.plan first, .given (nmAt (namesBy xs 28) 1), .made (nmAt (namesBy xs 28) 2) "all" [(nmAt (namesBy xs 28) 1, 0)]]
  else if which = 1 then [.plan (nmAt (namesBy xs 28) 27), .given (nmAt (namesBy xs 28) 1), .made (nmAt (namesBy xs 28) 2) (nmAt (namesBy xs 28) 27) [(nmAt (namesBy xs 28) 1, 0)]]
  else [.made (nmAt (namesBy xs 28) 26) "all" [(nmAt (namesBy xs 28) 27, 0)]]
structure SpIn where
  xs : List Int
  ps : List MPlan
  recs : List NRec
  which : Nat
structure SpPre (x : SpIn) : Prop where
  ok : RecsOk x.recs
  ne : x.recs ≠ []
  few : x.recs.length ≤ 400
  p0 : ∃ p, x.ps[0]? = some p ∧ p.name.length ≤ 12
def firstName (ps : List MPlan) : Str := (ps[0]?.map fun p => p.name).getD ""
abbrev P_spoilt (Γ : Cg) : Prop := Fn0 Γ 3 "_law_spoilt" ["script", "plans", "text", "which"] (Sp0 SpPre (fun x => [rQ Γ.K x.xs, rLPs x.ps, rS (bookText x.recs), rI x.which]) fun x => rS (bookText (x.recs ++ spoil x.xs (firstName x.ps) x.which)))
theorem joinL_app (S : List Nat) : ∀ (a b : List (List Nat)), a ≠ [] → b ≠ [] → joinL S (a ++ b) = joinL S a ++ (S ++ joinL S b)
  | [], _, h, _ => absurd rfl h
  | [x], [], _, h => absurd rfl h
  | [x], y :: b, _, _ => rfl
  | x :: z :: a, b, _, h => by
    have ih := joinL_app S (z :: a) b (by simp) h
    show x ++ (S ++ joinL S ((z :: a) ++ b)) = (x ++ (S ++ joinL S (z :: a))) ++ _
    rw [ih]
    simp only [List.append_assoc]
theorem tl_book (recs : List NRec) : tl (bookText recs) = joinL [10] ((recs.map recText).map tl) := by
  have := tl_join nlS (recs.map recText)
  have e : tl nlS = [10] := tl_nl
  rw [e] at this
  unfold bookText
  rw [TL.join_eq]
  exact this
theorem book_app {a b : List NRec} (ha : a ≠ []) (hb : b ≠ []) : tl (bookText (a ++ b)) = tl (bookText a) ++ (10 :: tl (bookText b)) := by
  rw [tl_book, tl_book, tl_book, List.map_append, List.map_append]
  exact joinL_app [10] _ _ (by simpa using ha) (by simpa using hb)
theorem book_len2 {recs : List NRec} (h : RecsOk recs) : (bookText recs).length ≤ recs.length * 2201 := by
  have h1 := join_len nlS (recs.map recText)
  have h2 : ((recs.map recText).map (·.length)).sum ≤ (recs.map recText).length * 2200 := sumlen_le fun x hx => by
    obtain ⟨q, hq, rfl⟩ := List.mem_map.mp hx
    exact recText_len (h.ok q hq)
  have h3 : nlS.length = 1 := by rw [len_tl, tl_nl]; rfl
  rw [List.length_map] at h1 h2
  rw [h3] at h1
  unfold bookText
  omega
theorem item0 (n : Str) : itemsText [(n, 0)] = n := by
  show Txt.join comS [itemText (n, 0)] = n
  have : itemText (n, 0) = n := by unfold itemText; rw [if_pos rfl]
  rw [this]
  rw [TL.join_eq]
  exact ext_tl (tl_join comS [n])
theorem tl_book1 (r : NRec) : tl (bookText [r]) = tl (recText r) := by rw [tl_book]; rfl
theorem tl_book3 (r1 r2 r3 : NRec) : tl (bookText [r1, r2, r3]) = tl (recText r1) ++ (10 :: (tl (recText r2) ++ (10 :: tl (recText r3)))) := by rw [tl_book]; rfl
section
variable {Γ : Cg} {C : Cls} (G : Gk Γ C)
include G
theorem w_spoilt (FN : P_names_by Γ) (D : DfAt Γ "_law_spoilt" 80 ["script", "plans", "text", "which"]) : P_spoilt Γ := by
  refine def0 2 Ll_spoilt D Sl_spoilt rfl rfl (fun _ => rfl) fun ⟨xs, ps, recs, w⟩ hp => ?_
  have ok : RecsOk recs := hp.ok
  have ne : recs ≠ [] := hp.ne
  have few : recs.length ≤ 400 := hp.few
  obtain ⟨p, hp0, hpl⟩ : ∃ p, ps[0]? = some p ∧ p.name.length ≤ 12 := hp.p0
  have bl := book_len2 ok
  have tl0 : (bookText recs).length ≤ 1000000 := by
    have : recs.length * 2201 ≤ 400 * 2201 := Nat.mul_le_mul_right _ few
    omega
  obtain ⟨g1, g2, g3⟩ := namesBy_good xs (n := 28) (Nat.le_refl _)
  have at_ : ∀ (k : Nat), k < 28 → atI ((namesBy xs 28).map rS) (k : Int) = some (rS (nmAt (namesBy xs 28) (k : Int))) ∧ isName (nmAt (namesBy xs 28) (k : Int)) = true := fun k hk => ⟨nm_at (by omega) (by rw [g3]; omega), g2 _ (nmAt_mem (by omega) (by rw [g3]; omega))⟩
  have nl : ∀ (k : Nat), k < 28 → (nmAt (namesBy xs 28) (k : Int)).length ≤ 12 := fun k hk => (isName_facts (at_ k hk).2).len
  have ef : firstName ps = p.name := by unfold firstName; rw [hp0]; rfl
  have esp : spoil xs (firstName ps) w = spoil xs p.name w := by rw [ef]
  generalize hn1 : nmAt (namesBy xs 28) 1 = n1
  generalize hn2 : nmAt (namesBy xs 28) 2 = n2
  generalize hn26 : nmAt (namesBy xs 28) 26 = n26
  generalize hn27 : nmAt (namesBy xs 28) 27 = n27
  have l1 : n1.length ≤ 12 := by rw [← hn1]; exact nl 1 (by decide)
  have l2 : n2.length ≤ 12 := by rw [← hn2]; exact nl 2 (by decide)
  have l26 : n26.length ≤ 12 := by rw [← hn26]; exact nl 26 (by decide)
  have l27 : n27.length ≤ 12 := by rw [← hn27]; exact nl 27 (by decide)
  have k1 : atI ((namesBy xs 28).map rS) 1 = some (rS n1) := by rw [← hn1]; exact (at_ 1 (by decide)).1
  have k2 : atI ((namesBy xs 28).map rS) 2 = some (rS n2) := by rw [← hn2]; exact (at_ 2 (by decide)).1
  have k26 : atI ((namesBy xs 28).map rS) 26 = some (rS n26) := by rw [← hn26]; exact (at_ 26 (by decide)).1
  have k27 : atI ((namesBy xs 28).map rS) 27 = some (rS n27) := by rw [← hn27]; exact (at_ 27 (by decide)).1
  have i27 : isName n27 = true := by rw [← hn27]; exact (at_ 27 (by decide)).2
  have sz : sizeLine = 16777216 := sizeLine_eq
  refine ⟨if decide (w = 0) then .ret (rS (bookText (recs ++ [.plan p.name, .given n1, .made n2 "all" [(n1, 0)]]))) else (if decide (w = 1) then .ret (rS (bookText (recs ++ [.plan n27, .given n1, .made n2 n27 [(n1, 0)]]))) else .ret (rS (bookText (recs ++ [.made n26 "all" [(n27, 0)]])))), ?_, ?_⟩
  · show RetO _ (.ok (rS (bookText (recs ++ spoil xs (firstName ps) w))))
    rw [esp]
    unfold spoil
    rw [hn1, hn2, hn26, hn27]
    by_cases h0 : w = 0
    · rw [if_pos (decide_eq_true h0), if_pos h0]; rfl
    · rw [if_neg (by simpa using h0), if_neg h0]
      by_cases h1 : w = 1
      · rw [if_pos (decide_eq_true h1), if_pos h1]; rfl
      · rw [if_neg (by simpa using h1), if_neg h1]; rfl
  refine rs_cons (env1 := [.dat (rQ Γ.K xs), .dat (rLPs ps), .dat (rS (bookText recs)), .dat (rI w), .dat (rL ((namesBy xs 28).map rS)), .no]) (r1_set 4 (re_call FN (xs, 28) (show (28 : Nat) ≤ 100 by decide) (ra_cons (rv 0) (ra_cons re_int ra_nil)))) ?_
  have c1 : ("\n given " : Str).length = 8 := by decide +kernel
  have c2 : ("\n " : Str).length = 2 := by decide +kernel
  have c3 : ("\nplan " : Str).length = 6 := by decide +kernel
  have c4 : (" all " : Str).length = 5 := by decide +kernel
  have c5 : (" part " : Str).length = 6 := by decide +kernel
  have c6 : (" " : Str).length = 1 := by decide +kernel
  have d1 : tl ("\n given " : Str) = 10 :: (tl sp ++ (tl givenS ++ tl sp)) := by decide +kernel
  have d2 : tl ("\n " : Str) = 10 :: tl sp := by decide +kernel
  have d3 : tl ("\nplan " : Str) = 10 :: (tl planS ++ tl sp) := by decide +kernel
  have d4 : tl (" all " : Str) = tl sp ++ (tl "all" ++ tl sp) := by decide +kernel
  have d5 : tl (" part " : Str) = tl sp ++ (tl partS ++ tl sp) := by decide +kernel
  have pa : plainHow "all" = true := by decide +kernel
  have pn : plainHow n27 = false := by
    cases h : plainHow n27 with
    | false => rfl
    | true =>
      have hw := (isName_facts i27).word
      rcases plain_cases h with e | e <;> exact absurd (by rw [e]; decide +kernel) hw
  obtain ⟨own, ho⟩ : ∃ o : Str, (("\n given " : Str) ++ n1 ++ "\n " ++ n2) = o := ⟨_, rfl⟩
  have lo : own.length ≤ 40 := by
    rw [← ho]
    simp only [str_len_app]
    omega
  have to : tl own = 10 :: (tl (recText (.given n1)) ++ (10 :: (tl sp ++ tl n2))) := by
    rw [← ho]
    simp only [tl_append, d1, d2, recText, List.append_assoc, List.cons_append]
  let e1 : List Sl := [.dat (rQ Γ.K xs), .dat (rLPs ps), .dat (rS (bookText recs)), .dat (rI w), .dat (rL ((namesBy xs 28).map rS)), .dat (rS own)]
  refine rs_cons (env1 := e1) (r1_set 5 (RE.eq (re_adds (x := ("\n given " : Str) ++ n1 ++ "\n ") (y := n2) ?_ (re_adds (x := ("\n given " : Str) ++ n1) (y := "\n ") ?_ (re_adds (x := "\n given ") (y := n1) ?_ re_str (re_ixL (i := 1) k1 (rp_of (rv 4)) re_int)) re_str) (re_ixL (i := 2) k2 (rp_of (rv 4)) re_int)) (congrArg rS ho))) ?_
  · simp only [str_len_app]; omega
  · simp only [str_len_app]; omega
  · omega
  refine rs_ifEnd (RT.eq (rt_eqI (i := (w : Int)) (j := 0) (rv 3) re_int) (decide_eq_decide.mpr ⟨fun h => Int.ofNat.inj h, fun h => congrArg _ h⟩)) (fun h => rs_one (r1_ret ?_)) fun h => rs_ifEnd (RT.eq (rt_eqI (i := (w : Int)) (j := 1) (rv 3) re_int) (decide_eq_decide.mpr ⟨fun h => Int.ofNat.inj h, fun h => congrArg _ h⟩)) (fun h => ?_) fun h => rs_one (r1_ret ?_)
  · refine RE.eq (re_adds (x := bookText recs ++ "\nplan " ++ p.name ++ own ++ " all ") (y := n1) ?_ (re_adds (x := bookText recs ++ "\nplan " ++ p.name ++ own) (y := " all ") ?_ (re_adds (x := bookText recs ++ "\nplan " ++ p.name) (y := own) ?_ (re_adds (x := bookText recs ++ "\nplan ") (y := p.name) ?_ (re_adds (x := bookText recs) (y := "\nplan ") ?_ (rv 2) re_str) (re_lp0 G (p := p) (re_ixL (rs := ps.map rLP) (i := 0) (atI_nat (n := 0) (by rw [List.getElem?_map, hp0]; rfl)) (rp_of (rv 1)) re_int))) (rv 5)) re_str) (re_ixL (i := 1) k1 (rp_of (rv 4)) re_int)) (congrArg rS (ext_tl ?_))
    · simp only [str_len_app]; omega
    · simp only [str_len_app]; omega
    · simp only [str_len_app]; omega
    · simp only [str_len_app]; omega
    · omega
    · rw [book_app ne (by simp), tl_book3]
      simp only [tl_append, d3, d4, to, recText, madeRest, pa, if_true, item0, List.append_assoc, List.cons_append]
  · refine rs_cons (env1 := e1.set 2 (.dat (rS (bookText recs ++ "\nplan " ++ n27 ++ own)))) (r1_set 2 (re_adds (x := bookText recs ++ "\nplan " ++ n27) (y := own) ?_ (re_adds (x := bookText recs ++ "\nplan ") (y := n27) ?_ (re_adds (x := bookText recs) (y := "\nplan ") ?_ (rv 2) re_str) (re_ixL (i := 27) k27 (rp_of (rv 4)) re_int)) (rv 5))) (rs_one (r1_ret ?_))
    · simp only [str_len_app]; omega
    · simp only [str_len_app]; omega
    · omega
    · refine RE.eq (re_adds (x := bookText recs ++ "\nplan " ++ n27 ++ own ++ " part " ++ n27 ++ " ") (y := n1) ?_ (re_adds (x := bookText recs ++ "\nplan " ++ n27 ++ own ++ " part " ++ n27) (y := " ") ?_ (re_adds (x := bookText recs ++ "\nplan " ++ n27 ++ own ++ " part ") (y := n27) ?_ (re_adds (x := bookText recs ++ "\nplan " ++ n27 ++ own) (y := " part ") ?_ (rv 2) re_str) (re_ixL (i := 27) k27 (rp_of (rv 4)) re_int)) re_str) (re_ixL (i := 1) k1 (rp_of (rv 4)) re_int)) (congrArg rS (ext_tl ?_))
      · simp only [str_len_app]; omega
      · simp only [str_len_app]; omega
      · simp only [str_len_app]; omega
      · simp only [str_len_app]; omega
      · rw [book_app ne (by simp), tl_book3]
        have es : (" " : Str) = sp := rfl
        simp only [es, tl_append, d3, d5, to, recText, madeRest, pn, Bool.false_eq_true, if_false, item0, List.append_assoc, List.cons_append]
  · refine RE.eq (re_adds (x := bookText recs ++ "\n " ++ n26 ++ " all ") (y := n27) ?_ (re_adds (x := bookText recs ++ "\n " ++ n26) (y := " all ") ?_ (re_adds (x := bookText recs ++ "\n ") (y := n26) ?_ (re_adds (x := bookText recs) (y := "\n ") ?_ (rv 2) re_str) (re_ixL (i := 26) k26 (rp_of (rv 4)) re_int)) re_str) (re_ixL (i := 27) k27 (rp_of (rv 4)) re_int)) (congrArg rS (ext_tl ?_))
    · simp only [str_len_app]; omega
    · simp only [str_len_app]; omega
    · simp only [str_len_app]; omega
    · omega
    · rw [book_app ne (by simp), tl_book1]
      simp only [tl_append, d2, d4, recText, madeRest, pa, if_true, item0, List.append_assoc, List.cons_append]
end
end K60
/-! text N2 -/
set_option Elab.async false
set_option linter.all false
set_option maxRecDepth 100000
set_option maxHeartbeats 4000000
namespace K60
open PySem PyProof.Rows Rl
open PySem.Spec hiding Row
/-! ### what forms tell -/
def hAt (h : List Int) (t : Int) : Int := h.getD t.toNat 0
def rowLe (h : List Int) (x : Int) (r : Row) : Prop := ∀ p ∈ r, hAt h p.1 + p.2 ≤ x
def formLe (h : List Int) (x : Int) (f : Form) : Prop := ∃ r ∈ f, rowLe h x r
/-- a form comes at an hour -/
def Come (f : Form) (h : List Int) (t : Int) : Prop := ∀ x, formLe h x f ↔ t ≤ x
theorem look_mem {o : Row} {k w : Int} (h : o.lookup k = some w) : (k, w) ∈ o := by
  induction o with
  | nil => cases h
  | cons q o ih =>
    obtain ⟨a, b⟩ := q
    rw [List.lookup_cons] at h
    by_cases e : k = a
    · subst e
      simp at h
      subst h
      exact List.mem_cons_self
    · have : (k == a) = false := by simpa using e
      rw [this] at h
      exact List.mem_cons_of_mem _ (ih h)
theorem look_of {o : Row} {k w : Int} (hn : (o.map Prod.fst).Nodup) (h : (k, w) ∈ o) : o.lookup k = some w := by
  induction o with
  | nil => cases h
  | cons q o ih =>
    obtain ⟨a, b⟩ := q
    rw [List.lookup_cons]
    have hn2 := List.nodup_cons.mp hn
    rcases List.mem_cons.mp h with e | e
    · cases e; simp
    · have : k ≠ a := fun z => hn2.1 (List.mem_map.mpr ⟨(k, w), e, z⟩)
      have : (k == a) = false := by simpa using this
      rw [this]
      exact ih hn2.2 e
theorem look_none {o : Row} {k : Int} (h : o.lookup k = none) : ∀ q ∈ o, q.1 ≠ k := by
  induction o with
  | nil => intro q hq; cases hq
  | cons z o ih =>
    obtain ⟨a, b⟩ := z
    rw [List.lookup_cons] at h
    by_cases e : k = a
    · subst e; simp at h
    · have e2 : (k == a) = false := by simpa using e
      rw [e2] at h
      intro q hq
      rcases List.mem_cons.mp hq with z | z
      · rw [z]; exact fun y => e y.symm
      · exact ih h q z
theorem under_le {r o : Row} {h : List Int} {x : Int} (hu : underB r o = true) (ho : rowLe h x o) : rowLe h x r := fun p hp => by
  have := List.all_eq_true.mp hu p hp
  cases e : o.lookup p.1 with
  | none => rw [e] at this; cases this
  | some w =>
    rw [e] at this
    have h2 : p.2 ≤ w := by simpa using this
    have := ho (p.1, w) (look_mem e)
    simp only at this
    omega
theorem thinStep_le {left : Form} {row : Row} {h : List Int} {x : Int} : formLe h x (thinStep left row) ↔ formLe h x left ∨ rowLe h x row := by
  unfold thinStep
  split
  · rename_i hu
    obtain ⟨o, ho, hu⟩ := List.any_eq_true.mp hu
    exact ⟨.inl, fun z => z.elim id fun z => ⟨o, ho, under_le hu z⟩⟩
  · constructor
    · intro ⟨r, hr, hl⟩
      rcases List.mem_append.mp hr with z | z
      · exact .inl ⟨r, (List.mem_filter.mp z).1, hl⟩
      · have : r = row := by simpa using z
        rw [this] at hl; exact .inr hl
    · intro z
      rcases z with ⟨o, ho, hl⟩ | z
      · by_cases hu : underB row o = true
        · exact ⟨row, List.mem_append.mpr (.inr (by simp)), under_le hu hl⟩
        · exact ⟨o, List.mem_append.mpr (.inl (List.mem_filter.mpr ⟨ho, by simpa using hu⟩)), hl⟩
      · exact ⟨row, List.mem_append.mpr (.inr (by simp)), z⟩
theorem thinF_le {h : List Int} {x : Int} : ∀ (rows left : Form), formLe h x (rows.foldl thinStep left) ↔ formLe h x left ∨ formLe h x rows
  | [], left => ⟨.inl, fun z => z.elim id fun ⟨r, hr, _⟩ => by cases hr⟩
  | row :: rows, left => by
    rw [List.foldl_cons, thinF_le rows, thinStep_le]
    constructor
    · rintro ((z | z) | ⟨r, hr, z⟩)
      · exact .inl z
      · exact .inr ⟨row, List.mem_cons_self, z⟩
      · exact .inr ⟨r, List.mem_cons_of_mem _ hr, z⟩
    · rintro (z | ⟨r, hr, z⟩)
      · exact .inl (.inl z)
      · rcases List.mem_cons.mp hr with e | e
        · rw [e] at z; exact .inl (.inr z)
        · exact .inr ⟨r, e, z⟩
theorem thin_le {rows : Form} {h : List Int} {x : Int} : formLe h x (thinI rows) ↔ formLe h x rows := by
  have pm := List.mergeSort_perm (rows.foldl thinStep []) leR
  have k := thinF_le (h := h) (x := x) rows []
  constructor
  · intro ⟨r, hr, z⟩
    exact (k.mp ⟨r, pm.mem_iff.mp hr, z⟩).elim (fun ⟨r, hr, _⟩ => by cases hr) id
  · intro z
    obtain ⟨r, hr, z⟩ := k.mpr (.inr z)
    exact ⟨r, pm.mem_iff.mpr hr, z⟩
theorem shift_le {r : Row} {w x : Int} {h : List Int} : rowLe h x (shiftI r w) ↔ rowLe h (x - w) r := by
  constructor
  · intro z p hp
    have := z (p.1, p.2 + w) (List.mem_map.mpr ⟨p, hp, rfl⟩)
    simp only at this
    omega
  · intro z p hp
    obtain ⟨q, hq, rfl⟩ := List.mem_map.mp hp
    have := z q hq
    show hAt h q.1 + (q.2 + w) ≤ x
    omega
theorem waited_le {f : Form} {w x : Int} {h : List Int} : formLe h x (waitedI f w) ↔ formLe h (x - w) f := by
  constructor
  · intro ⟨r, hr, z⟩
    obtain ⟨q, hq, rfl⟩ := List.mem_map.mp hr
    exact ⟨q, hq, shift_le.mp z⟩
  · intro ⟨r, hr, z⟩
    exact ⟨_, List.mem_map.mpr ⟨r, hr, rfl⟩, shift_le.mpr z⟩
theorem come_waited {f : Form} {w t : Int} {h : List Int} (c : Come f h t) : Come (waitedI f w) h (t + w) := fun x => by
  rw [waited_le, c]
  omega
theorem put_le {acc : Row} {t w x : Int} {h : List Int} (hn : (acc.map Prod.fst).Nodup) : rowLe h x (putI acc t (max w ((acc.lookup t).getD w))) ↔ rowLe h x acc ∧ hAt h t + w ≤ x := by
  unfold putI
  cases e : acc.lookup t with
  | none =>
    have hno := look_none e
    have : (acc.any fun p => decide (p.1 = t)) = false := by
      rw [List.any_eq_false]
      intro q hq
      simpa using hno q hq
    rw [if_neg (by rw [this]; exact Bool.false_ne_true)]
    have em : max w ((none : Option Int).getD w) = w := by simp
    rw [em]
    constructor
    · intro z
      exact ⟨fun p hp => z p (List.mem_append.mpr (.inl hp)), z (t, w) (List.mem_append.mpr (.inr (by simp)))⟩
    · intro ⟨z1, z2⟩ p hp
      rcases List.mem_append.mp hp with q | q
      · exact z1 p q
      · have : p = (t, w) := by simpa using q
        rw [this]; exact z2
  | some v =>
    have hv := look_mem e
    have : (acc.any fun p => decide (p.1 = t)) = true := List.any_eq_true.mpr ⟨(t, v), hv, by simp⟩
    rw [if_pos this]
    have em : (some v : Option Int).getD w = v := rfl
    rw [em]
    constructor
    · intro z
      have zt : hAt h t + max w v ≤ x := z (t, max w v) (List.mem_map.mpr ⟨(t, v), hv, by simp⟩)
      refine ⟨fun p hp => ?_, by omega⟩
      by_cases et : p.1 = t
      · have : (t, p.2) ∈ acc := by rw [← et]; exact hp
        have := look_of hn this
        rw [e] at this
        cases this
        rw [et]
        omega
      · exact z p (List.mem_map.mpr ⟨p, hp, by rw [if_neg et]⟩)
    · intro ⟨z1, z2⟩ p hp
      obtain ⟨q, hq, rfl⟩ := List.mem_map.mp hp
      by_cases et : q.1 = t
      · rw [if_pos et]
        have := z1 (t, v) hv
        simp only at this
        show hAt h q.1 + max w v ≤ x
        rw [et]
        omega
      · rw [if_neg et]
        exact z1 q hq
theorem joinF_le {h : List Int} {x : Int} : ∀ (other row : Row), (row.map Prod.fst).Nodup → (rowLe h x (joinF row other) ↔ rowLe h x row ∧ rowLe h x other)
  | [], row, _ => ⟨fun z => ⟨z, fun p hp => by cases hp⟩, fun z => z.1⟩
  | p :: other, row, hn => by
    have hk := (putI_keys row p.1 (max p.2 ((row.lookup p.1).getD p.2)) hn).1
    show rowLe h x (joinF (joinStep row p) other) ↔ _
    rw [joinF_le other (joinStep row p) hk]
    unfold joinStep
    rw [put_le hn]
    constructor
    · intro ⟨⟨z1, z2⟩, z3⟩
      refine ⟨z1, fun q hq => ?_⟩
      rcases List.mem_cons.mp hq with e | e
      · rw [e]; exact z2
      · exact z3 q e
    · intro ⟨z1, z2⟩
      exact ⟨⟨z1, z2 p List.mem_cons_self⟩, fun q hq => z2 q (List.mem_cons_of_mem _ hq)⟩
theorem join_le {row other : Row} {h : List Int} {x : Int} (hn : (row.map Prod.fst).Nodup) : rowLe h x (joinI row other) ↔ rowLe h x row ∧ rowLe h x other := by
  rw [← joinF_le other row hn]
  have pm := List.mergeSort_perm (joinF row other) leP
  exact ⟨fun z p hp => z p (pm.mem_iff.mpr hp), fun z p hp => z p (pm.mem_iff.mp hp)⟩
theorem both_le {a b : Form} {h : List Int} {x : Int} (ha : FormOk a) : formLe h x (bothOf a b) ↔ formLe h x a ∧ formLe h x b := by
  unfold bothOf
  rw [thin_le]
  constructor
  · intro ⟨r, hr, z⟩
    obtain ⟨p, hp, hr⟩ := List.mem_flatMap.mp hr
    obtain ⟨q, hq, rfl⟩ := List.mem_map.mp hr
    have := (join_le (ha.2 p hp).1).mp z
    exact ⟨⟨p, hp, this.1⟩, ⟨q, hq, this.2⟩⟩
  · intro ⟨⟨p, hp, z1⟩, ⟨q, hq, z2⟩⟩
    exact ⟨_, List.mem_flatMap.mpr ⟨p, hp, List.mem_map.mpr ⟨q, hq, rfl⟩⟩, (join_le (ha.2 p hp).1).mpr ⟨z1, z2⟩⟩
theorem append_le {a b : Form} {h : List Int} {x : Int} : formLe h x (a ++ b) ↔ formLe h x a ∨ formLe h x b := by
  constructor
  · intro ⟨r, hr, z⟩
    exact (List.mem_append.mp hr).elim (fun q => .inl ⟨r, q, z⟩) fun q => .inr ⟨r, q, z⟩
  · rintro (⟨r, hr, z⟩ | ⟨r, hr, z⟩)
    · exact ⟨r, List.mem_append.mpr (.inl hr), z⟩
    · exact ⟨r, List.mem_append.mpr (.inr hr), z⟩
theorem first_le {most : Int} {h : List Int} {x : Int} {fs : List Form} {g : Form} (hne : fs ≠ []) (e : firstOf fs most = some g) : formLe h x g ↔ ∃ f ∈ fs, formLe h x f := by
  have key : ∀ (xs : List Form) (a g : Form), xs.foldlM (fun m f => inRoom (thinI (m ++ f)) most) a = some g → (formLe h x g ↔ formLe h x a ∨ ∃ f ∈ xs, formLe h x f) := by
    intro xs
    induction xs with
    | nil => intro a g e; cases e; simp
    | cons f xs ih =>
      intro a g e
      rw [List.foldlM_cons] at e
      cases e1 : inRoom (thinI (a ++ f)) most with
      | none => rw [e1] at e; cases e
      | some m2 =>
        rw [e1] at e
        have e : xs.foldlM (fun m f => inRoom (thinI (m ++ f)) most) m2 = some g := e
        rw [ih m2 g e, (inRoom_ok e1).1, thin_le, append_le]
        simp only [List.mem_cons, exists_eq_or_imp, or_assoc]
  cases fs with
  | nil => exact absurd rfl hne
  | cons f fs =>
    unfold firstOf at e
    cases e1 : inRoom ((f :: fs).headD []) most with
    | none => rw [e1] at e; cases e
    | some a =>
      rw [e1] at e
      have e2 : a = f := (inRoom_ok e1).1
      subst e2
      have e : fs.foldlM (fun m f => inRoom (thinI (m ++ f)) most) a = some g := e
      rw [key fs a g e]
      simp only [List.mem_cons, exists_eq_or_imp]
theorem all_le {most : Int} (hm : most ≤ 8) {h : List Int} {x : Int} {fs : List Form} {g : Form} (hne : fs ≠ []) (hok : ∀ f ∈ fs, FormOk f) (e : allOf fs most = some g) : formLe h x g ↔ ∀ f ∈ fs, formLe h x f := by
  have key : ∀ (xs : List Form) (a g : Form), FormOk a → (∀ f ∈ xs, FormOk f) → xs.foldlM (fun m f => inRoom (bothOf m f) most) a = some g → (formLe h x g ↔ formLe h x a ∧ ∀ f ∈ xs, formLe h x f) := by
    intro xs
    induction xs with
    | nil => intro a g _ _ e; cases e; simp
    | cons f xs ih =>
      intro a g ha hx e
      rw [List.foldlM_cons] at e
      cases e1 : inRoom (bothOf a f) most with
      | none => rw [e1] at e; cases e
      | some m2 =>
        rw [e1] at e
        have e : xs.foldlM (fun m f => inRoom (bothOf m f) most) m2 = some g := e
        obtain ⟨e2, e3⟩ := inRoom_ok e1
        have hm2 : FormOk m2 := by
          rw [e2]
          exact ⟨by omega, fun r hr => bothOf_rows ha (hx f List.mem_cons_self) hr⟩
        rw [ih m2 g hm2 (fun f hf => hx f (List.mem_cons_of_mem _ hf)) e, e2, both_le ha]
        simp only [List.mem_cons, forall_eq_or_imp, and_assoc]
  cases fs with
  | nil => exact absurd rfl hne
  | cons f fs =>
    unfold allOf at e
    cases e1 : inRoom ((f :: fs).headD []) most with
    | none => rw [e1] at e; cases e
    | some a =>
      rw [e1] at e
      have e2 : a = f := (inRoom_ok e1).1
      subst e2
      have e : fs.foldlM (fun m f => inRoom (bothOf m f) most) a = some g := e
      rw [key fs a g (hok _ List.mem_cons_self) (fun f hf => hok f (List.mem_cons_of_mem _ hf)) e]
      simp only [List.mem_cons, forall_eq_or_imp]
theorem mapM_of {α β : Type} {g : α → Option β} : ∀ {xs : List α} {ys : List β}, xs.mapM g = some ys → ∀ x ∈ xs, ∃ y ∈ ys, g x = some y
  | [], _, _, x, hx => by cases hx
  | a :: xs, ys, e, x, hx => by
    rw [List.mapM_cons] at e
    cases e1 : g a with
    | none => rw [e1] at e; cases e
    | some y =>
      rw [e1] at e
      cases e2 : xs.mapM g with
      | none => rw [e2] at e; cases e
      | some zs =>
        rw [e2] at e
        have e : some (y :: zs) = some ys := e
        cases e
        rcases List.mem_cons.mp hx with z | z
        · rw [z]; exact ⟨y, List.mem_cons_self, e1⟩
        · obtain ⟨w, h1, h2⟩ := mapM_of e2 x z
          exact ⟨w, List.mem_cons_of_mem _ h1, h2⟩
theorem put_come {most m : Int} (hm : most ≤ 8) {h hs : List Int} {form : Form} {fs : List Form} {g : Form} (hne : form ≠ []) (hok : FormOk form) (hk : KeysLt form fs.length) (hf : ∀ f ∈ fs, FormGood m f) (hc : ∀ t : Int, 0 ≤ t → t < fs.length → Come (formAt fs t) h (hAt hs t)) (e : putInto form fs most = some g) {t : Int} (ct : Come form hs t) : Come g h t := fun x => by
  rw [← ct x]
  unfold putInto at e
  cases e1 : form.mapM fun row => allOf (row.map fun p => waitedI (formAt fs p.1) p.2) most with
  | none => rw [e1] at e; cases e
  | some ms =>
    rw [e1] at e
    have e : firstOf ms most = some g := e
    obtain ⟨h1, h2⟩ := mapM_mem e1
    have h3 := mapM_of e1
    have row_le : ∀ row ∈ form, ∀ f, allOf (row.map fun p => waitedI (formAt fs p.1) p.2) most = some f → (formLe h x f ↔ rowLe hs x row) := by
      intro row hr f ef
      have ro := hok.2 row hr
      rw [all_le hm (by simpa using ro.2.1) (fun f3 hf3 => by
        obtain ⟨p, hp, rfl⟩ := List.mem_map.mp hf3
        exact (good_waited _ (hf _ (formAt_mem (ro.2.2 p hp).1 (hk row hr p hp)))).ok) ef]
      constructor
      · intro z p hp
        have := z _ (List.mem_map.mpr ⟨p, hp, rfl⟩)
        rw [waited_le, hc p.1 (ro.2.2 p hp).1 (hk row hr p hp)] at this
        omega
      · intro z f hf
        obtain ⟨p, hp, rfl⟩ := List.mem_map.mp hf
        have := z p hp
        rw [waited_le, hc p.1 (ro.2.2 p hp).1 (hk row hr p hp)]
        omega
    rw [first_le (fun z => hne (List.eq_nil_of_length_eq_zero (by rw [← h1, z]; rfl))) e]
    constructor
    · intro ⟨f, hf, z⟩
      obtain ⟨row, hr, ef⟩ := h2 f hf
      exact ⟨row, hr, (row_le row hr f ef).mp z⟩
    · intro ⟨row, hr, z⟩
      obtain ⟨f, hf, ef⟩ := h3 row hr
      exact ⟨f, hf, (row_le row hr f ef).mpr z⟩
theorem come_thing {h : List Int} {t : Int} : Come (thingForm t) h (hAt h t) := fun x => by
  unfold thingForm
  constructor
  · intro ⟨r, hr, z⟩
    have : r = [(t, 0)] := by simpa using hr
    have := z (t, 0) (by rw [this]; simp)
    simpa using this
  · intro z
    exact ⟨[(t, 0)], by simp, fun p hp => by
      have : p = (t, 0) := by simpa using hp
      rw [this]
      simpa using z⟩
theorem idxS_at {b : MBook} (hn : (b.map (·.name)).Nodup) {j : Nat} {p : MPlan} (h : b[j]? = some p) : idxS (headsOf b) p.name = j := by
  unfold idxS headsOf
  induction b generalizing j with
  | nil => cases h
  | cons q b ih =>
    rw [List.map_cons, List.findIdx_cons]
    have hn2 := List.nodup_cons.mp hn
    cases j with
    | zero =>
      have h : q = p := by simpa using h
      subst h
      simp
    | succ j =>
      have h : b[j]? = some p := by simpa using h
      have hm := List.mem_of_getElem? h
      have : q.name ≠ p.name := fun e => hn2.1 (List.mem_map.mpr ⟨p, hm, e.symm⟩)
      have : (q.name == p.name) = false := by simpa using this
      rw [this]
      simp only [cond_false]
      rw [ih hn2.2 h]
theorem made_come {b : MBook} {most : Int} (hm : most ≤ 8) (hb : BookGood b) {n i : Nat} {m : Int} {ahead : Nat} {r : MRow} {found : List Form} {g : Form} {h told : List Int} (hi : i < n + 1) (hr : RowGood b i ahead r) (hl : found.length = ahead) (hl2 : told.length = ahead) (hf : ∀ f ∈ found, FormGood m f)
    (hc : ∀ t : Int, 0 ≤ t → t < found.length → Come (formAt found t) h (hAt told t))
    (hrec : ∀ j p fs hs, j < i → b[j]? = some p → formsN b most n p.name = some fs → hs.length = p.givens.length → Come (fs.getLastD []) hs (runN b n j hs))
    (e : madeWith (formsN b most n) r.how (partsOf found r.items) most = some g) : Come g h (hourOf (runN b n) b told r) := by
  have pg := parts_good hf (items := r.items) (by rw [hl]; exact hr.th)
  have pne : partsOf found r.items ≠ [] := fun z => hr.ne (by unfold partsOf at z; simpa using z)
  have pc : ∀ q ∈ r.items, ∀ x, formLe h x (waitedI (formAt found q.1) q.2) ↔ hAt told q.1 + q.2 ≤ x := fun q hq x => come_waited (hc q.1 (hr.th q hq).1 (by rw [hl]; exact (hr.th q hq).2)) x
  have cne : comeOf told r.items ≠ [] := fun z => hr.ne (by unfold comeOf at z; simpa using z)
  unfold madeWith at e
  unfold hourOf
  by_cases h1 : r.how = "all"
  · rw [if_pos h1] at e ⊢
    intro x
    rw [all_le hm pne (fun f hf => (pg f hf).ok) e]
    obtain ⟨m1, m2⟩ := maxL_mem cne
    constructor
    · intro z
      obtain ⟨q, hq, e2⟩ := List.mem_map.mp m1
      have := (pc q hq x).mp (z _ (List.mem_map.mpr ⟨q, hq, rfl⟩))
      rw [← e2]
      exact this
    · intro z f hf
      obtain ⟨q, hq, rfl⟩ := List.mem_map.mp hf
      have : hAt told q.1 + q.2 ≤ maxL (comeOf told r.items) := m2 _ (List.mem_map.mpr ⟨q, hq, rfl⟩)
      exact (pc q hq x).mpr (by omega)
  · rw [if_neg h1] at e ⊢
    by_cases h2 : r.how = "first"
    · rw [if_pos h2] at e ⊢
      intro x
      rw [first_le pne e]
      obtain ⟨m1, m2⟩ := minL_mem cne
      constructor
      · intro ⟨f, hf, z⟩
        obtain ⟨q, hq, rfl⟩ := List.mem_map.mp hf
        have := (pc q hq x).mp z
        have : minL (comeOf told r.items) ≤ hAt told q.1 + q.2 := m2 _ (List.mem_map.mpr ⟨q, hq, rfl⟩)
        omega
      · intro z
        obtain ⟨q, hq, e2⟩ := List.mem_map.mp m1
        refine ⟨_, List.mem_map.mpr ⟨q, hq, rfl⟩, (pc q hq x).mpr ?_⟩
        have e2 : hAt told q.1 + q.2 = minL (comeOf told r.items) := e2
        omega
    · rw [if_neg h2] at e ⊢
      rcases hr.how with z | z | ⟨j, p, hj, hp, hpn, hpg, _, _⟩
      · exact absurd z h1
      · exact absurd z h2
      · cases e1 : formsN b most n r.how with
        | none => rw [e1] at e; cases e
        | some fs =>
          rw [e1] at e
          have e : putInto (fs.getLastD []) (partsOf found r.items) most = some g := e
          rw [← hpn] at e1
          obtain ⟨p2, e2, e3, e4⟩ := forms_good hb hm n j p fs (by omega) hp e1
          rw [planBy_at hb.nd hp] at e2
          cases e2
          have fne : fs ≠ [] := fun z => by
            rw [z] at e3
            have e3 : 0 = p.givens.length + p.rows.length := e3
            exact (hb.plan j p hp).rne (List.eq_nil_of_length_eq_zero (by omega))
          have lg := e4 _ (getLastD_mem fne)
          have pl : (partsOf found r.items).length = r.items.length := by unfold partsOf; rw [List.length_map]
          have cl : (comeOf told r.items).length = p.givens.length := by unfold comeOf; rw [List.length_map, hpg]
          have := hrec j p fs (comeOf told r.items) hj hp e1 cl
          rw [← hpn, idxS_at hb.nd hp]
          refine put_come hm lg.ne lg.ok (by rw [pl, ← hpg]; exact lg.ky) pg (fun t h0 ht => ?_) e this
          have ht2 : t.toNat < r.items.length := by omega
          have ea : formAt (partsOf found r.items) t = waitedI (formAt found (r.items[t.toNat]).1) (r.items[t.toNat]).2 := by
            unfold formAt partsOf
            rw [List.getD_eq_getElem?_getD, List.getElem?_map, List.getElem?_eq_getElem ht2]
            rfl
          have eb : hAt (comeOf told r.items) t = hAt told (r.items[t.toNat]).1 + (r.items[t.toNat]).2 := by
            unfold hAt comeOf
            rw [List.getD_eq_getElem?_getD, List.getElem?_map, List.getElem?_eq_getElem ht2]
            rfl
          rw [ea, eb]
          exact fun x => pc _ (List.getElem_mem ht2) x
theorem forms_come {b : MBook} (hb : BookGood b) {most : Int} (hm : most ≤ 8) : ∀ (n : Nat) (i : Nat) (p : MPlan) (fs : List Form) (hs : List Int), i < n → b[i]? = some p → formsN b most n p.name = some fs → hs.length = p.givens.length → Come (fs.getLastD []) hs (runN b n i hs)
  | 0, i, p, fs, hs, hi, _, _, _ => absurd hi (Nat.not_lt_zero _)
  | n + 1, i, p, fs, hs, hi, hp, e, hl => by
    unfold formsN at e
    rw [planBy_at hb.nd hp] at e
    have pg := hb.plan i p hp
    have key : ∀ (rs pre : List MRow) (found : List Form) (told : List Int), p.rows = pre ++ rs → found.length = p.givens.length + pre.length → told.length = found.length → (∀ f ∈ found, FormGood p.givens.length f) → (∀ t : Int, 0 ≤ t → t < found.length → Come (formAt found t) hs (hAt told t)) → rs.foldlM (formsRow (formsN b most n) most) found = some fs → (∀ t : Int, 0 ≤ t → t < fs.length → Come (formAt fs t) hs (hAt (rs.foldl (runRow (runN b n) b) told) t)) ∧ (rs.foldl (runRow (runN b n) b) told).length = fs.length ∧ fs.length = p.givens.length + p.rows.length := by
      intro rs
      induction rs with
      | nil =>
        intro pre found told e1 e2 e3 e4 e5 e6
        cases e6
        rw [List.append_nil] at e1
        rw [e1]
        exact ⟨e5, e3, e2⟩
      | cons r rs ih =>
        intro pre found told e1 e2 e3 e4 e5 e6
        rw [List.foldlM_cons] at e6
        unfold formsRow at e6
        cases e7 : madeWith (formsN b most n) r.how (partsOf found r.items) most with
        | none => rw [e7] at e6; cases e6
        | some g =>
          rw [e7] at e6
          have hrow : RowGood b i (p.givens.length + pre.length) r := pg.row pre.length r (by rw [e1, List.getElem?_append_right (Nat.le_refl _), Nat.sub_self]; rfl)
          have gg := made_good hm hrow e2 e4 hb.nd (fun i p hp => (hb.plan i p hp).rne) (fun j q fs hj hq hfs => forms_good hb hm n j q fs (by omega) hq hfs) e7
          have gc := made_come hm hb (told := told) (by omega) hrow e2 (by rw [e3, e2]) e4 e5 (fun j q fs hs hj hq hfs hl => forms_come hb hm n j q fs hs (by omega) hq hfs hl) e7
          refine ih (pre ++ [r]) (found ++ [g]) (runRow (runN b n) b told r) (by rw [e1, List.append_assoc]; rfl) (by rw [List.length_append, List.length_append, e2]; rfl) (by unfold runRow; rw [List.length_append, List.length_append, e3]; rfl) (fun f hf => ?_) (fun t h0 ht => ?_) e6
          · rcases List.mem_append.mp hf with z | z
            · exact e4 f z
            · have z : f = g := by simpa using z
              rw [z]; exact gg
          · rw [List.length_append, List.length_singleton] at ht
            by_cases hlt : t < found.length
            · have ea : formAt (found ++ [g]) t = formAt found t := by
                unfold formAt
                rw [List.getD_eq_getElem?_getD, List.getD_eq_getElem?_getD, List.getElem?_append_left (by omega)]
              have eb : hAt (runRow (runN b n) b told r) t = hAt told t := by
                unfold hAt runRow
                rw [List.getD_eq_getElem?_getD, List.getD_eq_getElem?_getD, List.getElem?_append_left (by omega)]
              rw [ea, eb]
              exact e5 t h0 hlt
            · have et : t.toNat = found.length := by omega
              have ea : formAt (found ++ [g]) t = g := by
                unfold formAt
                rw [List.getD_eq_getElem?_getD, et, List.getElem?_append_right (Nat.le_refl _), Nat.sub_self]
                rfl
              have eb : hAt (runRow (runN b n) b told r) t = hourOf (runN b n) b told r := by
                unfold hAt runRow
                rw [List.getD_eq_getElem?_getD, et, List.getElem?_append_right (by omega), e3, Nat.sub_self]
                rfl
              rw [ea, eb]
              exact gc
    have ln : ((List.range p.givens.length).map fun (k : Nat) => thingForm k).length = p.givens.length := by rw [List.length_map, List.length_range]
    obtain ⟨k1, k2, k3⟩ := key p.rows [] _ hs rfl (by rw [ln]; rfl) (by rw [ln, hl]) (fun f hf => by
      obtain ⟨k, hk, rfl⟩ := List.mem_map.mp hf
      have := List.mem_range.mp hk
      have := pg.g2
      exact good_thing (by omega) (by omega) (by omega)) (fun t h0 ht => by
      rw [ln] at ht
      have ea : formAt ((List.range p.givens.length).map fun (k : Nat) => thingForm k) t = thingForm t := by
        unfold formAt
        rw [List.getD_eq_getElem?_getD, List.getElem?_map, List.getElem?_range (by omega)]
        show thingForm ((t.toNat : Nat) : Int) = _
        rw [Int.toNat_of_nonneg h0]
      rw [ea]
      exact come_thing) e
    have rpos : 0 < p.rows.length := List.length_pos_iff.mpr pg.rne
    have el : formAt fs ((fs.length : Int) - 1) = fs.getLastD [] := by
      unfold formAt
      rw [List.getD_eq_getElem?_getD, List.getLastD_eq_getLast?, List.getLast?_eq_getElem?]
      have : ((fs.length : Int) - 1).toNat = fs.length - 1 := by omega
      rw [this]
    have er : hAt (p.rows.foldl (runRow (runN b n) b) hs) ((fs.length : Int) - 1) = runN b (n + 1) i hs := by
      unfold hAt
      rw [runN, hp]
      simp only
      rw [List.getD_eq_getElem?_getD, List.getLastD_eq_getLast?, List.getLast?_eq_getElem?]
      have : ((fs.length : Int) - 1).toNat = (p.rows.foldl (runRow (runN b n) b) hs).length - 1 := by omega
      rw [this]
    rw [← el, ← er]
    exact k1 _ (by omega) (by omega)
/-! ### lags: hours given, and none -/
theorem mxO_ge (m : Option Int) (i : Int) : i ≤ mxO m i ∧ (∀ k, m = some k → k ≤ mxO m i) := by
  cases m with
  | none => exact ⟨Int.le_refl _, fun k e => by cases e⟩
  | some k =>
    unfold mxO
    simp only
    split
    · exact ⟨Int.le_refl _, fun k2 e => by cases e; omega⟩
    · exact ⟨by omega, fun k2 e => by cases e; omega⟩
theorem mxO_is (m : Option Int) (i : Int) : mxO m i = i ∨ m = some (mxO m i) := by
  cases m with
  | none => exact .inl rfl
  | some k =>
    unfold mxO
    simp only
    split
    · exact .inl rfl
    · exact .inr rfl
/-- what more_waited tells -/
theorem moreF {o : Row} : ∀ (r : Row) (m : Option Int) (v : Option Int), r.foldlM (moreStep o) m = some v → (∀ p ∈ r, ∃ w, o.lookup p.1 = some w ∧ ∃ k, v = some k ∧ p.2 - w ≤ k) ∧ (∀ k, m = some k → ∃ k2, v = some k2 ∧ k ≤ k2) ∧ (v = m ∨ ∃ p ∈ r, ∃ w, o.lookup p.1 = some w ∧ v = some (p.2 - w))
  | [], m, v, e => by
    cases e
    exact ⟨fun p hp => by (cases hp), fun k e => ⟨k, e, Int.le_refl _⟩, .inl rfl⟩
  | q :: r, m, v, e => by
    rw [List.foldlM_cons] at e
    unfold moreStep at e
    cases e1 : o.lookup q.1 with
    | none => rw [e1] at e; cases e
    | some w =>
      rw [e1] at e
      have e : r.foldlM (moreStep o) (some (mxO m (q.2 - w))) = some v := e
      obtain ⟨a1, a2, a3⟩ := moreF r _ v e
      obtain ⟨b1, b2⟩ := mxO_ge m (q.2 - w)
      obtain ⟨k2, c1, c2⟩ := a2 _ rfl
      refine ⟨fun p hp => ?_, fun k ek => ⟨k2, c1, Int.le_trans (b2 k ek) c2⟩, ?_⟩
      · rcases List.mem_cons.mp hp with z | z
        · rw [z]; exact ⟨w, e1, k2, c1, by omega⟩
        · exact a1 p z
      · rcases a3 with z | ⟨p, hp, w2, z1, z2⟩
        · rcases mxO_is m (q.2 - w) with y | y
          · exact .inr ⟨q, List.mem_cons_self, w, e1, by rw [z, y]⟩
          · exact .inl (by rw [z, ← y])
        · exact .inr ⟨p, List.mem_cons_of_mem _ hp, w2, z1, z2⟩
theorem moreF_none {o : Row} : ∀ (r : Row) (m : Option Int), r.foldlM (moreStep o) m = none → ∃ p ∈ r, o.lookup p.1 = none
  | [], m, e => by cases e
  | q :: r, m, e => by
    rw [List.foldlM_cons] at e
    unfold moreStep at e
    cases e1 : o.lookup q.1 with
    | none => exact ⟨q, List.mem_cons_self, e1⟩
    | some w =>
      rw [e1] at e
      have e : r.foldlM (moreStep o) (some (mxO m (q.2 - w))) = none := e
      obtain ⟨p, hp, z⟩ := moreF_none r _ e
      exact ⟨p, List.mem_cons_of_mem _ hp, z⟩
theorem more_some {r o : Row} {k : Int} (e : moreI r o = some k) : (∀ p ∈ r, ∃ w, o.lookup p.1 = some w ∧ p.2 - w ≤ k) ∧ ∃ p ∈ r, ∃ w, o.lookup p.1 = some w ∧ k = p.2 - w := by
  unfold moreI at e
  cases e1 : r.foldlM (moreStep o) none with
  | none => rw [e1] at e; cases e
  | some v =>
    rw [e1] at e
    have e : v = some k := e
    obtain ⟨a1, _, a3⟩ := moreF r none v e1
    refine ⟨fun p hp => ?_, ?_⟩
    · obtain ⟨w, h1, k2, h2, h3⟩ := a1 p hp
      rw [e] at h2
      cases h2
      exact ⟨w, h1, h3⟩
    · rcases a3 with z | ⟨p, hp, w, z1, z2⟩
      · rw [e] at z; cases z
      · rw [e] at z2
        cases z2
        exact ⟨p, hp, w, z1, rfl⟩
theorem more_none {r o : Row} (hr : r ≠ []) (e : moreI r o = none) : ∃ p ∈ r, o.lookup p.1 = none := by
  unfold moreI at e
  cases e1 : r.foldlM (moreStep o) none with
  | none => exact moreF_none r none e1
  | some v =>
    rw [e1] at e
    have e : v = none := e
    obtain ⟨a1, _, _⟩ := moreF r none v e1
    cases r with
    | nil => exact absurd rfl hr
    | cons q r =>
      obtain ⟨w, h1, k2, h2, h3⟩ := a1 q List.mem_cons_self
      rw [e] at h2
      cases h2
/-- the nearest row -/
theorem nearF {form : Form} {row : Row} : ∀ (ns : List Nat) (b v : Option (Int × Int)), ns.foldl (nearStep form row) b = v → (v = none → b = none ∧ ∀ n ∈ ns, moreI (form.getD n []) row = none) ∧ (∀ c, v = some c → (∀ d, b = some d → c.2 ≤ d.2) ∧ (∀ n ∈ ns, ∀ m, moreI (form.getD n []) row = some m → c.2 ≤ m) ∧ (b = some c ∨ ∃ n ∈ ns, moreI (form.getD n []) row = some c.2))
  | [], b, v, e => by
    cases e
    exact ⟨fun e => ⟨e, fun n hn => by cases hn⟩, fun c e => ⟨fun d e2 => (by have e : b = some c := e; rw [e] at e2; cases e2; exact Int.le_refl _), fun n hn => (by cases hn), .inl e⟩⟩
  | n :: ns, b, v, e => by
    rw [List.foldl_cons] at e
    obtain ⟨a1, a2⟩ := nearF ns _ v e
    cases e1 : moreI (form.getD n []) row with
    | none =>
      have es : nearStep form row b n = b := by unfold nearStep; rw [e1]
      rw [es] at a1 a2
      refine ⟨fun z => ⟨(a1 z).1, fun k hk => ?_⟩, fun c ec => ⟨(a2 c ec).1, fun k hk m em => ?_, ?_⟩⟩
      · rcases List.mem_cons.mp hk with y | y
        · rw [y]; exact e1
        · exact (a1 z).2 k y
      · rcases List.mem_cons.mp hk with y | y
        · rw [y, e1] at em; cases em
        · exact (a2 c ec).2.1 k y m em
      · rcases (a2 c ec).2.2 with y | ⟨k, hk, y⟩
        · exact .inl y
        · exact .inr ⟨k, List.mem_cons_of_mem _ hk, y⟩
    | some m0 =>
      have es : ∃ d, nearStep form row b n = some d ∧ d.2 ≤ m0 ∧ (∀ d2, b = some d2 → d.2 ≤ d2.2) ∧ (b = some d ∨ d.2 = m0) := by
        unfold nearStep
        rw [e1]
        simp only
        cases b with
        | none => exact ⟨_, rfl, Int.le_refl _, fun d2 e => (by cases e), .inr rfl⟩
        | some b =>
          simp only
          split
          · exact ⟨_, rfl, Int.le_refl _, fun d2 e => (by cases e; simp only; omega), .inr rfl⟩
          · exact ⟨_, rfl, by omega, fun d2 e => (by cases e; exact Int.le_refl _), .inl rfl⟩
      obtain ⟨d, s1, s2, s3, s4⟩ := es
      rw [s1] at a1 a2
      refine ⟨fun z => (by have := (a1 z).1; cases this), fun c ec => ?_⟩
      obtain ⟨b1, b2, b3⟩ := a2 c ec
      refine ⟨fun d2 ed => Int.le_trans (b1 d rfl) (s3 d2 ed), fun k hk m em => ?_, ?_⟩
      · rcases List.mem_cons.mp hk with y | y
        · rw [y, e1] at em
          cases em
          exact Int.le_trans (b1 d rfl) s2
        · exact b2 k y m em
      · rcases b3 with y | ⟨k, hk, y⟩
        · cases y
          rcases s4 with x | x
          · exact .inl x
          · exact .inr ⟨n, List.mem_cons_self, by rw [e1, x]⟩
        · exact .inr ⟨k, List.mem_cons_of_mem _ hk, y⟩
theorem getD_mem {form : Form} {n : Nat} (h : n < form.length) : form.getD n [] ∈ form := by
  rw [List.getD_eq_getElem?_getD, List.getElem?_eq_getElem h]
  exact List.getElem_mem _
/-- far: each row of the one form lacks no less than the turns -/
theorem far_true {one : Form} {row : Row} {turns : Int} (h : farI one row turns = true) : ∀ r ∈ one, moreI r row = none ∨ ∃ m, moreI r row = some m ∧ turns ≤ m := by
  intro r hr
  obtain ⟨n, hn, e⟩ := List.getElem_of_mem hr
  have eg : one.getD n [] = r := by rw [List.getD_eq_getElem?_getD, List.getElem?_eq_getElem hn, e]; rfl
  have hm : n ∈ List.range one.length := List.mem_range.mpr hn
  obtain ⟨a1, a2⟩ := nearF (form := one) (row := row) (List.range one.length) none (nearI one row) rfl
  cases e1 : moreI r row with
  | none => exact .inl rfl
  | some m =>
    refine .inr ⟨m, rfl, ?_⟩
    unfold farI at h
    cases e2 : nearI one row with
    | none =>
      have := (a1 e2).2 n hm
      rw [eg, e1] at this
      cases this
    | some b =>
      rw [e2] at h
      have h : turns ≤ b.2 := by simpa using h
      have := (a2 b e2).2.1 n hm m (by rw [eg, e1])
      omega
theorem far_false {one : Form} {row : Row} {turns : Int} (h : farI one row turns = false) : ∃ r ∈ one, ∃ m, moreI r row = some m ∧ m < turns := by
  obtain ⟨a1, a2⟩ := nearF (form := one) (row := row) (List.range one.length) none (nearI one row) rfl
  unfold farI at h
  cases e2 : nearI one row with
  | none => rw [e2] at h; cases h
  | some b =>
    rw [e2] at h
    have h : b.2 < turns := by
      have : ¬ (turns ≤ b.2) := by simpa using h
      omega
    rcases (a2 b e2).2.2 with y | ⟨n, hn, y⟩
    · cases y
    · exact ⟨_, getD_mem (List.mem_range.mp hn), b.2, y, h⟩
theorem late_ge {turns : Int} : ∀ (one : Form) (l : Int), l ≤ one.foldl (fun l mine => mine.foldl (fun l p => max l (turns - p.2)) l) l ∧ ∀ r ∈ one, ∀ p ∈ r, turns - p.2 ≤ one.foldl (fun l mine => mine.foldl (fun l p => max l (turns - p.2)) l) l
  | [], l => ⟨Int.le_refl _, fun r hr => by cases hr⟩
  | r :: one, l => by
    have inner : ∀ (r : Row) (l : Int), l ≤ r.foldl (fun l p => max l (turns - p.2)) l ∧ ∀ p ∈ r, turns - p.2 ≤ r.foldl (fun l p => max l (turns - p.2)) l := by
      intro r
      induction r with
      | nil => intro l; exact ⟨Int.le_refl _, fun p hp => by cases hp⟩
      | cons q r ih =>
        intro l
        rw [List.foldl_cons]
        obtain ⟨a1, a2⟩ := ih (max l (turns - q.2))
        refine ⟨by omega, fun p hp => ?_⟩
        rcases List.mem_cons.mp hp with z | z
        · rw [z]; omega
        · exact a2 p z
    rw [List.foldl_cons]
    obtain ⟨a1, a2⟩ := late_ge one (r.foldl (fun l p => max l (turns - p.2)) l)
    obtain ⟨b1, b2⟩ := inner r l
    refine ⟨Int.le_trans b1 a1, fun r2 hr p hp => ?_⟩
    rcases List.mem_cons.mp hr with z | z
    · rw [z] at hp; exact Int.le_trans (b2 p hp) a1
    · exact a2 r2 z p hp
theorem hourF {m : Nat} {late : Int} : ∀ (row : Row) (hs : List Int), (row.map Prod.fst).Nodup → (∀ p ∈ row, 0 ≤ p.1 ∧ p.1 < hs.length) → (row.foldl hourStep hs).length = hs.length ∧ (∀ p ∈ row, hAt (row.foldl hourStep hs) p.1 = 0 - p.2) ∧ ∀ t : Int, 0 ≤ t → (∀ q ∈ row, q.1 ≠ t) → hAt (row.foldl hourStep hs) t = hAt hs t
  | [], hs, _, _ => ⟨rfl, fun p hp => (by cases hp), fun t _ _ => rfl⟩
  | q :: row, hs, hn, hb => by
    rw [List.foldl_cons]
    have hn2 := List.nodup_cons.mp hn
    have hl : (hourStep hs q).length = hs.length := by unfold hourStep; rw [List.length_set]
    obtain ⟨a1, a2, a3⟩ := hourF (m := m) (late := late) row (hourStep hs q) hn2.2 (fun p hp => by rw [hl]; exact hb p (List.mem_cons_of_mem _ hp))
    have hq := hb q List.mem_cons_self
    refine ⟨by rw [a1, hl], fun p hp => ?_, fun t h0 ht => ?_⟩
    · rcases List.mem_cons.mp hp with z | z
      · rw [z, a3 q.1 hq.1 (fun y hy e => hn2.1 (List.mem_map.mpr ⟨y, hy, e⟩))]
        unfold hAt hourStep
        rw [List.getD_eq_getElem?_getD, List.getElem?_set_self (by omega)]
        rfl
      · exact a2 p z
    · rw [a3 t h0 (fun y hy => ht y (List.mem_cons_of_mem _ hy))]
      have hne := ht q List.mem_cons_self
      unfold hAt hourStep
      rw [List.getD_eq_getElem?_getD, List.getD_eq_getElem?_getD, List.getElem?_set_ne (by omega)]
/-- hours given: the other is done at 0, the one is not ahead of the turns -/
theorem later_some {one other : Form} {turns : Int} {many : Nat} {hs : List Int} (ht : 0 ≤ turns) (ho : FormOk one) (ho2 : FormOk other) (k1 : KeysLt one many) (k2 : KeysLt other many) (e : laterI one other turns many = some hs) : hs.length = many ∧ formLe hs 0 other ∧ ∀ x, formLe hs x one → turns ≤ x := by
  unfold laterI at e
  cases e1 : other.find? fun row => farI one row turns with
  | none => rw [e1] at e; cases e
  | some row =>
    rw [e1] at e
    have e : hoursI one row turns many = hs := by simpa using e
    have hm := List.mem_of_find?_eq_some e1
    have hf := far_true (one := one) (row := row) (turns := turns) (List.find?_some (p := fun row => farI one row turns) e1)
    have ro := ho2.2 row hm
    have bl : (List.replicate ((many : Int).toNat) (lateI one turns)).length = many := by rw [List.length_replicate]; omega
    obtain ⟨a1, a2, a3⟩ := hourF (m := 0) (late := 0) row (List.replicate ((many : Int).toNat) (lateI one turns)) ro.1 (fun p hp => ⟨(ro.2.2 p hp).1, by rw [bl]; exact k2 row hm p hp⟩)
    have e : row.foldl hourStep (List.replicate ((many : Int).toNat) (lateI one turns)) = hs := e
    rw [e] at a1 a2 a3
    rw [bl] at a1
    obtain ⟨l1, l2⟩ := late_ge (turns := turns) one turns
    refine ⟨a1, ⟨row, hm, fun p hp => by rw [a2 p hp]; omega⟩, fun x ⟨r, hr, hx⟩ => ?_⟩
    rcases hf r hr with z | ⟨m, z1, z2⟩
    · obtain ⟨p, hp, hl⟩ := more_none (ho.2 r hr).2.1 z
      have hh := a3 p.1 ((ho.2 r hr).2.2 p hp).1 (fun q hq e => look_none hl q hq e)
      have hlt : p.1 < (many : Int) := k1 r hr p hp
      have h0 := ((ho.2 r hr).2.2 p hp).1
      have : hAt (List.replicate ((many : Int).toNat) (lateI one turns)) p.1 = lateI one turns := by
        unfold hAt
        rw [List.getD_eq_getElem?_getD, List.getElem?_replicate, if_pos (by omega)]
        rfl
      rw [this] at hh
      have := hx p hp
      have := l2 r hr p hp
      have : turns - p.2 ≤ lateI one turns := this
      omega
    · obtain ⟨_, p, hp, w, y1, y2⟩ := more_some z1
      have := a2 (p.1, w) (look_mem y1)
      simp only at this
      have := hx p hp
      omega
/-- none given: the one is never later -/
theorem later_none {one other : Form} {many : Int} {h : List Int} {x : Int} (e : laterI one other 1 many = none) (hx : formLe h x other) : formLe h x one := by
  unfold laterI at e
  have e : other.find? (fun row => farI one row 1) = none := by simpa using e
  obtain ⟨row, hr, hl⟩ := hx
  have := List.find?_eq_none.mp e row hr
  obtain ⟨r, hr1, m, h1, h2⟩ := far_false (one := one) (row := row) (turns := 1) (by simpa using this)
  refine ⟨r, hr1, fun p hp => ?_⟩
  obtain ⟨w, w1, w2⟩ := (more_some h1).1 p hp
  have := hl (p.1, w) (look_mem w1)
  simp only at this
  omega
theorem later_come {one other : Form} {many : Nat} {hs : List Int} {a b : Int} (ho : FormOk one) (ho2 : FormOk other) (k1 : KeysLt one many) (k2 : KeysLt other many) (e : laterI one other 1 many = some hs) (ca : Come one hs a) (cb : Come other hs b) : hs.length = many ∧ b < a := by
  obtain ⟨h1, h2, h3⟩ := later_some (by decide) ho ho2 k1 k2 e
  refine ⟨h1, ?_⟩
  have := (cb 0).mp h2
  have := h3 a ((ca a).mpr (Int.le_refl _))
  omega
theorem never_come {one other : Form} {many : Int} {h : List Int} {a b : Int} (e : laterI one other 1 many = none) (ca : Come one h a) (cb : Come other h b) : a ≤ b := (ca b).mp (later_none e ((cb b).mpr (Int.le_refl _)))
end K60
/-! text P1 -/
set_option Elab.async false
set_option linter.all false
set_option maxRecDepth 100000
set_option maxHeartbeats 4000000
namespace K60
open PySem PyProof.Rows Rl
open PySem.Spec hiding Row
open L2 (E0 XK Hp V atI ixN)
/-! ### the plans that are built -/
structure NmsGood (names : List Str) : Prop where
  ok : NmsOk names
  nd : names.Nodup
  nm : ∀ s ∈ names, isName s = true
theorem nmsGood (xs : List Int) : NmsGood (namesBy xs 26) := ⟨nmsOk xs, (namesBy_good xs (by decide)).1, (namesBy_good xs (by decide)).2.1⟩
theorem nm_inj {names : List Str} (h : names.Nodup) {i j : Nat} (hi : i < names.length) (hj : j < names.length) (e : nmAt names (i : Int) = nmAt names (j : Int)) : i = j := by
  unfold nmAt at e
  rw [List.getD_eq_getElem?_getD, List.getD_eq_getElem?_getD] at e
  have e1 : ((i : Int).toNat) = i := by omega
  have e2 : ((j : Int).toNat) = j := by omega
  rw [e1, e2, List.getElem?_eq_getElem hi, List.getElem?_eq_getElem hj] at e
  exact (List.getElem_inj h).mp e
theorem nm_in {names : List Str} {i : Nat} (hi : i < names.length) : nmAt names (i : Int) ∈ names := nmAt_mem (by omega) (by omega)
structure RowFit (pre : List MPlan) (ahead : Nat) (r : MRow) : Prop where
  it : ∀ q ∈ r.items, 0 ≤ q.1 ∧ q.1 < (ahead : Int) ∧ q.2.natAbs < 10 ^ 30
  how : plainHow r.how = true ∨ ∃ (j : Nat) (p : MPlan), pre[j]? = some p ∧ p.name = r.how ∧ p.givens.length = r.items.length
structure PlFit (names : List Str) (pre : List MPlan) (p : MPlan) : Prop where
  nm : p.name = nmAt names (pre.length : Int)
  nms : planNames p = (List.range (aheadOf p)).map fun (t : Nat) => nmAt names (((pre.length + 1 + t) % 26 : Nat) : Int)
  row : ∀ (k : Nat) (r : MRow), p.rows[k]? = some r → RowFit pre (p.givens.length + k) r
structure WFit (names : List Str) (n : Nat) (x : WS) : Prop where
  ws : WsIn n x
  pre : ∀ (k : Nat) (p : MPlan), x.1[k]? = some p → PlFit names (x.1.take k) p ∧ p.rows ≠ []
  la : PlFit names x.1 x.2.1
  ah : ∀ p ∈ x.1 ++ [x.2.1], aheadOf p ≤ 4 + n
  cnt : 2 * x.1.length + (if x.2.1.rows = [] then 0 else 1) ≤ n
  w1 : weightsI x.1 = (headsOf x.1).zip (x.2.2.take x.1.length)
  w2 : planWeight (weightsI x.1) x.2.1 = lastOfL x.2.2
  w3 : ∀ v ∈ x.2.2, v ≤ 100 + (n : Int)
theorem number_lt (cell : Int) : (numberBy cell).natAbs < 10 ^ 30 := by
  unfold numberBy
  have h1 : 0 ≤ cell / 3 % 10 ^ 30 := Int.emod_nonneg _ (by decide)
  have h2 : cell / 3 % 10 ^ 30 < 10 ^ 30 := Int.emod_lt_of_pos _ (by decide)
  split
  · decide
  · split
    · omega
    · omega
theorem item_fit (cell : Int) {ahead : Nat} (h : 0 < ahead) : 0 ≤ (itemBy cell ahead).1 ∧ (itemBy cell ahead).1 < (ahead : Int) ∧ (itemBy cell ahead).2.natAbs < 10 ^ 30 := ⟨Int.emod_nonneg _ (by omega), Int.emod_lt_of_pos _ (by omega), number_lt _⟩
theorem cut_map {names : List Str} : ∀ (m a : Nat), a + m ≤ names.length → (names.drop a).take m = (List.range m).map fun (t : Nat) => nmAt names ((a + t : Nat) : Int)
  | 0, a, _ => by simp
  | m + 1, a, h => by
    have ih := cut_map (names := names) m a (by omega)
    rw [List.range_succ, List.map_append, ← ih, List.take_succ, List.getElem?_drop]
    congr 1
    unfold nmAt
    have e : (((a + m : Nat) : Int)).toNat = a + m := by omega
    rw [List.map_singleton, e, List.getD_eq_getElem?_getD, List.getElem?_eq_getElem (by omega)]
    rfl
theorem weights_snoc (b : List MPlan) (p : MPlan) : weightsI (b ++ [p]) = weightsI b ++ [(p.name, planWeight (weightsI b) p)] := by
  unfold weightsI
  rw [List.foldl_append]
  rfl
theorem weight_rows (f : List (Str × Int)) (p : MPlan) (rows : List MRow) (r : MRow) (h : rows = p.rows) : planWeight f { p with rows := rows ++ [r] } = planWeight f p + rowWeight f r := by
  subst h
  unfold planWeight
  rw [List.foldl_append]
  rfl
theorem weight_hows (f : List (Str × Int)) : ∀ (a b : List MRow) (z : Int), a.map (·.how) = b.map (·.how) → a.foldl (fun t r => t + rowWeight f r) z = b.foldl (fun t r => t + rowWeight f r) z
  | [], [], _, _ => rfl
  | [], _ :: _, _, h => by simp at h
  | _ :: _, [], _, h => by simp at h
  | x :: a, y :: b, z, h => by
    have h0 : x.how = y.how ∧ a.map (·.how) = b.map (·.how) := by simpa using h
    have e : rowWeight f x = rowWeight f y := by unfold rowWeight; rw [h0.1]
    rw [List.foldl_cons, List.foldl_cons, e]
    exact weight_hows f a b _ h0.2
theorem zip_look : ∀ (hs : List Str) (vs : List Int) (j : Nat) (s : Str) (v : Int), hs.Nodup → hs[j]? = some s → vs[j]? = some v → (hs.zip vs).lookup s = some v
  | [], _, j, s, v, _, h, _ => by simp at h
  | _ :: _, [], j, s, v, _, _, h => by simp at h
  | h :: hs, w :: vs, 0, s, v, hn, e1, e2 => by
    have e1 : h = s := by simpa using e1
    have e2 : w = v := by simpa using e2
    subst e1 e2
    simp [List.lookup]
  | h :: hs, w :: vs, j + 1, s, v, hn, e1, e2 => by
    have hn2 := List.nodup_cons.mp hn
    have e1 : hs[j]? = some s := by simpa using e1
    have e2 : vs[j]? = some v := by simpa using e2
    have : s ≠ h := fun e => hn2.1 (by rw [← e]; exact List.mem_of_getElem? e1)
    have : (s == h) = false := by simpa using this
    rw [List.zip_cons_cons, List.lookup_cons, this]
    exact zip_look hs vs j s v hn2.2 e1 e2
theorem last_of {ls : List Int} (h : ls ≠ []) : ls = ls.take (ls.length - 1) ++ [lastOfL ls] := by
  have hl : 0 < ls.length := List.length_pos_iff.mpr h
  have := List.take_append_drop (ls.length - 1) ls
  have e : ls.drop (ls.length - 1) = [lastOfL ls] := by
    rw [List.drop_eq_getElem_cons (by omega)]
    have : ls.length - 1 + 1 = ls.length := by omega
    rw [this, List.drop_length]
    unfold lastOfL
    rw [List.getD_eq_getElem?_getD, List.getElem?_eq_getElem (by omega)]
    rfl
  rw [e] at this
  exact this.symm
theorem setLast_is {ls : List Int} (h : ls ≠ []) (v : Int) : setLast ls v = ls.take (ls.length - 1) ++ [v] := by
  have hl : 0 < ls.length := List.length_pos_iff.mpr h
  unfold setLast
  rw [List.set_eq_take_append_cons_drop, if_pos (by omega)]
  have : ls.length - 1 + 1 = ls.length := by omega
  rw [this, List.drop_length]
theorem setLast_last {ls : List Int} (h : ls ≠ []) (v : Int) : lastOfL (setLast ls v) = v := by
  have hl : 0 < ls.length := List.length_pos_iff.mpr h
  unfold lastOfL setLast
  rw [List.length_set, List.getD_eq_getElem?_getD, List.getElem?_set_self (by omega)]
  rfl
theorem setLast_take {ls : List Int} {n : Nat} (h : ls.length = n + 1) (v : Int) : (setLast ls v).take n = ls.take n := by
  unfold setLast
  rw [h]
  show (ls.set n v).take n = _
  exact List.take_set_of_le (Nat.le_refl _)
theorem setLast_at {ls : List Int} {n j : Nat} (h : ls.length = n + 1) (hj : j < n) (v : Int) : (setLast ls v)[j]? = ls[j]? := by
  unfold setLast
  rw [h, List.getElem?_set_ne (by omega)]
theorem setLast_mem {ls : List Int} {v w : Int} (h : w ∈ setLast ls v) : w = v ∨ w ∈ ls := by
  rcases List.mem_or_eq_of_mem_set h with q | q
  · exact .inr q
  · exact .inl q
theorem heads_at {names : List Str} {x : List MPlan} (h : ∀ (k : Nat) (p : MPlan), x[k]? = some p → PlFit names (x.take k) p ∧ p.rows ≠ []) {k : Nat} {p : MPlan} (e : x[k]? = some p) : p.name = nmAt names (k : Int) := by
  have hk := (List.getElem?_eq_some_iff.mp e).1
  have := (h k p e).1.nm
  rw [List.length_take, Nat.min_eq_left (by omega)] at this
  exact this
theorem heads_nodup {names : List Str} (hn : NmsGood names) {x : List MPlan} (hl : x.length ≤ 26) (h : ∀ (k : Nat) (p : MPlan), x[k]? = some p → p.name = nmAt names (k : Int)) : (headsOf x).Nodup := by
  unfold headsOf
  unfold List.Nodup
  rw [List.pairwise_iff_getElem]
  intro i j hi hj hij e
  rw [List.length_map] at hi hj
  rw [List.getElem_map, List.getElem_map] at e
  rw [h i _ (List.getElem?_eq_getElem hi), h j _ (List.getElem?_eq_getElem hj)] at e
  have := nm_inj hn.nd (by rw [hn.ok.1]; omega) (by rw [hn.ok.1]; omega) e
  omega
/-- a row more -/
theorem row_fit {names : List Str} (hn : NmsGood names) {n : Nat} {x : WS} (h : WFit names n x) (h18 : n ≤ 18) {what cell : Int} {z : Z3} {pp pl : Addr} : RowFit x.1 (aheadOf x.2.1) (rowBy (wk pp pl z x) names what cell).1 ∧ (rowBy (wk pp pl z x) names what cell).1.name = nmAt names (((x.1.length + 1 + aheadOf x.2.1) % 26 : Nat) : Int) ∧
    (rowBy (wk pp pl z x) names what cell).2.take x.1.length = x.2.2.take x.1.length ∧ lastOfL (rowBy (wk pp pl z x) names what cell).2 = lastOfL x.2.2 + rowWeight (weightsI x.1) (rowBy (wk pp pl z x) names what cell).1 ∧ ∀ v ∈ (rowBy (wk pp pl z x) names what cell).2, v ≤ 100 + ((n + 1 : Nat) : Int) := by
  have e : (wk pp pl z x).ps = x.1 ++ [x.2.1] := rfl
  have l : (wk pp pl z x).ps.length = x.1.length + 1 := by rw [e, List.length_append]; rfl
  have ll := h.ws.ll
  have lne : x.2.2 ≠ [] := fun q => by rw [q] at ll; cases ll
  have ap : 0 < aheadOf x.2.1 := by unfold aheadOf; have := h.ws.la.g1; omega
  have len := h.ws.len
  have en : nameAt (wk pp pl z x) names = nmAt names (((x.1.length + 1 + aheadOf x.2.1) % 26 : Nat) : Int) := by
    unfold nameAt
    rw [l, hn.ok.1]
    rfl
  have w3 := h.w3
  have wl : lastOfL x.2.2 ≤ 100 + (n : Int) := by
    refine w3 _ ?_
    have := last_of lne
    rw [this]
    exact List.mem_append.mpr (.inr (by rw [← this]; simp))
  have l1 : (loads1 (wk pp pl z x)) = setLast x.2.2 (lastOfL x.2.2 + 1) := rfl
  have l1l : (loads1 (wk pp pl z x)).length = x.1.length + 1 := by rw [loads1_len]; exact ll
  have l1ne : loads1 (wk pp pl z x) ≠ [] := fun q => by rw [q] at l1l; cases l1l
  have t1 : (loads1 (wk pp pl z x)).take x.1.length = x.2.2.take x.1.length := by rw [l1]; exact setLast_take ll _
  have last1 : lastOfL (loads1 (wk pp pl z x)) = lastOfL x.2.2 + 1 := by rw [l1]; exact setLast_last lne _
  have mem1 : ∀ v ∈ loads1 (wk pp pl z x), v ≤ 100 + ((n + 1 : Nat) : Int) := fun v hv => by
    rw [l1] at hv
    rcases setLast_mem hv with q | q
    · omega
    · have := w3 v q; omega
  unfold rowBy
  cases hp : isPart (wk pp pl z x) what with
  | false =>
    have hph : plainHow ((["all", "first"] : List Str).getD (what % 2).toNat "") = true := by
      have h1 : 0 ≤ what % 2 := Int.emod_nonneg _ (by decide)
      have h2 : what % 2 < 2 := Int.emod_lt_of_pos _ (by decide)
      generalize what % 2 = r at h1 h2
      have : r = 0 ∨ r = 1 := by omega
      rcases this with rfl | rfl <;> decide +kernel
    refine ⟨⟨fun q hq => ?_, .inl hph⟩, en, t1, ?_, mem1⟩
    · have hq : q = itemBy cell (aheadOf x.2.1) := by simpa [plainRow, wk] using hq
      rw [hq]
      exact item_fit cell ap
    · show lastOfL (loads1 (wk pp pl z x)) = _
      rw [last1]
      unfold rowWeight
      show _ = lastOfL x.2.2 + (1 + if plainHow ((["all", "first"] : List Str).getD (what % 2).toNat "") = true then 0 else _)
      rw [if_pos hph]
      omega
  | true =>
    unfold isPart at hp
    simp only [Bool.and_eq_true, decide_eq_true_eq, l] at hp
    obtain ⟨p1, p2, p3⟩ := hp
    have hix : partIx (wk pp pl z x) what < x.1.length := by
      unfold partIx
      rw [l]
      have h1 : 0 ≤ (what / 4) % (((x.1.length + 1 : Nat) : Int) - 1) := Int.emod_nonneg _ (by omega)
      have h2 : (what / 4) % (((x.1.length + 1 : Nat) : Int) - 1) < ((x.1.length + 1 : Nat) : Int) - 1 := Int.emod_lt_of_pos _ (by omega)
      omega
    have hx : x.1[partIx (wk pp pl z x) what]? = some (partPlan (wk pp pl z x) what) := by
      unfold partPlan
      rw [e, List.getD_eq_getElem?_getD, List.getElem?_append_left hix, List.getElem?_eq_getElem hix]
      rfl
    have hpn := heads_at h.pre hx
    have hnn : isName (partPlan (wk pp pl z x) what).name = true := by
      rw [hpn]
      exact hn.nm _ (nm_in (by rw [hn.ok.1]; omega))
    have hnp : plainHow (partPlan (wk pp pl z x) what).name = false := by
      cases hq : plainHow (partPlan (wk pp pl z x) what).name with
      | false => rfl
      | true =>
        have hw := (isName_facts hnn).word
        rcases plain_cases hq with e | e <;> exact absurd (by rw [e]; decide +kernel) hw
    refine ⟨⟨fun q hq => ?_, .inr ⟨_, _, hx, rfl, ?_⟩⟩, en, ?_, ?_, fun v hv => ?_⟩
    · have hq : q ∈ (List.range (partPlan (wk pp pl z x) what).givens.length).map fun (j : Nat) => itemBy (cell + 31 * (j : Int) * (j : Int)) (aheadOf x.2.1) := hq
      obtain ⟨j, _, rfl⟩ := List.mem_map.mp hq
      exact item_fit _ ap
    · show _ = ((List.range _).map _).length
      rw [List.length_map, List.length_range]
    · show (setLast (loads1 (wk pp pl z x)) (loadSum (wk pp pl z x) what)).take _ = _
      rw [setLast_take l1l, t1]
    · show lastOfL (setLast (loads1 (wk pp pl z x)) (loadSum (wk pp pl z x) what)) = _
      rw [setLast_last l1ne]
      unfold loadSum rowWeight
      rw [last1]
      show _ = lastOfL x.2.2 + (1 + if plainHow (partPlan (wk pp pl z x) what).name = true then 0 else ((weightsI x.1).lookup (partPlan (wk pp pl z x) what).name).getD 0)
      rw [hnp, if_neg Bool.false_ne_true, h.w1]
      have hj : (x.2.2.take x.1.length)[partIx (wk pp pl z x) what]? = some ((loads1 (wk pp pl z x)).getD (partIx (wk pp pl z x) what) 0) := by
        rw [List.getElem?_take_of_lt hix, List.getD_eq_getElem?_getD, l1, setLast_at ll hix, List.getElem?_eq_getElem (by omega)]
        rfl
      rw [zip_look _ _ _ _ _ (heads_nodup hn (by omega) fun k p q => heads_at h.pre q) (by unfold headsOf; rw [List.getElem?_map, hx]; rfl) hj]
      show _ = lastOfL x.2.2 + (1 + (loads1 (wk pp pl z x)).getD (partIx (wk pp pl z x) what) 0)
      omega
    · rcases setLast_mem (show v ∈ setLast (loads1 (wk pp pl z x)) (loadSum (wk pp pl z x) what) from hv) with q | q
      · omega
      · exact mem1 v q
end K60
/-! text P2 -/
set_option Elab.async false
set_option linter.all false
set_option maxRecDepth 100000
set_option maxHeartbeats 4000000
namespace K60
open PySem PyProof.Rows Rl
open PySem.Spec hiding Row
open L2 (E0 XK Hp V atI ixN)
theorem PlFit.rows_more {names : List Str} {pre : List MPlan} {p : MPlan} {r : MRow} (h : PlFit names pre p) (hr : RowFit pre (aheadOf p) r) (hn : r.name = nmAt names (((pre.length + 1 + aheadOf p) % 26 : Nat) : Int)) : PlFit names pre { p with rows := p.rows ++ [r] } where
  nm := h.nm
  nms := by
    have e1 : planNames { p with rows := p.rows ++ [r] } = planNames p ++ [r.name] := by
      unfold planNames
      rw [List.map_append, List.append_assoc]
      rfl
    have e2 : aheadOf { p with rows := p.rows ++ [r] } = aheadOf p + 1 := by
      show p.givens.length + (p.rows ++ [r]).length = p.givens.length + p.rows.length + 1
      rw [List.length_append, List.length_singleton]
      omega
    rw [e1, e2, List.range_succ, List.map_append, h.nms, hn]
    rfl
  row := fun k s hs => by
    have hs : (p.rows ++ [r])[k]? = some s := hs
    by_cases hk : k < p.rows.length
    · rw [List.getElem?_append_left hk] at hs
      exact h.row k s hs
    · have hl := (List.getElem?_eq_some_iff.mp hs).1
      rw [List.length_append, List.length_singleton] at hl
      have : k = p.rows.length := by omega
      subst this
      rw [List.getElem?_append_right (Nat.le_refl _), Nat.sub_self] at hs
      cases hs
      exact hr
theorem pre_push {names : List Str} {pre : List MPlan} {l : MPlan} (h : ∀ (k : Nat) (p : MPlan), pre[k]? = some p → PlFit names (pre.take k) p ∧ p.rows ≠ []) (hl : PlFit names pre l) (hr : l.rows ≠ []) : ∀ (k : Nat) (p : MPlan), (pre ++ [l])[k]? = some p → PlFit names ((pre ++ [l]).take k) p ∧ p.rows ≠ [] := fun k p e => by
  by_cases hk : k < pre.length
  · rw [List.getElem?_append_left hk] at e
    rw [List.take_append_of_le_length (by omega)]
    exact h k p e
  · have hl2 := (List.getElem?_eq_some_iff.mp e).1
    rw [List.length_append, List.length_singleton] at hl2
    have : k = pre.length := by omega
    subst this
    rw [List.getElem?_append_right (Nat.le_refl _), Nat.sub_self] at e
    cases e
    rw [List.take_append_of_le_length (Nat.le_refl _), List.take_length]
    exact ⟨hl, hr⟩
theorem zip_push {names : List Str} {n : Nat} {x : WS} (h : WFit names n x) (ls : List Int) : weightsI (x.1 ++ [x.2.1]) = (headsOf (x.1 ++ [x.2.1])).zip ((x.2.2 ++ ls).take (x.1.length + 1)) := by
  have ll := h.ws.ll
  have lne : x.2.2 ≠ [] := fun q => by rw [q] at ll; cases ll
  have e := last_of lne
  rw [ll, Nat.add_sub_cancel] at e
  rw [weights_snoc, h.w1, List.take_append_of_le_length (by omega)]
  have e3 : x.2.2.take (x.1.length + 1) = x.2.2 := by rw [← ll, List.take_length]
  rw [e3]
  have e2 : headsOf (x.1 ++ [x.2.1]) = headsOf x.1 ++ [x.2.1.name] := by unfold headsOf; rw [List.map_append]; rfl
  rw [e2]
  conv => rhs; rw [e]
  rw [List.zip_append (by unfold headsOf; rw [List.length_map, List.length_take, ll]; omega)]
  rw [← h.w1, h.w2]
  rfl
theorem grow_fit {names : List Str} (hn : NmsGood names) {n : Nat} {x : WS} (h : WFit names n x) (h17 : n ≤ 17) (what cell : Int) : WFit names (n + 1) (growW x names what cell) := by
  have ws := h.ws
  have hw : WsIn (n + 1) (growW x names what cell) := grow_in (pp := 0) (pl := 0) (z := (0, 0, 0)) ws hn.ok (by omega)
  have l : (wk 0 0 (0, 0, 0) x).ps.length = x.1.length + 1 := by show (x.1 ++ [x.2.1]).length = _; rw [List.length_append]; rfl
  have len := ws.len
  have cnt := h.cnt
  have nl := hn.ok.1
  have ah := h.ah
  have ahl : aheadOf x.2.1 ≤ 4 + n := ah _ (by simp)
  have up : ∀ p ∈ x.1, aheadOf p ≤ 4 + (n + 1) := fun p hp => by have := ah p (List.mem_append.mpr (.inl hp)); omega
  have upw : ∀ v ∈ x.2.2, v ≤ 100 + ((n + 1 : Nat) : Int) := fun v hv => by have := h.w3 v hv; omega
  unfold growW growI at hw ⊢
  by_cases cA : what % 8 = 0 ∧ x.2.1.rows ≠ []
  · rw [if_pos (show what % 8 = 0 ∧ (wk 0 0 (0, 0, 0) x).l.rows ≠ [] from cA)] at hw ⊢
    have cr : x.2.1.rows ≠ [] := cA.2
    rw [if_neg cr] at cnt
    have cm : 0 ≤ cell % 4 ∧ cell % 4 < 4 := ⟨Int.emod_nonneg _ (by decide), Int.emod_lt_of_pos _ (by decide)⟩
    have m4 : (1 + cell % 4).toNat ≤ 4 := by omega
    have cl : cutNames names (wk 0 0 (0, 0, 0) x).ps.length (1 + cell % 4).toNat = (List.range (1 + cell % 4).toNat).map fun (t : Nat) => nmAt names (((x.1.length + 1 + 1 + t) % 26 : Nat) : Int) := by
      unfold cutNames
      rw [l, cut_map _ _ (by omega)]
      refine List.map_congr_left fun t ht => ?_
      have := List.mem_range.mp ht
      congr 2
      omega
    have cll : (cutNames names (wk 0 0 (0, 0, 0) x).ps.length (1 + cell % 4).toNat).length = (1 + cell % 4).toNat := by rw [cl, List.length_map, List.length_range]
    have an : aheadOf (⟨nmAt names (wk 0 0 (0, 0, 0) x).ps.length, cutNames names (wk 0 0 (0, 0, 0) x).ps.length (1 + cell % 4).toNat, []⟩ : MPlan) = (1 + cell % 4).toNat := by
      unfold aheadOf
      rw [cll]; rfl
    have el : (x.1 ++ [x.2.1]).length = x.1.length + 1 := by rw [List.length_append]; rfl
    refine ⟨hw, pre_push h.pre h.la cr, ⟨?_, ?_, fun k r hr => by cases hr⟩, fun p hp => ?_, ?_, ?_, ?_, fun v hv => ?_⟩
    · show nmAt names _ = nmAt names ((x.1 ++ [x.2.1]).length : Int)
      rfl
    · rw [an]
      unfold planNames
      show _ ++ [] = _
      rw [List.append_nil, cl]
      show _ = (List.range _).map fun (t : Nat) => nmAt names ((((x.1 ++ [x.2.1]).length + 1 + t) % 26 : Nat) : Int)
      rw [el]
    · rcases List.mem_append.mp hp with q | q
      · have := ah p q; omega
      · rw [List.mem_singleton.mp q, an]; omega
    · show 2 * (x.1 ++ [x.2.1]).length + (if ([] : List MRow) = [] then 0 else 1) ≤ n + 1
      rw [el, if_pos rfl]; omega
    · show weightsI (x.1 ++ [x.2.1]) = (headsOf (x.1 ++ [x.2.1])).zip ((x.2.2 ++ [0]).take (x.1 ++ [x.2.1]).length)
      rw [el]; exact zip_push h [0]
    · show (0 : Int) = lastOfL (x.2.2 ++ [0])
      unfold lastOfL
      rw [List.length_append, List.length_singleton, List.getD_eq_getElem?_getD, List.getElem?_append_right (by omega)]
      simp
    · have hv : v ∈ x.2.2 ++ [0] := hv
      rcases List.mem_append.mp hv with q | q
      · exact upw v q
      · rw [List.mem_singleton.mp q]; omega
  · rw [if_neg (show ¬ (what % 8 = 0 ∧ (wk 0 0 (0, 0, 0) x).l.rows ≠ []) from cA)] at hw ⊢
    by_cases cB : what % 8 = 1 ∧ x.2.1.rows = [] ∧ x.2.1.givens.length < 12
    · rw [if_pos (show what % 8 = 1 ∧ (wk 0 0 (0, 0, 0) x).l.rows = [] ∧ (wk 0 0 (0, 0, 0) x).l.givens.length < 12 from cB)] at hw ⊢
      have cr : x.2.1.rows = [] := cB.2.1
      have ea : aheadOf x.2.1 = x.2.1.givens.length := by unfold aheadOf; rw [cr]; rfl
      have ea2 : aheadOf { x.2.1 with givens := x.2.1.givens ++ [nmAt names ((((wk 0 0 (0, 0, 0) x).ps.length + x.2.1.givens.length) % names.length : Nat) : Int)] } = aheadOf x.2.1 + 1 := by
        show (x.2.1.givens ++ [_]).length + x.2.1.rows.length = x.2.1.givens.length + x.2.1.rows.length + 1
        rw [List.length_append, List.length_singleton]
        omega
      refine ⟨hw, h.pre, ⟨h.la.nm, ?_, fun k r hr => ?_⟩, fun p hp => ?_, ?_, h.w1, h.w2, upw⟩
      · show planNames { x.2.1 with givens := x.2.1.givens ++ [nmAt names ((((wk 0 0 (0, 0, 0) x).ps.length + x.2.1.givens.length) % names.length : Nat) : Int)] } = (List.range (aheadOf { x.2.1 with givens := x.2.1.givens ++ [nmAt names ((((wk 0 0 (0, 0, 0) x).ps.length + x.2.1.givens.length) % names.length : Nat) : Int)] })).map fun (t : Nat) => nmAt names (((x.1.length + 1 + t) % 26 : Nat) : Int)
        rw [ea2, List.range_succ, List.map_append, ← h.la.nms]
        unfold planNames
        show (x.2.1.givens ++ [_]) ++ x.2.1.rows.map _ = (x.2.1.givens ++ x.2.1.rows.map _) ++ _
        rw [cr, l, nl, ea]
        simp
      · have hr : x.2.1.rows[k]? = some r := hr
        rw [cr] at hr
        cases hr
      · rcases List.mem_append.mp hp with q | q
        · exact up p q
        · rw [List.mem_singleton.mp q]
          show aheadOf { x.2.1 with givens := x.2.1.givens ++ [nmAt names ((((wk 0 0 (0, 0, 0) x).ps.length + x.2.1.givens.length) % names.length : Nat) : Int)] } ≤ _
          rw [ea2]; omega
      · show 2 * x.1.length + (if x.2.1.rows = [] then 0 else 1) ≤ n + 1
        omega
    · rw [if_neg (show ¬ (what % 8 = 1 ∧ (wk 0 0 (0, 0, 0) x).l.rows = [] ∧ (wk 0 0 (0, 0, 0) x).l.givens.length < 12) from cB)] at hw ⊢
      by_cases cC : what % 8 > 3 ∧ x.2.1.rows ≠ [] ∧ plainHow (lastRow x.2.1.rows).how = true
      · rw [if_pos (show what % 8 > 3 ∧ (wk 0 0 (0, 0, 0) x).l.rows ≠ [] ∧ plainHow (lastRow (wk 0 0 (0, 0, 0) x).l.rows).how = true from cC)] at hw ⊢
        have cr : x.2.1.rows ≠ [] := cC.2.1
        have rp : 0 < x.2.1.rows.length := List.length_pos_iff.mpr cr
        have hl : x.2.1.rows[x.2.1.rows.length - 1]? = some (lastRow x.2.1.rows) := by
          unfold lastRow
          rw [List.getLastD_eq_getLast?, List.getLast?_eq_getElem?, List.getElem?_eq_getElem (by omega)]
          rfl
        have en : (x.2.1.rows.set (x.2.1.rows.length - 1) (lastItem (wk 0 0 (0, 0, 0) x) cell)).map (·.name) = x.2.1.rows.map (·.name) := by
          rw [List.map_set]
          show (x.2.1.rows.map (·.name)).set _ (lastRow x.2.1.rows).name = _
          apply List.ext_getElem?
          intro i
          by_cases hi : x.2.1.rows.length - 1 = i
          · subst hi
            rw [List.getElem?_set_self (by rw [List.length_map]; omega), List.getElem?_map, hl]; rfl
          · rw [List.getElem?_set_ne hi]
        have eh : (x.2.1.rows.set (x.2.1.rows.length - 1) (lastItem (wk 0 0 (0, 0, 0) x) cell)).map (·.how) = x.2.1.rows.map (·.how) := by
          rw [List.map_set]
          show (x.2.1.rows.map (·.how)).set _ (lastRow x.2.1.rows).how = _
          apply List.ext_getElem?
          intro i
          by_cases hi : x.2.1.rows.length - 1 = i
          · subst hi
            rw [List.getElem?_set_self (by rw [List.length_map]; omega), List.getElem?_map, hl]; rfl
          · rw [List.getElem?_set_ne hi]
        have ea : aheadOf { x.2.1 with rows := x.2.1.rows.set (x.2.1.rows.length - 1) (lastItem (wk 0 0 (0, 0, 0) x) cell) } = aheadOf x.2.1 := by
          unfold aheadOf
          rw [List.length_set]
        refine ⟨hw, h.pre, ⟨h.la.nm, ?_, fun k r hr => ?_⟩, fun p hp => ?_, ?_, h.w1, ?_, upw⟩
        · show planNames { x.2.1 with rows := x.2.1.rows.set (x.2.1.rows.length - 1) (lastItem (wk 0 0 (0, 0, 0) x) cell) } = (List.range (aheadOf { x.2.1 with rows := x.2.1.rows.set (x.2.1.rows.length - 1) (lastItem (wk 0 0 (0, 0, 0) x) cell) })).map fun (t : Nat) => nmAt names (((x.1.length + 1 + t) % 26 : Nat) : Int)
          rw [ea, ← h.la.nms]
          unfold planNames
          rw [en]
        · have hr : (x.2.1.rows.set (x.2.1.rows.length - 1) (lastItem (wk 0 0 (0, 0, 0) x) cell))[k]? = some r := hr
          by_cases hi : x.2.1.rows.length - 1 = k
          · subst hi
            rw [List.getElem?_set_self (by omega)] at hr
            cases hr
            have old := h.la.row _ _ hl
            refine ⟨fun q hq => ?_, .inl cC.2.2⟩
            have hq : q ∈ (lastRow x.2.1.rows).items ++ [itemBy cell (aheadOf x.2.1 - 1)] := hq
            rcases List.mem_append.mp hq with z | z
            · exact old.it q z
            · rw [List.mem_singleton.mp z]
              have g1 := ws.la.g1
              have e2 : aheadOf x.2.1 - 1 = x.2.1.givens.length + (x.2.1.rows.length - 1) := by unfold aheadOf; omega
              have := item_fit cell (ahead := aheadOf x.2.1 - 1) (by unfold aheadOf; omega)
              rw [e2] at this ⊢
              exact this
          · rw [List.getElem?_set_ne hi] at hr
            exact h.la.row k r hr
        · rcases List.mem_append.mp hp with q | q
          · exact up p q
          · rw [List.mem_singleton.mp q]
            show aheadOf { x.2.1 with rows := x.2.1.rows.set (x.2.1.rows.length - 1) (lastItem (wk 0 0 (0, 0, 0) x) cell) } ≤ _
            rw [ea]; omega
        · show 2 * x.1.length + (if x.2.1.rows.set (x.2.1.rows.length - 1) (lastItem (wk 0 0 (0, 0, 0) x) cell) = [] then 0 else 1) ≤ n + 1
          rw [if_neg (fun q => by have := congrArg List.length q; rw [List.length_set] at this; have : x.2.1.rows.length = 0 := this; omega)]
          rw [if_neg cr] at cnt
          omega
        · show planWeight (weightsI x.1) { x.2.1 with rows := _ } = lastOfL x.2.2
          rw [← h.w2]
          exact weight_hows _ _ _ 0 eh
      · rw [if_neg (show ¬ (what % 8 > 3 ∧ (wk 0 0 (0, 0, 0) x).l.rows ≠ [] ∧ plainHow (lastRow (wk 0 0 (0, 0, 0) x).l.rows).how = true) from cC)] at hw ⊢
        obtain ⟨f1, f2, f3, f4, f5⟩ := row_fit hn h (by omega) (what := what / 8) (cell := cell) (z := (0, 0, 0)) (pp := 0) (pl := 0)
        generalize rowBy (wk 0 0 (0, 0, 0) x) names (what / 8) cell = rb at hw f1 f2 f3 f4 f5 ⊢
        have ea : aheadOf { x.2.1 with rows := x.2.1.rows ++ [rb.1] } = aheadOf x.2.1 + 1 := by
          show x.2.1.givens.length + (x.2.1.rows ++ [rb.1]).length = x.2.1.givens.length + x.2.1.rows.length + 1
          rw [List.length_append, List.length_singleton]
          omega
        refine ⟨hw, h.pre, h.la.rows_more f1 f2, fun p hp => ?_, ?_, ?_, ?_, f5⟩
        · rcases List.mem_append.mp hp with q | q
          · exact up p q
          · rw [List.mem_singleton.mp q]
            show aheadOf { x.2.1 with rows := x.2.1.rows ++ [rb.1] } ≤ _
            rw [ea]; omega
        · show 2 * x.1.length + (if x.2.1.rows ++ [rb.1] = [] then 0 else 1) ≤ n + 1
          rw [if_neg (by simp)]
          by_cases cr : x.2.1.rows = []
          · rw [if_pos cr] at cnt; omega
          · rw [if_neg cr] at cnt; omega
        · show weightsI x.1 = (headsOf x.1).zip (rb.2.take x.1.length)
          rw [f3]; exact h.w1
        · show planWeight (weightsI x.1) { x.2.1 with rows := x.2.1.rows ++ [rb.1] } = lastOfL rb.2
          rw [weight_rows _ _ _ _ rfl, h.w2, f4]
end K60
/-! text P3 -/
set_option Elab.async false
set_option linter.all false
set_option maxRecDepth 100000
set_option maxHeartbeats 4000000
namespace K60
open PySem PyProof.Rows Rl
open PySem.Spec hiding Row
open L2 (E0 XK Hp V atI ixN)
structure Built (names : List Str) (ps : List MPlan) : Prop where
  ne : ps ≠ []
  few : ps.length ≤ 10
  pl : ∀ (k : Nat) (p : MPlan), ps[k]? = some p → PlFit names (ps.take k) p ∧ p.rows ≠ []
  pi : ∀ p ∈ ps, PlIn 19 p
  ah : ∀ p ∈ ps, aheadOf p ≤ 23
  wt : ∀ q ∈ weightsI ps, q.2 ≤ 2000
theorem built_of {names : List Str} {n : Nat} {x : WS} (h : WFit names n x) (hn : n ≤ 19) (hr : x.2.1.rows ≠ []) : Built names (x.1 ++ [x.2.1]) where
  ne := by simp
  few := by
    have := h.cnt
    rw [if_neg hr] at this
    rw [List.length_append, List.length_singleton]
    omega
  pl := pre_push h.pre h.la hr
  pi := fun p hp => (h.ws.all p hp).up hn
  ah := fun p hp => by have := h.ah p hp; omega
  wt := fun q hq => by
    rw [zip_push h []] at hq
    have h2 := (List.of_mem_zip (a := q.1) (b := q.2) hq).2
    rw [List.append_nil] at h2
    have := h.w3 _ (List.mem_of_mem_take h2)
    omega
theorem start_fit (xs : List Int) {names : List Str} (hn : NmsGood names) : WFit names 0 (start xs names) := by
  have cm : 0 ≤ manyOf xs ∧ manyOf xs < 4 := ⟨Int.emod_nonneg _ (by decide), Int.emod_lt_of_pos _ (by decide)⟩
  have nl := hn.ok.1
  have gc : (names.drop 1).take (1 + manyOf xs).toNat = (List.range (1 + manyOf xs).toNat).map fun (t : Nat) => nmAt names (((0 + 1 + t) % 26 : Nat) : Int) := by
    rw [cut_map _ _ (by omega)]
    refine List.map_congr_left fun t ht => ?_
    have := List.mem_range.mp ht
    congr 2
    omega
  have gl : ((names.drop 1).take (1 + manyOf xs).toNat).length = (1 + manyOf xs).toNat := by rw [gc, List.length_map, List.length_range]
  have ea : aheadOf (start xs names).2.1 = (1 + manyOf xs).toNat := by
    show ((names.drop 1).take (1 + manyOf xs).toNat).length + 0 = _
    rw [gl]; rfl
  refine ⟨start_in xs hn.ok, fun k p e => ?_, ⟨rfl, ?_, fun k r hr => by cases hr⟩, fun p hp => ?_, Nat.le_refl _, rfl, rfl, fun v hv => ?_⟩
  · cases e
  · rw [ea]
    show ((names.drop 1).take (1 + manyOf xs).toNat) ++ [] = _
    rw [List.append_nil, gc]
    rfl
  · have : p = (start xs names).2.1 := by
      rcases List.mem_append.mp hp with q | q
      · cases q
      · exact List.mem_singleton.mp q
    rw [this, ea]
    omega
  · have : v = 0 := List.mem_singleton.mp hv
    rw [this]; decide
theorem grows_fit (xs : List Int) {names : List Str} (hn : NmsGood names) : ∀ n, n ≤ 18 → WFit names n (growsW xs names n)
  | 0, _ => start_fit xs hn
  | n + 1, h => grow_fit hn (grows_fit xs hn n (by omega)) (by omega) _ _
theorem more_fit {names : List Str} (hn : NmsGood names) {n : Nat} {x : WS} (h : WFit names n x) (h18 : n ≤ 18) (hr0 : x.2.1.rows = []) (what cell : Int) : WFit names (n + 1) (x.1, { x.2.1 with rows := [(rowBy (wk 0 0 (0, 0, 0) x) names what cell).1] }, (rowBy (wk 0 0 (0, 0, 0) x) names what cell).2) := by
  obtain ⟨f1, f2, f3, f4, f5⟩ := row_fit hn h h18 (what := what) (cell := cell) (z := (0, 0, 0)) (pp := 0) (pl := 0)
  have q := row_in (pp := 0) (pl := 0) (z := (0, 0, 0)) (what := what) (cell := cell) h.ws hn.ok
  generalize rowBy (wk 0 0 (0, 0, 0) x) names what cell = rb at q f1 f2 f3 f4 f5 ⊢
  have e0 : ({ x.2.1 with rows := [rb.1] } : MPlan) = { x.2.1 with rows := x.2.1.rows ++ [rb.1] } := by rw [hr0]; rfl
  rw [e0]
  have ws := h.ws
  have len := ws.len
  have cnt := h.cnt
  have ea : aheadOf { x.2.1 with rows := x.2.1.rows ++ [rb.1] } = aheadOf x.2.1 + 1 := by
    show x.2.1.givens.length + (x.2.1.rows ++ [rb.1]).length = x.2.1.givens.length + x.2.1.rows.length + 1
    rw [List.length_append, List.length_singleton]
    omega
  refine ⟨⟨Nat.le_succ_of_le len, by show rb.2.length = _; rw [q.2]; exact ws.ll, fun p hp => (ws.pr p hp).up (Nat.le_succ n), ws.la.of_rows ?_ fun r hr => ?_⟩, h.pre, h.la.rows_more f1 f2, fun p hp => ?_, ?_, ?_, ?_, f5⟩
  · rw [List.length_append, List.length_singleton]
    have := ws.la.rw
    omega
  · rcases List.mem_append.mp hr with z | z
    · have z := ws.la.it r z
      exact ⟨z.1, z.2.1, by have := z.2.2; omega⟩
    · rw [List.mem_singleton.mp z]
      exact ⟨q.1.1, q.1.2.1, by have := q.1.2.2; omega⟩
  · rcases List.mem_append.mp hp with z | z
    · have := h.ah p (List.mem_append.mpr (.inl z)); omega
    · rw [List.mem_singleton.mp z]
      show aheadOf { x.2.1 with rows := x.2.1.rows ++ [rb.1] } ≤ _
      rw [ea]
      have := h.ah x.2.1 (by simp)
      omega
  · show 2 * x.1.length + (if x.2.1.rows ++ [rb.1] = [] then 0 else 1) ≤ n + 1
    rw [if_neg (by simp)]
    rw [if_pos hr0] at cnt
    omega
  · show weightsI x.1 = (headsOf x.1).zip (rb.2.take x.1.length)
    rw [f3]; exact h.w1
  · show planWeight (weightsI x.1) { x.2.1 with rows := x.2.1.rows ++ [rb.1] } = lastOfL rb.2
    rw [weight_rows _ _ _ _ rfl, h.w2, f4]
theorem plans_built (xs : List Int) : Built (namesBy xs 26) (plansBy xs) := by
  have hn := nmsGood xs
  have ht := turns_le xs
  have w := grows_fit xs hn (turnsOf xs) ht
  unfold plansBy
  generalize growsW xs (namesBy xs 26) (turnsOf xs) = x at w ⊢
  unfold closeW
  by_cases hr : x.2.1.rows = []
  · rw [if_pos hr]
    exact built_of (more_fit hn w ht hr 0 0) (by omega) (fun z => by cases z)
  · rw [if_neg hr]
    exact built_of w (by omega) hr
end K60
/-! text P4 -/
set_option Elab.async false
set_option linter.all false
set_option maxRecDepth 100000
set_option maxHeartbeats 4000000
namespace K60
open PySem PyProof.Rows Rl
open PySem.Spec hiding Row
open L2 (E0 XK Hp V atI ixN)
/-! ### what the built plans are -/
theorem name_plain {s : Str} (h : isName s = true) : plainHow s = false := by
  cases hq : plainHow s with
  | false => rfl
  | true =>
    have hw := (isName_facts h).word
    rcases plain_cases hq with e | e <;> exact absurd (by rw [e]; decide +kernel) hw
theorem take_at {ps : List MPlan} {k j : Nat} {p : MPlan} (h : (ps.take k)[j]? = some p) : j < k ∧ ps[j]? = some p := by
  have hl := (List.getElem?_eq_some_iff.mp h).1
  rw [List.length_take] at hl
  have hk : j < k := by omega
  rw [List.getElem?_take_of_lt hk] at h
  exact ⟨hk, h⟩
section
variable {names : List Str} (hn : NmsGood names) {ps : List MPlan} (h : Built names ps)
include hn h
theorem bt_name {k : Nat} {p : MPlan} (e : ps[k]? = some p) : p.name = nmAt names (k : Int) := heads_at h.pl e
theorem bt_lt {k : Nat} {p : MPlan} (e : ps[k]? = some p) : k < 10 := by
  have := (List.getElem?_eq_some_iff.mp e).1
  have := h.few
  omega
theorem bt_isname {k : Nat} {p : MPlan} (e : ps[k]? = some p) : isName p.name = true := by
  rw [bt_name hn h e]
  have := bt_lt hn h e
  exact hn.nm _ (nm_in (by rw [hn.ok.1]; omega))
theorem bt_nodup : (headsOf ps).Nodup := heads_nodup hn (by have := h.few; omega) fun k p e => bt_name hn h e
theorem bt_nms {k : Nat} {p : MPlan} (e : ps[k]? = some p) : planNames p = (List.range (aheadOf p)).map fun (t : Nat) => nmAt names (((k + 1 + t) % 26 : Nat) : Int) := by
  have hk := (List.getElem?_eq_some_iff.mp e).1
  have := (h.pl k p e).1.nms
  rw [List.length_take, Nat.min_eq_left (by omega)] at this
  exact this
theorem bt_nmsin {k : Nat} {p : MPlan} (e : ps[k]? = some p) : ∀ s ∈ planNames p, s ∈ names := fun s hs => by
  rw [bt_nms hn h e] at hs
  obtain ⟨t, _, rfl⟩ := List.mem_map.mp hs
  exact nm_in (by rw [hn.ok.1]; omega)
theorem bt_nmsnd {k : Nat} {p : MPlan} (e : ps[k]? = some p) : (planNames p).Nodup := by
  rw [bt_nms hn h e]
  have ha := h.ah p (List.mem_of_getElem? e)
  unfold List.Nodup
  rw [List.pairwise_map]
  refine List.Pairwise.imp_of_mem (fun {a b} h1 h2 hne he => hne ?_) List.nodup_range
  have h1 := List.mem_range.mp h1
  have h2 := List.mem_range.mp h2
  have := nm_inj hn.nd (by rw [hn.ok.1]; omega) (by rw [hn.ok.1]; omega) he
  omega
theorem bt_len {p : MPlan} : (planNames p).length = aheadOf p := by
  unfold planNames aheadOf
  rw [List.length_append, List.length_map]
theorem bt_row {k : Nat} {p : MPlan} (e : ps[k]? = some p) {j : Nat} {r : MRow} (er : p.rows[j]? = some r) : r.items ≠ [] ∧ r.items.length ≤ 40 ∧ (∀ q ∈ r.items, 0 ≤ q.1 ∧ q.1 < ((p.givens.length + j : Nat) : Int) ∧ q.2.natAbs < 10 ^ 30) ∧
    (plainHow r.how = true ∨ ∃ (i : Nat) (q : MPlan), i < k ∧ ps[i]? = some q ∧ q.name = r.how ∧ q.givens.length = r.items.length ∧ plainHow r.how = false) := by
  have pi := (h.pi p (List.mem_of_getElem? e)).it r (List.mem_of_getElem? er)
  have rf := (h.pl k p e).1.row j r er
  refine ⟨pi.2.1, by have := pi.2.2; omega, rf.it, ?_⟩
  rcases rf.how with z | ⟨i, q, h1, h2, h3⟩
  · exact .inl z
  · obtain ⟨h4, h5⟩ := take_at h1
    exact .inr ⟨i, q, h4, h5, h2, h3, by rw [← h2]; exact name_plain (bt_isname hn h h5)⟩
theorem bt_good : BookGood ps where
  nd := bt_nodup hn h
  plan := fun k p e => by
    have pi := h.pi p (List.mem_of_getElem? e)
    refine ⟨pi.g1, pi.g2, (h.pl k p e).2, by have := pi.rw; omega, fun j r er => ?_⟩
    obtain ⟨a1, a2, a3, a4⟩ := bt_row hn h e er
    refine ⟨a1, a2, fun q hq => ⟨(a3 q hq).1, (a3 q hq).2.1⟩, ?_⟩
    rcases a4 with z | ⟨i, q, b1, b2, b3, b4, b5⟩
    · rcases plain_cases z with z | z
      · exact .inl z
      · exact .inr (.inl z)
    · exact .inr (.inr ⟨i, q, b1, b2, b3, b4, fun z => (by rw [z] at b5; revert b5; decide +kernel), fun z => (by rw [z] at b5; revert b5; decide +kernel)⟩)
theorem bt_hlen {k : Nat} {p : MPlan} (e : ps[k]? = some p) {j : Nat} {r : MRow} (er : p.rows[j]? = some r) : HowOk r.how ∧ r.how.length ≤ 12 := by
  obtain ⟨a1, a2, a3, a4⟩ := bt_row hn h e er
  have ho : HowOk r.how := by
    rcases a4 with z | ⟨i, q, b1, b2, b3, b4, b5⟩
    · exact .inl z
    · exact .inr (by rw [← b3]; exact bt_isname hn h b2)
  exact ⟨ho, (how_free ho).2⟩
theorem bt_pos {k : Nat} {p : MPlan} (e : ps[k]? = some p) {j : Nat} {r : MRow} (er : p.rows[j]? = some r) : ∀ q ∈ r.items, PosItem (planNames p) q := fun q hq => by
  obtain ⟨a1, a2, a3, a4⟩ := bt_row hn h e er
  have b := a3 q hq
  have hj := (List.getElem?_eq_some_iff.mp er).1
  refine ⟨b.1, ?_, b.2.2, fun s hs => (isName_facts (hn.nm s (bt_nmsin hn h e s hs))).len⟩
  rw [bt_len hn h]
  unfold aheadOf
  omega
theorem recs_len : ∀ (qs : List MPlan), (∀ p ∈ qs, aheadOf p ≤ 23) → (recsAll qs).length ≤ qs.length * 24
  | [], _ => Nat.le_refl _
  | p :: qs, hp => by
    have ih := recs_len qs fun q hq => hp q (List.mem_cons_of_mem _ hq)
    have := hp p List.mem_cons_self
    unfold recsAll at ih ⊢
    rw [List.flatMap_cons, List.length_append, List.length_cons]
    unfold recsOf aheadOf at *
    rw [List.length_cons, List.length_append, List.length_map, List.length_map]
    omega
theorem bt_few : (recsAll ps).length ≤ 240 := by
  have := recs_len hn h ps h.ah
  have := h.few
  omega
theorem bt_text : TextPre ps where
  few := by have := bt_few hn h; omega
  pl := fun p hp => by
    obtain ⟨k, e⟩ := List.mem_iff_getElem?.mp hp
    have pi := h.pi p hp
    refine ⟨(isName_facts (bt_isname hn h e)).len, fun s hs => (isName_facts (hn.nm s (bt_nmsin hn h e s hs))).len, ⟨by have := pi.rw; omega, by have := pi.g2; omega⟩, fun r hr => ?_⟩
    obtain ⟨j, er⟩ := List.mem_iff_getElem?.mp hr
    obtain ⟨a1, a2, a3, a4⟩ := bt_row hn h e er
    exact ⟨a2, (bt_hlen hn h e er).2, bt_pos hn h e er⟩
theorem bt_rec : ∀ r ∈ recsAll ps, RecOk r := fun r hr => by
  obtain ⟨p, hp, hr⟩ := List.mem_flatMap.mp hr
  obtain ⟨k, e⟩ := List.mem_iff_getElem?.mp hp
  have nin : ∀ s ∈ planNames p, isName s = true := fun s hs => hn.nm s (bt_nmsin hn h e s hs)
  unfold recsOf at hr
  rcases List.mem_cons.mp hr with z | z
  · rw [z]; exact bt_isname hn h e
  · rcases List.mem_append.mp z with z | z
    · obtain ⟨g, hg, rfl⟩ := List.mem_map.mp z
      exact nin g (List.mem_append.mpr (.inl hg))
    · obtain ⟨m, hm, rfl⟩ := List.mem_map.mp z
      obtain ⟨j, er⟩ := List.mem_iff_getElem?.mp hm
      obtain ⟨a1, a2, a3, a4⟩ := bt_row hn h e er
      refine ⟨nin _ (List.mem_append.mpr (.inr (List.mem_map.mpr ⟨m, hm, rfl⟩))), (bt_hlen hn h e er).1, ⟨fun q => a1 (List.map_eq_nil_iff.mp q), by rw [List.length_map]; exact a2, fun q hq => ?_⟩⟩
      obtain ⟨i, hi, rfl⟩ := List.mem_map.mp hq
      have ps := bt_pos hn h e er i hi
      exact ⟨nin _ (nmAt_mem ps.h0 ps.h1), ps.wt⟩
end
end K60
/-! text P5 -/
set_option Elab.async false
set_option linter.all false
set_option maxRecDepth 100000
set_option maxHeartbeats 4000000
namespace K60
open PySem PyProof.Rows Rl
open PySem.Spec hiding Row
open L2 (E0 XK Hp V atI ixN)
/-! ### the records' order -/
def SeqOk : Str → List NRec → Prop
  | _, [] => True
  | last, r :: rs => mayStand r last = true ∧ SeqOk (kindOf r) rs
theorem seq_at : ∀ (recs : List NRec) (last : Str), SeqOk last recs → ∀ (n : Nat) (r : NRec), recs[n]? = some r → mayStand r (match n with | 0 => last | n + 1 => (recs[n]?.map kindOf).getD "") = true
  | [], _, _, n, r, e => by simp at e
  | x :: recs, last, h, 0, r, e => by
    have e : x = r := by simpa using e
    subst e
    exact h.1
  | x :: recs, last, h, n + 1, r, e => by
    have e : recs[n]? = some r := by simpa using e
    have := seq_at recs (kindOf x) h.2 n r e
    cases n with
    | zero => exact this
    | succ n =>
      show mayStand r (((x :: recs)[n + 1]?.map kindOf).getD "") = true
      rw [List.getElem?_cons_succ]
      exact this
theorem recsOk_of {recs : List NRec} (few : recs.length ≤ 1000) (ok : ∀ r ∈ recs, RecOk r) (s : SeqOk "" recs) : RecsOk recs := ⟨few, ok, fun n r e => by
  have := seq_at recs "" s n r e
  unfold lastOf
  cases n <;> exact this⟩
theorem seq_made (nms : List Str) : ∀ (rows : List MRow) (rest : List NRec) (last : Str), last ≠ "" → (∀ k : Str, k ≠ "" → SeqOk k rest) → SeqOk last (rows.map (recOfRow nms) ++ rest)
  | [], rest, last, hl, hr => hr last hl
  | r :: rows, rest, last, hl, hr => ⟨by
      show (!decide (last = "")) = true
      rw [decide_eq_false hl]; rfl, seq_made nms rows rest "made" (by decide +kernel) hr⟩
theorem seq_givens (nms : List Str) (rows : List MRow) (rest : List NRec) (hr : ∀ k : Str, k ≠ "" → SeqOk k rest) : ∀ (gs : List Str) (last : Str), last = "plan" ∨ last = "given" → SeqOk last (gs.map NRec.given ++ (rows.map (recOfRow nms) ++ rest))
  | [], last, hl => seq_made nms rows rest last (by rcases hl with e | e <;> rw [e] <;> decide +kernel) hr
  | g :: gs, last, hl => ⟨by
      show decide (last ∈ (["plan", "given"] : List Str)) = true
      rcases hl with e | e <;> rw [e] <;> decide +kernel, seq_givens nms rows rest hr gs "given" (.inr rfl)⟩
theorem seq_plan (p : MPlan) (rest : List NRec) (hr : ∀ k : Str, k ≠ "" → SeqOk k rest) (last : Str) : SeqOk last (recsOf p ++ rest) := by
  unfold recsOf
  rw [List.cons_append, List.append_assoc]
  exact ⟨rfl, seq_givens (planNames p) p.rows rest hr p.givens "plan" (.inl rfl)⟩
theorem seq_plans (rest : List NRec) (hr : ∀ k : Str, k ≠ "" → SeqOk k rest) : ∀ (ps : List MPlan) (last : Str), (last ≠ "" ∨ ps ≠ []) → SeqOk last (recsAll ps ++ rest)
  | [], last, h => hr last (h.resolve_right fun z => z rfl)
  | p :: ps, last, _ => by
    unfold recsAll
    rw [List.flatMap_cons, List.append_assoc]
    exact seq_plan p _ (fun k hk => seq_plans rest hr ps k (.inl hk)) last
/-! ### the parts of the records -/
def foldP : Nat → PSt → List NRec → PSt
  | _, st, [] => st
  | k, st, r :: rs => foldP (k + 1) (partStep k st r) rs
theorem partsAt_fold : ∀ (rs pre : List NRec), partsAt (pre ++ rs) (pre.length + rs.length) = foldP pre.length (partsAt (pre ++ rs) pre.length) rs
  | [], pre => rfl
  | r :: rs, pre => by
    have ih := partsAt_fold rs (pre ++ [r])
    rw [List.append_assoc] at ih
    have e1 : pre.length + (r :: rs).length = (pre ++ [r]).length + rs.length := by simp; omega
    rw [e1]
    show partsAt (pre ++ ([r] ++ rs)) _ = _
    rw [ih]
    have e2 : (pre ++ [r]).length = pre.length + 1 := by simp
    rw [e2]
    show foldP (pre.length + 1) (partsAt (pre ++ ([r] ++ rs)) (pre.length + 1)) rs = foldP (pre.length + 1) (partStep pre.length (partsAt (pre ++ r :: rs) pre.length) r) rs
    congr 1
    have e3 : (pre ++ ([r] ++ rs))[pre.length]? = some r := by rw [List.getElem?_append_right (Nat.le_refl _), Nat.sub_self]; rfl
    rw [partsAt, e3]
    rfl
theorem parts_fold (recs : List NRec) : partsOfRecs recs = (foldP 0 none recs).all := by
  unfold partsOfRecs
  have := partsAt_fold recs []
  rw [List.nil_append, List.length_nil, Nat.zero_add] at this
  rw [this]
  rfl
theorem fold_app : ∀ (a b : List NRec) (k : Nat) (st : PSt), foldP k st (a ++ b) = foldP (k + a.length) (foldP k st a) b
  | [], b, k, st => rfl
  | r :: a, b, k, st => by
    show foldP (k + 1) (partStep k st r) (a ++ b) = foldP (k + (a.length + 1)) (foldP (k + 1) (partStep k st r) a) b
    rw [fold_app a b (k + 1), show k + 1 + a.length = k + (a.length + 1) by omega]
structure PartLike (pt : Part) (p : MPlan) : Prop where
  nm : pt.name = p.name
  gv : pt.givens = p.givens
  md : pt.made.map (·.2) = p.rows.map fun r => (r.name, r.how, r.items.map fun q => (nmAt (planNames p) q.1, q.2))
theorem fold_givens (pre : List Part) (n : Str) : ∀ (gs gs0 : List Str) (k : Nat), foldP k (some (pre, ⟨n, gs0, []⟩)) (gs.map NRec.given) = some (pre, ⟨n, gs0 ++ gs, []⟩)
  | [], gs0, k => by rw [List.append_nil]; rfl
  | g :: gs, gs0, k => by
    show foldP (k + 1) (some (pre, ⟨n, gs0 ++ [g], []⟩)) (gs.map NRec.given) = _
    rw [fold_givens pre n gs, List.append_assoc]
    rfl
theorem fold_made (pre : List Part) (n : Str) (gs : List Str) (nms : List Str) : ∀ (rows : List MRow) (m0 : List Made) (k : Nat), ∃ m, foldP k (some (pre, ⟨n, gs, m0⟩)) (rows.map (recOfRow nms)) = some (pre, ⟨n, gs, m0 ++ m⟩) ∧ m.map (·.2) = rows.map fun r => (r.name, r.how, r.items.map fun q => (nmAt nms q.1, q.2))
  | [], m0, k => ⟨[], by rw [List.append_nil]; rfl, rfl⟩
  | r :: rows, m0, k => by
    obtain ⟨m, h1, h2⟩ := fold_made pre n gs nms rows (m0 ++ [((k : Int) + 1, r.name, r.how, r.items.map fun q => (nmAt nms q.1, q.2))]) (k + 1)
    refine ⟨((k : Int) + 1, r.name, r.how, r.items.map fun q => (nmAt nms q.1, q.2)) :: m, ?_, by rw [List.map_cons, List.map_cons, h2]⟩
    show foldP (k + 1) (some (pre, ⟨n, gs, m0 ++ [((k : Int) + 1, r.name, r.how, r.items.map fun q => (nmAt nms q.1, q.2))]⟩)) (rows.map (recOfRow nms)) = _
    rw [h1, List.append_assoc]
    rfl
theorem fold_plan (p : MPlan) (k : Nat) (st : PSt) : ∃ pt, foldP k st (recsOf p) = some (st.all, pt) ∧ PartLike pt p := by
  unfold recsOf
  show ∃ pt, foldP (k + 1) (some (st.all, ⟨p.name, [], []⟩)) _ = _ ∧ _
  rw [fold_app, fold_givens, List.nil_append]
  obtain ⟨m, h1, h2⟩ := fold_made st.all p.name p.givens (planNames p) p.rows [] (k + 1 + (p.givens.map NRec.given).length)
  rw [h1]
  exact ⟨_, rfl, ⟨rfl, rfl, h2⟩⟩
/-- whole plans, then the last one -/
theorem fold_plans : ∀ (ps : List MPlan) (k : Nat) (st : PSt), ps ≠ [] → ∃ (pts : List Part) (l : Part) (lp : MPlan) (pps : List MPlan), ps = pps ++ [lp] ∧ foldP k st (recsAll ps) = some (st.all ++ pts, l) ∧ Paired PartLike pts pps ∧ PartLike l lp
  | [], _, _, h => absurd rfl h
  | [p], k, st, _ => by
    obtain ⟨pt, h1, h2⟩ := fold_plan p k st
    refine ⟨[], pt, p, [], rfl, ?_, .nil, h2⟩
    unfold recsAll
    rw [List.flatMap_cons, List.flatMap_nil, List.append_nil, List.append_nil, h1]
  | p :: q :: ps, k, st, _ => by
    obtain ⟨pt, h1, h2⟩ := fold_plan p k st
    obtain ⟨pts, l, lp, pps, e, h3, h4, h5⟩ := fold_plans (q :: ps) (k + (recsOf p).length) (some (st.all, pt)) (by simp)
    refine ⟨pt :: pts, l, lp, p :: pps, by rw [e]; rfl, ?_, .cons h2 h4, h5⟩
    have e1 : recsAll (p :: q :: ps) = recsOf p ++ recsAll (q :: ps) := rfl
    rw [e1, fold_app, h1, h3]
    show some ((st.all ++ [pt]) ++ pts, l) = _
    rw [List.append_assoc]
    rfl
/-! ### plans of the parts -/
theorem nums_look : ∀ (ns : List Str) (i k : Nat) (s : Str), ns.Nodup → ns[i]? = some s → ((ns.zipIdx k).map fun q => (q.1, (q.2 : Int))).lookup s = some ((k + i : Nat) : Int)
  | [], i, k, s, _, e => by simp at e
  | n :: ns, 0, k, s, hn, e => by
    have e : n = s := by simpa using e
    subst e
    simp [List.lookup]
  | n :: ns, i + 1, k, s, hn, e => by
    have hn2 := List.nodup_cons.mp hn
    have e : ns[i]? = some s := by simpa using e
    have : s ≠ n := fun z => hn2.1 (by rw [← z]; exact List.mem_of_getElem? e)
    have : (s == n) = false := by simpa using this
    rw [List.zipIdx_cons, List.map_cons, List.lookup_cons, this]
    have ih := nums_look ns i (k + 1) s hn2.2 e
    rw [show k + (i + 1) = k + 1 + i by omega]
    exact ih
theorem nums_none : ∀ (ns : List Str) (k : Nat) (s : Str), s ∉ ns → ((ns.zipIdx k).map fun q => (q.1, (q.2 : Int))).lookup s = none
  | [], k, s, _ => rfl
  | n :: ns, k, s, h => by
    have : s ≠ n := fun z => h (by rw [z]; exact List.mem_cons_self)
    have : (s == n) = false := by simpa using this
    rw [List.zipIdx_cons, List.map_cons, List.lookup_cons, this]
    exact nums_none ns (k + 1) s fun z => h (List.mem_cons_of_mem _ z)
theorem mapM_more {α β : Type} {f : α → Option β} {x : α} {y : β} {xs : List α} {ys : List β} (h : f x = some y) (h2 : xs.mapM f = some ys) : (x :: xs).mapM f = some (y :: ys) := by
  rw [List.mapM_cons, h, Option.bind_eq_bind, Option.bind_some, h2]
  rfl
theorem items_to {ns : List Str} (hn : ns.Nodup) : ∀ (items : Row), (∀ q ∈ items, 0 ≤ q.1 ∧ q.1 < ns.length) → itemsTo (numsOf ns) (items.map fun q => (nmAt ns q.1, q.2)) = some items
  | [], _ => rfl
  | q :: items, h => by
    have hq := h q List.mem_cons_self
    have ih := items_to hn items fun z hz => h z (List.mem_cons_of_mem _ hz)
    have e1 : ns[q.1.toNat]? = some (nmAt ns q.1) := by
      unfold nmAt
      rw [List.getD_eq_getElem?_getD, List.getElem?_eq_getElem (by omega)]
      rfl
    have e2 := nums_look ns q.1.toNat 0 (nmAt ns q.1) hn e1
    have e3 : ((0 + q.1.toNat : Nat) : Int) = q.1 := by omega
    rw [e3] at e2
    unfold itemsTo at ih ⊢
    rw [List.map_cons]
    refine mapM_more ?_ ih
    show (((numsOf ns).lookup (nmAt ns q.1)).map fun k => (k, q.2)) = some q
    unfold numsOf
    rw [e2]
    rfl
theorem part_names {pt : Part} {p : MPlan} (h : PartLike pt p) : partNames pt = planNames p := by
  unfold partNames planNames
  rw [h.gv]
  have := congrArg (List.map Prod.fst) h.md
  rw [List.map_map, List.map_map] at this
  rw [show (fun m : Made => m.2.1) = (Prod.fst ∘ fun x : Made => x.2) from rfl, this]
  rfl
theorem rows_to {ns : List Str} (hn : ns.Nodup) : ∀ (made : List Made) (rows : List MRow), (made.map (·.2) = rows.map fun r => (r.name, r.how, r.items.map fun q => (nmAt ns q.1, q.2))) → (∀ r ∈ rows, ∀ q ∈ r.items, 0 ≤ q.1 ∧ q.1 < ns.length) → made.mapM (rowTo (numsOf ns)) = some rows
  | [], [], _, _ => rfl
  | [], _ :: _, h, _ => by simp at h
  | _ :: _, [], h, _ => by simp at h
  | m :: made, r :: rows, h, hr => by
    have h0 : m.2 = (r.name, r.how, r.items.map fun q => (nmAt ns q.1, q.2)) ∧ made.map (·.2) = rows.map fun r => (r.name, r.how, r.items.map fun q => (nmAt ns q.1, q.2)) := by
      rw [List.map_cons, List.map_cons] at h
      injection h with a b
      exact ⟨a, b⟩
    have ih := rows_to hn made rows h0.2 fun x hx => hr x (List.mem_cons_of_mem _ hx)
    have e : rowTo (numsOf ns) m = some r := by
      unfold rowTo
      rw [h0.1]
      show (itemsTo (numsOf ns) (r.items.map fun q => (nmAt ns q.1, q.2))).map _ = _
      rw [items_to hn r.items (hr r List.mem_cons_self)]
      rfl
    exact mapM_more e ih
theorem plan_to {pt : Part} {p : MPlan} (h : PartLike pt p) (hn : (planNames p).Nodup) (hr : ∀ r ∈ p.rows, ∀ q ∈ r.items, 0 ≤ q.1 ∧ q.1 < (planNames p).length) : planTo pt = some p := by
  unfold planTo
  rw [part_names h, rows_to hn pt.made p.rows h.md hr, h.nm, h.gv]
  rfl
theorem plans_to : ∀ {pts : List Part} {ps : List MPlan}, Paired PartLike pts ps → (∀ p ∈ ps, (planNames p).Nodup ∧ ∀ r ∈ p.rows, ∀ q ∈ r.items, 0 ≤ q.1 ∧ q.1 < (planNames p).length) → pts.mapM planTo = some ps
  | _, _, .nil, _ => rfl
  | _, _, .cons (a := pt) (b := p) h t, hp => by
    have := hp p List.mem_cons_self
    exact mapM_more (plan_to h this.1 this.2) (plans_to t fun x hx => hp x (List.mem_cons_of_mem _ hx))
end K60
/-! text P6 -/
set_option Elab.async false
set_option linter.all false
set_option maxRecDepth 100000
set_option maxHeartbeats 4000000
namespace K60
open PySem PyProof.Rows Rl
open PySem.Spec hiding Row
open L2 (E0 XK Hp V atI ixN)
/-! ### what is looked at -/
theorem seen_some : ∀ (ns seen : List Str), ns.Nodup → (∀ s ∈ ns, isName s = true ∧ s ∉ seen) → (ns.foldlM seenStep seen).isSome = true
  | [], seen, _, _ => rfl
  | s :: ns, seen, hn, h => by
    have hn2 := List.nodup_cons.mp hn
    have hs := h s List.mem_cons_self
    have e : seenStep seen s = some (seen ++ [s]) := by
      unfold seenStep
      rw [hs.1, decide_eq_false hs.2]
      rfl
    rw [List.foldlM_cons, e]
    refine seen_some ns (seen ++ [s]) hn2.2 fun x hx => ⟨(h x (List.mem_cons_of_mem _ hx)).1, fun z => ?_⟩
    rcases List.mem_append.mp z with z | z
    · exact (h x (List.mem_cons_of_mem _ hx)).2 z
    · rw [List.mem_singleton.mp z] at hx
      exact hn2.1 hx
theorem namesOk_of {ns : List Str} (hn : ns.Nodup) (h : ∀ s ∈ ns, isName s = true) : namesOk ns = true := seen_some ns [] hn fun s hs => ⟨h s hs, List.not_mem_nil⟩
theorem seen_nodup : ∀ (ns seen out : List Str), ns.foldlM seenStep seen = some out → ns.Nodup ∧ ∀ s ∈ ns, s ∉ seen
  | [], seen, out, _ => ⟨List.nodup_nil, fun s hs => by cases hs⟩
  | s :: ns, seen, out, e => by
    rw [List.foldlM_cons] at e
    unfold seenStep at e
    cases hc : (!isName s || decide (s ∈ seen)) with
    | true =>
      rw [hc] at e
      cases e
    | false =>
      rw [hc, if_neg Bool.false_ne_true] at e
      have e : ns.foldlM seenStep (seen ++ [s]) = some out := e
      obtain ⟨h1, h2⟩ := seen_nodup ns (seen ++ [s]) out e
      have hs : s ∉ seen := by
        rw [Bool.or_eq_false_iff] at hc
        simpa using hc.2
      refine ⟨List.nodup_cons.mpr ⟨fun z => h2 s z (List.mem_append.mpr (.inr (by simp))), h1⟩, fun x hx => ?_⟩
      rcases List.mem_cons.mp hx with q | q
      · rw [q]; exact hs
      · exact fun z => h2 x q (List.mem_append.mpr (.inl z))
theorem namesOk_nodup {ns : List Str} (h : namesOk ns = true) : ns.Nodup := by
  unfold namesOk at h
  obtain ⟨out, e⟩ := Option.isSome_iff_exists.mp h
  exact (seen_nodup ns [] out e).1
/-- the counts of given things, by the plans' names -/
def aheadMap (ps : List MPlan) : List (Str × Int) := ps.map fun p => (p.name, (p.givens.length : Int))
theorem ahead_look : ∀ (ps : List MPlan) (i : Nat) (q : MPlan), (headsOf ps).Nodup → ps[i]? = some q → (aheadMap ps).lookup q.name = some (q.givens.length : Int)
  | [], i, q, _, e => by simp at e
  | p :: ps, 0, q, hn, e => by
    have e : p = q := by simpa using e
    subst e
    simp [aheadMap, List.lookup]
  | p :: ps, i + 1, q, hn, e => by
    have hn2 := List.nodup_cons.mp (show (p.name :: headsOf ps).Nodup from hn)
    have e : ps[i]? = some q := by simpa using e
    have : q.name ≠ p.name := fun z => hn2.1 (List.mem_map.mpr ⟨q, List.mem_of_getElem? e, z⟩)
    have : (q.name == p.name) = false := by simpa using this
    show List.lookup q.name ((p.name, (p.givens.length : Int)) :: aheadMap ps) = _
    rw [List.lookup_cons, this]
    exact ahead_look ps i q hn2.2 e
theorem ahead_none : ∀ (ps : List MPlan) (s : Str), s ∉ headsOf ps → (aheadMap ps).lookup s = none
  | [], s, _ => rfl
  | p :: ps, s, h => by
    have : s ≠ p.name := fun z => h (by rw [z]; exact List.mem_cons_self)
    have : (s == p.name) = false := by simpa using this
    show List.lookup s ((p.name, (p.givens.length : Int)) :: aheadMap ps) = _
    rw [List.lookup_cons, this]
    exact ahead_none ps s fun z => h (List.mem_cons_of_mem _ z)
/-- the parts of a list of plans are plans ahead that fit -/
def PartsFit (ps : List MPlan) : Prop := ∀ (k : Nat) (p : MPlan) (r : MRow), ps[k]? = some p → r ∈ p.rows → plainHow r.how = true ∨ ∃ (i : Nat) (q : MPlan), i < k ∧ ps[i]? = some q ∧ q.name = r.how ∧ q.givens.length = r.items.length
theorem ahead_fold {ps : List MPlan} (hn : (headsOf ps).Nodup) (h : PartsFit ps) : ∀ (suf pre : List MPlan), ps = pre ++ suf → suf.foldlM aheadStep (aheadMap pre) = some (aheadMap ps)
  | [], pre, e => by rw [e, List.append_nil]; rfl
  | p :: suf, pre, e => by
    have hp : ps[pre.length]? = some p := by rw [e, List.getElem?_append_right (Nat.le_refl _), Nat.sub_self]; rfl
    have hnp : (headsOf pre).Nodup := by
      rw [e] at hn
      unfold headsOf at hn ⊢
      rw [List.map_append] at hn
      exact (List.nodup_append.mp hn).1
    have es : aheadStep (aheadMap pre) p = some (aheadMap (pre ++ [p])) := by
      unfold aheadStep
      have : p.rows.all (partOk (aheadMap pre)) = true := List.all_eq_true.mpr fun r hr => by
        unfold partOk
        rcases h pre.length p r hp hr with z | ⟨i, q, h1, h2, h3, h4⟩
        · have : decide (r.how ∈ (["all", "first"] : List Str)) = true := z
          rw [this]; rfl
        · rw [e, List.getElem?_append_left h1] at h2
          rw [← h3, ahead_look pre i q hnp h2]
          simp [h4]
      rw [if_pos this]
      unfold aheadMap
      rw [List.map_append]
      rfl
    rw [List.foldlM_cons, es]
    exact ahead_fold hn h suf (pre ++ [p]) (by rw [e, List.append_assoc]; rfl)
theorem parts_ok {ps : List MPlan} (hn : (headsOf ps).Nodup) (h : PartsFit ps) : partsOkB ps = true := by
  unfold partsOkB
  have := ahead_fold hn h ps [] rfl
  show (ps.foldlM aheadStep (aheadMap [])).isSome = true
  rw [this]
  rfl
theorem parts_bad {ps : List MPlan} {x : MPlan} {r : MRow} (hn : (headsOf ps).Nodup) (h : PartsFit ps) (hr : r ∈ x.rows) (hp : plainHow r.how = false) (ha : r.how ∉ headsOf ps) : partsOkB (ps ++ [x]) = false := by
  unfold partsOkB
  have := ahead_fold hn h ps [] rfl
  rw [List.foldlM_append]
  show ((ps.foldlM aheadStep (aheadMap [])).bind fun s => [x].foldlM aheadStep s).isSome = false
  rw [this]
  show ([x].foldlM aheadStep (aheadMap ps)).isSome = false
  have es : aheadStep (aheadMap ps) x = none := by
    unfold aheadStep
    rw [if_neg]
    intro hall
    have := List.all_eq_true.mp hall r hr
    unfold partOk at this
    rw [ahead_none ps r.how ha] at this
    have hp : decide (r.how ∈ (["all", "first"] : List Str)) = false := hp
    rw [hp] at this
    cases this
  rw [List.foldlM_cons, es]
  rfl
/-- what is wanted of a plan that a text tells -/
structure PlTxt (p : MPlan) : Prop where
  rc : ∀ r ∈ recsOf p, RecOk r
  nd : (planNames p).Nodup
  nm : ∀ s ∈ planNames p, isName s = true
  it : ∀ r ∈ p.rows, ∀ q ∈ r.items, 0 ≤ q.1 ∧ q.1 < ((planNames p).length : Int)
  il : ∀ r ∈ p.rows, r.items.length ≤ 40
  ah : aheadOf p ≤ 23
  ft : PlanFits p
theorem names_len {p : MPlan} : (planNames p).length = aheadOf p := by
  unfold planNames aheadOf
  rw [List.length_append, List.length_map]
theorem recs_count : ∀ (qs : List MPlan), (∀ p ∈ qs, aheadOf p ≤ 23) → (recsAll qs).length ≤ qs.length * 24
  | [], _ => Nat.le_refl _
  | p :: qs, hp => by
    have ih := recs_count qs fun q hq => hp q (List.mem_cons_of_mem _ hq)
    have := hp p List.mem_cons_self
    unfold recsAll at ih ⊢
    rw [List.flatMap_cons, List.length_append, List.length_cons]
    unfold recsOf aheadOf at *
    rw [List.length_cons, List.length_append, List.length_map, List.length_map]
    omega
theorem part_ok {pt : Part} {p : MPlan} (h : PartLike pt p) (t : PlTxt p) : PartOk pt := by
  have e := part_names h
  refine ⟨by rw [e]; exact t.nd, by rw [e, names_len]; have := t.ah; omega, fun m hm => ?_⟩
  have : m.2 ∈ pt.made.map (·.2) := List.mem_map.mpr ⟨m, hm, rfl⟩
  rw [h.md] at this
  obtain ⟨r, hr, e2⟩ := List.mem_map.mp this
  rw [← e2]
  show (r.items.map _).length ≤ 1000
  rw [List.length_map]
  have := t.il r hr
  omega
theorem paired_mem {α β : Type} {F : α → β → Prop} : ∀ {l1 : List α} {l2 : List β}, Paired F l1 l2 → ∀ a ∈ l1, ∃ b ∈ l2, F a b
  | _, _, .nil, a, h => by cases h
  | _, _, .cons r t, a, h => by
    rcases List.mem_cons.mp h with e | e
    · subst e; exact ⟨_, List.mem_cons_self, r⟩
    · obtain ⟨b, h1, h2⟩ := paired_mem t a e
      exact ⟨b, List.mem_cons_of_mem _ h1, h2⟩
theorem paired_snoc {α β : Type} {F : α → β → Prop} {a : α} {b : β} : ∀ {l1 : List α} {l2 : List β}, Paired F l1 l2 → F a b → Paired F (l1 ++ [a]) (l2 ++ [b])
  | _, _, .nil, h => .cons h .nil
  | _, _, .cons r t, h => .cons r (paired_snoc t h)
theorem txt_read {qs : List MPlan} (hne : qs ≠ []) (hl : qs.length ≤ 12) (ht : ∀ p ∈ qs, PlTxt p) : RecsOk (recsAll qs) ∧ recsAll qs ≠ [] ∧ (∀ pt ∈ partsOfRecs (recsAll qs), PartOk pt) ∧ bookTo (recsAll qs) = some qs := by
  have hc := recs_count qs fun p hp => (ht p hp).ah
  have hs := seq_plans [] (fun k hk => trivial) qs "" (.inr hne)
  rw [List.append_nil] at hs
  obtain ⟨pts, l, lp, pps, e, h1, h2, h3⟩ := fold_plans qs 0 none hne
  have ep : partsOfRecs (recsAll qs) = pts ++ [l] := by
    rw [parts_fold, h1]
    rfl
  have pr : Paired PartLike (pts ++ [l]) qs := by rw [e]; exact paired_snoc h2 h3
  refine ⟨recsOk_of (by omega) (fun r hr => ?_) hs, ?_, fun pt hpt => ?_, ?_⟩
  · obtain ⟨p, hp, hr⟩ := List.mem_flatMap.mp hr
    exact (ht p hp).rc r hr
  · cases qs with
    | nil => exact absurd rfl hne
    | cons p qs => exact fun z => by cases z
  · rw [ep] at hpt
    obtain ⟨p, hp, hl⟩ := paired_mem pr pt hpt
    exact part_ok hl (ht p hp)
  · unfold bookTo
    rw [ep]
    exact plans_to pr fun p hp => ⟨(ht p hp).nd, (ht p hp).it⟩
theorem name_small {s : Str} (h : isName s = true) : s.length ≤ sizeLine := by
  have := (isName_facts h).len
  rw [sizeLine_eq]
  omega
theorem txt_look {qs : List MPlan} (hne : qs ≠ []) (hl : qs.length ≤ 12) (ht : ∀ p ∈ qs, PlTxt p) (hnm : ∀ p ∈ qs, isName p.name = true) (wt : namesOk (qs.map (·.name)) = true → partsOkB qs = true → PartsAhead qs ∧ ∀ q ∈ weightsI qs, q.2 ≤ 2000) : LookPre qs where
  ne := hne
  few := by omega
  nl := fun p hp => name_small (hnm p hp)
  nd := fun h => namesOk_nodup h
  own := fun p hp => ⟨namesOk_of (ht p hp).nd (ht p hp).nm, fun s hs => name_small ((ht p hp).nm s hs), (ht p hp).ft⟩
  wt := wt
end K60
/-! text P7 -/
set_option Elab.async false
set_option linter.all false
set_option maxRecDepth 100000
set_option maxHeartbeats 4000000
namespace K60
open PySem PyProof.Rows Rl
open PySem.Spec hiding Row
open L2 (E0 XK Hp V atI ixN)
section
variable {names : List Str} (hn : NmsGood names) {ps : List MPlan} (h : Built names ps)
include hn h
theorem bt_txt : ∀ p ∈ ps, PlTxt p := fun p hp => by
  obtain ⟨k, e⟩ := List.mem_iff_getElem?.mp hp
  have pi := h.pi p hp
  refine ⟨fun r hr => bt_rec hn h r (List.mem_flatMap.mpr ⟨p, hp, hr⟩), bt_nmsnd hn h e, fun s hs => hn.nm s (bt_nmsin hn h e s hs), fun r hr q hq => ?_, fun r hr => ?_, h.ah p hp, ⟨pi.g1, pi.g2, ?_, by have := pi.rw; omega, fun j r er => ?_⟩⟩
  · obtain ⟨j, er⟩ := List.mem_iff_getElem?.mp hr
    have := bt_pos hn h e er q hq
    exact ⟨this.h0, this.h1⟩
  · obtain ⟨j, er⟩ := List.mem_iff_getElem?.mp hr
    exact (bt_row hn h e er).2.1
  · exact List.length_pos_iff.mpr (h.pl k p e).2
  · obtain ⟨a1, a2, a3, a4⟩ := bt_row hn h e er
    refine ⟨List.length_pos_iff.mpr a1, a2, fun q hq => ?_⟩
    have b := a3 q hq
    refine ⟨b.1, b.2.1, ?_, ?_⟩
    · show -(10 ^ 30) < q.2
      omega
    · show q.2 < 10 ^ 30
      omega
theorem bt_fits : PartsFit ps := fun k p r e hr => by
  obtain ⟨j, er⟩ := List.mem_iff_getElem?.mp hr
  obtain ⟨a1, a2, a3, a4⟩ := bt_row hn h e er
  rcases a4 with z | ⟨i, q, b1, b2, b3, b4, b5⟩
  · exact .inl z
  · exact .inr ⟨i, q, b1, b2, b3, b4⟩
theorem bt_pnames : ∀ p ∈ ps, isName p.name = true := fun p hp => by
  obtain ⟨k, e⟩ := List.mem_iff_getElem?.mp hp
  exact bt_isname hn h e
theorem bt_ahead : PartsAhead ps := fun i p r e hr => by
  rcases bt_fits hn h i p r e hr with z | ⟨j, q, h1, h2, h3, _⟩
  · exact .inl z
  · exact .inr ⟨j, q, h1, h2, h3⟩
theorem bt_heads : namesOk (ps.map (·.name)) = true := namesOk_of (bt_nodup hn h) fun s hs => by
  obtain ⟨p, hp, rfl⟩ := List.mem_map.mp hs
  exact bt_pnames hn h p hp
theorem bt_read : ReadOk (recsAll ps) ps := by
  have few := h.few
  obtain ⟨a1, a2, a3, a4⟩ := txt_read h.ne (by omega) (bt_txt hn h)
  refine ⟨⟨⟨a1, a2, a3, fun b hb => ?_⟩, fun b hb _ _ => ?_⟩, a4, bt_heads hn h, parts_ok (bt_nodup hn h) (bt_fits hn h)⟩
  · rw [a4] at hb
    cases hb
    exact txt_look h.ne (by omega) (bt_txt hn h) (bt_pnames hn h) fun _ _ => ⟨bt_ahead hn h, h.wt⟩
  · rw [a4] at hb
    cases hb
    exact ⟨bt_good hn h, by show ps.length ≤ 11; omega⟩
theorem bt_heads_in : ∀ s ∈ headsOf ps, s ∈ names := fun s hs => by
  obtain ⟨p, hp, rfl⟩ := List.mem_map.mp hs
  obtain ⟨k, e⟩ := List.mem_iff_getElem?.mp hp
  rw [bt_name hn h e]
  have := bt_lt hn h e
  exact nm_in (by rw [hn.ok.1]; omega)
theorem bt_strange {s : Str} (hs : s ∉ names) : planBy ps s = none := by
  unfold planBy
  rw [List.find?_eq_none]
  intro p hp z
  have z : p.name = s := by simpa using z
  exact hs (bt_heads_in hn h s (by rw [← z]; exact List.mem_map.mpr ⟨p, hp, rfl⟩))
theorem bt_plan {k : Nat} {p : MPlan} (e : ps[k]? = some p) : planBy ps p.name = some p := planBy_at (bt_nodup hn h) e
end
/-! ### the refused texts -/
structure N28 (names n28 : List Str) : Prop where
  len : n28.length = 28
  nd : n28.Nodup
  nm : ∀ s ∈ n28, isName s = true
  pre : ∃ r, n28 = names ++ r
section
variable {names n28 : List Str} (hn : NmsGood names) (h28 : N28 names n28)
include hn h28
theorem n28_in {k : Nat} (hk : k < 28) : isName (nmAt n28 (k : Int)) = true := h28.nm _ (nm_in (by rw [h28.len]; exact hk))
theorem n28_ne {i j : Nat} (hi : i < 28) (hj : j < 28) (hij : i ≠ j) : nmAt n28 (i : Int) ≠ nmAt n28 (j : Int) := fun e => hij (nm_inj h28.nd (by rw [h28.len]; exact hi) (by rw [h28.len]; exact hj) e)
theorem n28_out {k : Nat} (h1 : 26 ≤ k) (h2 : k < 28) : nmAt n28 (k : Int) ∉ names := fun hm => by
  obtain ⟨i, hi, e⟩ := List.getElem_of_mem hm
  have hl := hn.ok.1
  obtain ⟨r, er⟩ := h28.pre
  have : nmAt n28 (i : Int) = nmAt n28 (k : Int) := by
    rw [← e]
    unfold nmAt
    have e1 : ((i : Int).toNat) = i := by omega
    rw [e1, List.getD_eq_getElem?_getD, er, List.getElem?_append_left hi, List.getElem?_eq_getElem hi]
    rfl
  exact n28_ne hn h28 (by omega) h2 (by omega) this
end
/-- the plan that is put behind -/
def extra (nm how n1 n2 : Str) : MPlan := ⟨nm, [n1], [⟨n2, how, [(0, 0)]⟩]⟩
theorem extra_recs (nm how n1 n2 : Str) : recsOf (extra nm how n1 n2) = [.plan nm, .given n1, .made n2 how [(n1, 0)]] := rfl
theorem extra_txt {nm how n1 n2 : Str} (h0 : isName nm = true) (h1 : isName n1 = true) (h2 : isName n2 = true) (hne : n1 ≠ n2) (hh : HowOk how) : PlTxt (extra nm how n1 n2) where
  rc := fun r hr => by
    rw [extra_recs] at hr
    simp only [List.mem_cons, List.not_mem_nil, or_false] at hr
    rcases hr with rfl | rfl | rfl
    · exact h0
    · exact h1
    · exact ⟨h2, hh, ⟨by simp, by simp, fun q hq => by
        have : q = (n1, 0) := by simpa using hq
        rw [this]
        exact ⟨h1, by show (0 : Nat) < 10 ^ 30; decide⟩⟩⟩
  nd := by
    show [n1, n2].Nodup
    simp [hne]
  nm := fun s hs => by
    have hs : s ∈ [n1, n2] := hs
    simp only [List.mem_cons, List.not_mem_nil, or_false] at hs
    rcases hs with rfl | rfl
    · exact h1
    · exact h2
  it := fun r hr q hq => by
    have : r = ⟨n2, how, [(0, 0)]⟩ := List.mem_singleton.mp hr
    rw [this] at hq
    have : q = (0, 0) := List.mem_singleton.mp hq
    rw [this]
    exact ⟨by decide, by show (0 : Int) < (2 : Nat); decide⟩
  il := fun r hr => by
    have : r = ⟨n2, how, [(0, 0)]⟩ := List.mem_singleton.mp hr
    rw [this]
    exact (by decide : 1 ≤ 40)
  ah := by show 2 ≤ 23; decide
  ft := by
    refine ⟨Nat.le_refl _, by show 1 ≤ 12; decide, Nat.le_refl _, by show 1 ≤ 40; decide, fun k r er => ?_⟩
    have hk := (List.getElem?_eq_some_iff.mp er).1
    have hk : k < 1 := hk
    have : k = 0 := by omega
    subst this
    have : r = ⟨n2, how, [(0, 0)]⟩ := (Option.some.inj er).symm
    rw [this]
    refine ⟨Nat.le_refl _, by show 1 ≤ 40; decide, fun q hq => ?_⟩
    have : q = (0, 0) := List.mem_singleton.mp hq
    rw [this]
    exact ⟨by decide, by show (0 : Int) < ((1 + 0 : Nat) : Int); decide, by decide, by decide⟩
theorem mapM_none_of {α β : Type} {f : α → Option β} : ∀ {xs : List α} {x : α}, x ∈ xs → f x = none → xs.mapM f = none
  | [], x, h, _ => by cases h
  | y :: xs, x, h, e => by
    rw [List.mapM_cons]
    cases e1 : f y with
    | none => rfl
    | some z =>
      rcases List.mem_cons.mp h with q | q
      · rw [q] at e; rw [e] at e1; cases e1
      · rw [Option.bind_eq_bind, Option.bind_some, mapM_none_of q e]
        rfl
theorem recs_snoc (ps : List MPlan) (x : MPlan) : recsAll (ps ++ [x]) = recsAll ps ++ recsOf x := by
  unfold recsAll
  rw [List.flatMap_append, List.flatMap_cons, List.flatMap_nil, List.append_nil]
/-- what comes of a refused text -/
def Refused (C : Cls) (recs : List NRec) (D : Addr) : Prop := RecsOk recs ∧ recs.length ≤ 400 ∧ BookPre recs ∧ ∀ (one other : Str) (most : Int), ∃ k, judgeI C ⟨recs, one, other, most⟩ = .err k ∧ k.cls = .ref D
section
variable {names n28 : List Str} (hn : NmsGood names) (h28 : N28 names n28) {ps : List MPlan} (h : Built names ps)
include hn h28 h
theorem sp0 (C : Cls) {p0 : MPlan} (e0 : ps[0]? = some p0) : Refused C (recsAll ps ++ recsOf (extra p0.name "all" (nmAt n28 1) (nmAt n28 2))) C.BN := by
  have few := h.few
  have ex := extra_txt (nm := p0.name) (how := "all") (n1 := nmAt n28 1) (n2 := nmAt n28 2) (bt_isname hn h e0) (n28_in hn h28 (k := 1) (by decide)) (n28_in hn h28 (k := 2) (by decide)) (n28_ne hn h28 (i := 1) (j := 2) (by decide) (by decide) (by decide)) (.inl (by decide +kernel))
  have ht : ∀ p ∈ ps ++ [extra p0.name "all" (nmAt n28 1) (nmAt n28 2)], PlTxt p := fun p hp => by
    rcases List.mem_append.mp hp with q | q
    · exact bt_txt hn h p q
    · rw [List.mem_singleton.mp q]; exact ex
  have hnm : ∀ p ∈ ps ++ [extra p0.name "all" (nmAt n28 1) (nmAt n28 2)], isName p.name = true := fun p hp => by
    rcases List.mem_append.mp hp with q | q
    · exact bt_pnames hn h p q
    · rw [List.mem_singleton.mp q]
      show isName p0.name = true
      exact bt_isname hn h e0
  have hl : (ps ++ [extra p0.name "all" (nmAt n28 1) (nmAt n28 2)]).length ≤ 11 := by rw [List.length_append, List.length_singleton]; omega
  have dup : namesOk ((ps ++ [extra p0.name "all" (nmAt n28 1) (nmAt n28 2)]).map (·.name)) = false := by
    cases hc : namesOk ((ps ++ [extra p0.name "all" (nmAt n28 1) (nmAt n28 2)]).map (·.name)) with
    | false => rfl
    | true =>
      have := namesOk_nodup hc
      rw [List.map_append, List.nodup_append] at this
      exact absurd rfl (this.2.2 p0.name (List.mem_map.mpr ⟨p0, List.mem_of_getElem? e0, rfl⟩) p0.name (List.mem_singleton.mpr rfl))
  obtain ⟨a1, a2, a3, a4⟩ := txt_read (by simp) (by omega) ht
  rw [← recs_snoc]
  have hc := recs_count _ fun p hp => (ht p hp).ah
  refine ⟨a1, by omega, ⟨⟨a1, a2, a3, fun b hb => ?_⟩, fun b hb h1 _ => ?_⟩, fun one other most => ⟨xc0 C.BN, ?_, rfl⟩⟩
  · rw [a4] at hb
    cases hb
    exact txt_look (by simp) (by omega) ht hnm fun q => by rw [dup] at q; cases q
  · rw [a4] at hb
    cases hb
    rw [dup] at h1; cases h1
  · unfold judgeI
    dsimp only
    rw [a4]
    dsimp only
    rw [dup]
    rfl
theorem sp1 (C : Cls) : Refused C (recsAll ps ++ recsOf (extra (nmAt n28 27) (nmAt n28 27) (nmAt n28 1) (nmAt n28 2))) C.BQ := by
  have few := h.few
  have i27 : isName (nmAt n28 27) = true := n28_in hn h28 (k := 27) (by decide)
  have o27 : nmAt n28 27 ∉ names := n28_out hn h28 (k := 27) (by decide) (by decide)
  have ex := extra_txt (nm := nmAt n28 27) (how := nmAt n28 27) (n1 := nmAt n28 1) (n2 := nmAt n28 2) i27 (n28_in hn h28 (k := 1) (by decide)) (n28_in hn h28 (k := 2) (by decide)) (n28_ne hn h28 (i := 1) (j := 2) (by decide) (by decide) (by decide)) (.inr i27)
  have ht : ∀ p ∈ ps ++ [extra (nmAt n28 27) (nmAt n28 27) (nmAt n28 1) (nmAt n28 2)], PlTxt p := fun p hp => by
    rcases List.mem_append.mp hp with q | q
    · exact bt_txt hn h p q
    · rw [List.mem_singleton.mp q]; exact ex
  have hnm : ∀ p ∈ ps ++ [extra (nmAt n28 27) (nmAt n28 27) (nmAt n28 1) (nmAt n28 2)], isName p.name = true := fun p hp => by
    rcases List.mem_append.mp hp with q | q
    · exact bt_pnames hn h p q
    · rw [List.mem_singleton.mp q]
      show isName (nmAt n28 27) = true
      exact i27
  have hl : (ps ++ [extra (nmAt n28 27) (nmAt n28 27) (nmAt n28 1) (nmAt n28 2)]).length ≤ 11 := by rw [List.length_append, List.length_singleton]; omega
  have ho : nmAt n28 27 ∉ headsOf ps := fun z => o27 (bt_heads_in hn h _ z)
  have nok : namesOk ((ps ++ [extra (nmAt n28 27) (nmAt n28 27) (nmAt n28 1) (nmAt n28 2)]).map (·.name)) = true := by
    refine namesOk_of ?_ fun s hs => ?_
    · rw [List.map_append, List.nodup_append]
      exact ⟨bt_nodup hn h, by simp, fun a ha c hc e => ho (by
        have hc : c = nmAt n28 27 := List.mem_singleton.mp hc
        rw [← hc, ← e]; exact ha)⟩
    · obtain ⟨p, hp, rfl⟩ := List.mem_map.mp hs
      exact hnm p hp
  have pbad : partsOkB (ps ++ [extra (nmAt n28 27) (nmAt n28 27) (nmAt n28 1) (nmAt n28 2)]) = false := parts_bad (r := ⟨nmAt n28 2, nmAt n28 27, [(0, 0)]⟩) (bt_nodup hn h) (bt_fits hn h) (List.mem_singleton.mpr rfl) (name_plain i27) ho
  obtain ⟨a1, a2, a3, a4⟩ := txt_read (by simp) (by omega) ht
  rw [← recs_snoc]
  have hc := recs_count _ fun p hp => (ht p hp).ah
  refine ⟨a1, by omega, ⟨⟨a1, a2, a3, fun b hb => ?_⟩, fun b hb _ h1 => ?_⟩, fun one other most => ⟨xc0 C.BQ, ?_, rfl⟩⟩
  · rw [a4] at hb
    cases hb
    exact txt_look (by simp) (by omega) ht hnm fun _ q => by rw [pbad] at q; cases q
  · rw [a4] at hb
    cases hb
    rw [pbad] at h1; cases h1
  · unfold judgeI
    dsimp only
    rw [a4]
    dsimp only
    rw [nok, pbad]
    rfl
theorem sp2 (C : Cls) : Refused C (recsAll ps ++ [.made (nmAt n28 26) "all" [(nmAt n28 27, 0)]]) C.NN := by
  have few := h.few
  have i26 : isName (nmAt n28 26) = true := n28_in hn h28 (k := 26) (by decide)
  have i27 : isName (nmAt n28 27) = true := n28_in hn h28 (k := 27) (by decide)
  have o26 : nmAt n28 26 ∉ names := n28_out hn h28 (k := 26) (by decide) (by decide)
  have o27 : nmAt n28 27 ∉ names := n28_out hn h28 (k := 27) (by decide) (by decide)
  have n67 : nmAt n28 27 ≠ nmAt n28 26 := n28_ne hn h28 (i := 27) (j := 26) (by decide) (by decide) (by decide)
  generalize nmAt n28 26 = n26 at *
  generalize nmAt n28 27 = n27 at *
  have bf := bt_few hn h
  have hs := seq_plans [NRec.made n26 "all" [(n27, 0)]] (fun k hk => ⟨by show (!decide (k = "")) = true; rw [decide_eq_false hk]; rfl, trivial⟩) ps "" (.inr h.ne)
  have rok : RecsOk (recsAll ps ++ [NRec.made n26 "all" [(n27, 0)]]) := recsOk_of (by rw [List.length_append, List.length_singleton]; omega) (fun r hr => by
    rcases List.mem_append.mp hr with q | q
    · exact bt_rec hn h r q
    · rw [List.mem_singleton.mp q]
      exact ⟨i26, .inl (by decide +kernel), ⟨by simp, by simp, fun q hq => by
        rw [List.mem_singleton.mp hq]
        exact ⟨i27, by show (0 : Nat) < 10 ^ 30; decide⟩⟩⟩) hs
  obtain ⟨pts, l, lp, pps, e, h1, h2, h3⟩ := fold_plans ps 0 none h.ne
  obtain ⟨m, hm⟩ : ∃ m : Made, m.2 = (n26, ("all" : Str), [(n27, (0 : Int))]) ∧ partsOfRecs (recsAll ps ++ [NRec.made n26 "all" [(n27, 0)]]) = pts ++ [{ l with made := l.made ++ [m] }] := by
    refine ⟨(((0 + (recsAll ps).length : Nat) : Int) + 1, n26, "all", [(n27, 0)]), rfl, ?_⟩
    rw [parts_fold, fold_app, h1]
    rfl
  obtain ⟨hm1, hm2⟩ := hm
  have lpm : lp ∈ ps := by rw [e]; simp
  have lt := bt_txt hn h lp lpm
  have pnl := part_names h3
  have pnl2 : partNames { l with made := l.made ++ [m] } = planNames lp ++ [n26] := by
    rw [← pnl]
    unfold partNames
    show l.givens ++ (l.made ++ [m]).map (fun m => m.2.1) = (l.givens ++ l.made.map fun m => m.2.1) ++ [n26]
    rw [List.map_append, List.append_assoc, List.map_singleton, hm1]
  have lin : ∀ s ∈ planNames lp, s ∈ names := by
    obtain ⟨k, ek⟩ := List.mem_iff_getElem?.mp lpm
    exact bt_nmsin hn h ek
  have bnone : bookTo (recsAll ps ++ [NRec.made n26 "all" [(n27, 0)]]) = none := by
    unfold bookTo
    rw [hm2]
    refine mapM_none_of (x := { l with made := l.made ++ [m] }) (by simp) ?_
    unfold planTo
    rw [mapM_none_of (x := m) (f := rowTo _) (by show m ∈ l.made ++ [m]; simp) ?_]
    · rfl
    · unfold rowTo
      rw [hm1]
      show (itemsTo (numsOf (partNames { l with made := l.made ++ [m] })) [(n27, 0)]).map _ = none
      have : itemsTo (numsOf (partNames { l with made := l.made ++ [m] })) [(n27, 0)] = none := by
        refine mapM_none_of (x := (n27, 0)) (by simp) ?_
        show ((numsOf (partNames { l with made := l.made ++ [m] })).lookup n27).map _ = none
        have : (numsOf (partNames { l with made := l.made ++ [m] })).lookup n27 = none := by
          refine nums_none _ 0 n27 ?_
          rw [pnl2]
          intro z
          rcases List.mem_append.mp z with z | z
          · exact o27 (lin n27 z)
          · exact n67 (List.mem_singleton.mp z)
        rw [this]
        rfl
      rw [this]
      rfl
  refine ⟨rok, by rw [List.length_append, List.length_singleton]; omega, ⟨⟨rok, by simp, fun pt hpt => ?_, fun b hb => ?_⟩, fun b hb => ?_⟩, fun one other most => ⟨xcA C.NN, ?_, rfl⟩⟩
  · rw [hm2] at hpt
    rcases List.mem_append.mp hpt with q | q
    · obtain ⟨p, hp, hl⟩ := paired_mem h2 pt q
      exact part_ok hl (bt_txt hn h p (by rw [e]; simp [hp]))
    · rw [List.mem_singleton.mp q]
      have lk := part_ok h3 lt
      refine ⟨?_, ?_, fun x hx => ?_⟩
      · rw [pnl2, List.nodup_append]
        exact ⟨lt.nd, by simp, fun a ha c hc e => o26 (by rw [← List.mem_singleton.mp hc, ← e]; exact lin a ha)⟩
      · rw [pnl2, List.length_append, List.length_singleton, names_len]
        have := lt.ah
        omega
      · have hx : x ∈ l.made ++ [m] := hx
        rcases List.mem_append.mp hx with z | z
        · exact lk.items x z
        · rw [List.mem_singleton.mp z, hm1]
          exact (by decide : 1 ≤ 1000)
  · rw [bnone] at hb; cases hb
  · rw [bnone] at hb; cases hb
  · unfold judgeI
    dsimp only
    rw [bnone]
end
end K60
/-! text L1 -/
set_option Elab.async false
set_option linter.all false
set_option maxRecDepth 100000
set_option maxHeartbeats 4000000
namespace K60
open PySem PyProof.Rows Rl
open PySem.Spec hiding Row
open L2 (E0 XK Hp V atI ixN inClass defScope upd upd_same upd_ne HO Same)
/-! ### the law's own facts -/
def lawS (xs : List Int) : List Int := cutR xs none (some 2) ++ cutR xs (some 7) (some 43)
theorem cut2 (xs : List Int) : cutR xs none (some 2) = xs.take 2 := by
  unfold cutR
  rw [HT.sIx_none, show (2 : Int) = ((2 : Nat) : Int) from rfl, HT.sIx_nat, List.drop_zero, Nat.sub_zero]
  apply List.ext_getElem?
  intro i
  rw [List.getElem?_take, List.getElem?_take]
  by_cases h : i < xs.length
  · by_cases h2 : i < 2
    · rw [if_pos (by omega), if_pos h2]
    · rw [if_neg (by omega), if_neg h2]
  · rw [List.getElem?_eq_none (by omega)]
    split <;> split <;> rfl
theorem cut7 (xs : List Int) : (cutR xs (some 7) (some 43)).length ≤ 36 ∧ (xs.length ≤ 7 → cutR xs (some 7) (some 43) = []) := by
  unfold cutR
  rw [show (7 : Int) = ((7 : Nat) : Int) from rfl, show (43 : Int) = ((43 : Nat) : Int) from rfl, HT.sIx_nat, HT.sIx_nat]
  refine ⟨?_, fun h => ?_⟩
  · rw [List.length_take]; omega
  · rw [show min 43 xs.length - min 7 xs.length = 0 by omega, List.take_zero]
theorem lawS_at (xs : List Int) {k : Nat} (hk : k < 2) : cellAt (lawS xs) k = cellAt xs k := by
  unfold cellAt lawS
  rw [cut2]
  by_cases h : k < xs.length
  · rw [List.getElem?_append_left (by rw [List.length_take]; omega), List.getElem?_take_of_lt hk]
  · rw [(cut7 xs).2 (by omega), List.append_nil, List.getElem?_take_of_lt hk]
theorem names_same (xs : List Int) (n : Nat) : namesBy (lawS xs) n = namesBy xs n := by
  unfold namesBy baseOf stepOf
  rw [lawS_at xs (by decide), lawS_at xs (by decide)]
theorem n28_of (xs : List Int) : N28 (namesBy (lawS xs) 26) (namesBy xs 28) := by
  obtain ⟨h1, h2, h3⟩ := namesBy_good xs (n := 28) (Nat.le_refl _)
  refine ⟨h3, h1, h2, ?_⟩
  rw [names_same]
  exact namesUp_pre (baseOf xs) (stepOf xs) (k := 26) 28 (by decide)
/-- hours given and none: what is asked of them -/
theorem part_good {ps : List MPlan} (hb : BookGood ps) {most : Int} (hm : most ≤ 8) {i j : Nat} (hi : i < DEEP) (hj : j < DEEP) {p q : MPlan} (ei : ps[i]? = some p) (ej : ps[j]? = some q) (hl : q.givens.length = p.givens.length) {mine theirs : Form} (fm : toldI ps most p.name = some mine) (ft : toldI ps most q.name = some theirs)
    (xs : List Int) (o0 o1 : Option (List Int)) : goodPart ⟨xs, ps, i, j, o0, o1⟩ (laterI theirs mine 1 p.givens.length) (-1) ∧ goodPart ⟨xs, ps, i, j, o0, o1⟩ (laterI mine theirs 1 p.givens.length) 1 := by
  obtain ⟨fs, e1, e2⟩ : ∃ fs, formsN ps most DEEP p.name = some fs ∧ fs.getLastD [] = mine := by
    unfold toldI lastF at fm
    cases e : formsN ps most DEEP p.name with
    | none => rw [e] at fm; cases fm
    | some fs => rw [e] at fm; exact ⟨fs, rfl, Option.some.inj fm⟩
  obtain ⟨gs, e3, e4⟩ : ∃ fs, formsN ps most DEEP q.name = some fs ∧ fs.getLastD [] = theirs := by
    unfold toldI lastF at ft
    cases e : formsN ps most DEEP q.name with
    | none => rw [e] at ft; cases ft
    | some fs => rw [e] at ft; exact ⟨fs, rfl, Option.some.inj ft⟩
  have cm : ∀ hs : List Int, hs.length = p.givens.length → Come mine hs (runN ps DEEP i hs) := fun hs h => by
    rw [← e2]; exact forms_come hb hm DEEP i p fs hs hi ei e1 h
  have ct : ∀ hs : List Int, hs.length = p.givens.length → Come theirs hs (runN ps DEEP j hs) := fun hs h => by
    rw [← e4]; exact forms_come hb hm DEEP j q gs hs hj ej e3 (by rw [hl]; exact h)
  have gm : FormGood p.givens.length mine := by
    obtain ⟨p2, a1, a2, a3⟩ := forms_good hb hm DEEP i p fs hi ei e1
    rw [planBy_at hb.nd ei] at a1
    cases a1
    rw [← e2]
    exact a3 _ (getLastD_mem fun z => by
      rw [z] at a2
      have a2 : 0 = p.givens.length + p.rows.length := a2
      exact (hb.plan i p ei).rne (List.eq_nil_of_length_eq_zero (by omega)))
  have gt : FormGood p.givens.length theirs := by
    obtain ⟨p2, a1, a2, a3⟩ := forms_good hb hm DEEP j q gs hj ej e3
    rw [planBy_at hb.nd ej] at a1
    cases a1
    rw [← e4, ← hl]
    exact a3 _ (getLastD_mem fun z => by
      rw [z] at a2
      have a2 : 0 = q.givens.length + q.rows.length := a2
      exact (hb.plan j q ej).rne (List.eq_nil_of_length_eq_zero (by omega)))
  have ga : givAt ps i = p.givens.length := by unfold givAt; rw [ei]; rfl
  have hol : ∀ turn, (hoursOf xs (givAt ps i) turn).length = p.givens.length := fun turn => by unfold hoursOf; rw [List.length_map, List.length_range, ga]
  constructor
  · unfold goodPart
    cases e : laterI theirs mine 1 p.givens.length with
    | none =>
      intro turn _
      have := never_come e (ct _ (hol turn)) (cm _ (hol turn))
      unfold partedI
      refine decide_eq_false ?_
      show ¬ (runN ps DEEP i (hoursOf xs (givAt ps i) turn) - runN ps DEEP j (hoursOf xs (givAt ps i) turn)) * -1 > 0
      omega
    | some hs =>
      have l1 := (later_some (by decide) gt.ok gm.ok gt.ky gm.ky e).1
      obtain ⟨h1, h2⟩ := later_come gt.ok gm.ok gt.ky gm.ky e (ct hs l1) (cm hs l1)
      refine ⟨by rw [h1]; exact ga.symm, decide_eq_true ?_⟩
      show (runN ps DEEP i hs - runN ps DEEP j hs) * -1 > 0
      omega
  · unfold goodPart
    cases e : laterI mine theirs 1 p.givens.length with
    | none =>
      intro turn _
      have := never_come e (cm _ (hol turn)) (ct _ (hol turn))
      unfold partedI
      refine decide_eq_false ?_
      show ¬ (runN ps DEEP i (hoursOf xs (givAt ps i) turn) - runN ps DEEP j (hoursOf xs (givAt ps i) turn)) * 1 > 0
      omega
    | some hs =>
      have l1 := (later_some (by decide) gm.ok gt.ok gm.ky gt.ky e).1
      obtain ⟨h1, h2⟩ := later_come gm.ok gt.ok gm.ky gt.ky e (cm hs l1) (ct hs l1)
      refine ⟨by rw [h1]; exact ga.symm, decide_eq_true ?_⟩
      show (runN ps DEEP i hs - runN ps DEEP j hs) * 1 > 0
      omega
end K60
/-! text LW -/
set_option Elab.async false
set_option linter.all false
set_option maxRecDepth 100000
set_option maxHeartbeats 4000000
namespace K60
open PySem PyProof.Rows Rl
open PySem.Spec hiding Row
open L2 (E0 XK Hp V atI ixN inClass defScope upd upd_same upd_ne HO Same)
abbrev P_law (Γ : Cg) : Prop := Fn0 Γ 43 "law" ["script"] (Sp0 (fun _ : List Int => True) (fun xs => [rQ Γ.K xs]) fun _ => rB true)
theorem choice_lt {ps : List MPlan} (hne : ps ≠ []) (i : Nat) (cell : Int) : choiceI ps i cell < ps.length := by
  have hpos : 0 < ps.length := List.length_pos_iff.mpr hne
  have hm : ∀ k ∈ someOf ps i cell, k < ps.length := fun k hk => by
    unfold someOf at hk
    split at hk
    · exact List.mem_range.mp hk
    · exact List.mem_range.mp (List.mem_filter.mp hk).1
  unfold choiceI
  rw [List.getD_eq_getElem?_getD]
  cases e : (someOf ps i cell)[((cell / 12) % (someOf ps i cell).length).toNat]? with
  | none => exact hpos
  | some k => exact hm k (List.mem_of_getElem? e)
theorem spoil0 (xs : List Int) (s : Str) : recsOf (extra s "all" (nmAt (namesBy xs 28) 1) (nmAt (namesBy xs 28) 2)) = spoil xs s 0 := by
  unfold spoil
  rw [if_pos rfl, extra_recs]
theorem spoil1 (xs : List Int) (s : Str) : recsOf (extra (nmAt (namesBy xs 28) 27) (nmAt (namesBy xs 28) 27) (nmAt (namesBy xs 28) 1) (nmAt (namesBy xs 28) 2)) = spoil xs s 1 := by
  unfold spoil
  rw [if_neg (by decide), if_pos rfl, extra_recs]
theorem spoil2 (xs : List Int) (s : Str) : [NRec.made (nmAt (namesBy xs 28) 26) "all" [(nmAt (namesBy xs 28) 27, 0)]] = spoil xs s 2 := by
  unfold spoil
  rw [if_neg (by decide), if_neg (by decide)]
theorem notN_form {f : Form} : NotN (rOF (some f)) := notN_L
theorem notN_oh {hs : List Int} : NotN (rOH (some hs)) := notN_L
section
variable {Γ : Cg} {C : Cls} (G : Gk Γ C) {AE : Addr} (X : Gx Γ C AE)
include G X
theorem law_body (FC : P_cell Γ) (FP : P_plans_by Γ) (FR : P_rows Γ) (FH : P_choice Γ) (FN : P_names_by Γ) (FS : P_spoilt Γ) (FE : P_caught Γ C) (FK : P_class Γ C) (FA : P_alone Γ C) (FT : P_ltold Γ) (FF : P_lform Γ) (FG : P_right Γ) (xs : List Int) : ∃ o, RetO o (.ok (rB true)) ∧ RS Γ Llaw ⟨E0, 42⟩ (L2.defBody (top 87)) (Rl.envOf Llaw [rQ Γ.K xs]) o := by
  have hn := nmsGood (lawS xs)
  have hb := plans_built (lawS xs)
  have h28 := n28_of xs
  generalize hnames : namesBy (lawS xs) 26 = names at hn hb h28
  generalize hps : plansBy (lawS xs) = ps at hb
  have few := hb.few
  have pne := hb.ne
  have ppos : 0 < ps.length := List.length_pos_iff.mpr pne
  have rok := bt_read hn hb
  have good := bt_good hn hb
  generalize hcell : cellAt xs 2 = cell
  generalize hmost : 1 + cellAt xs 3 % 8 = most
  have m1 : 1 ≤ most ∧ most ≤ 8 := by
    have : 0 ≤ cellAt xs 3 % 8 := Int.emod_nonneg _ (by decide)
    have : cellAt xs 3 % 8 < 8 := Int.emod_lt_of_pos _ (by decide)
    omega
  obtain ⟨i, hi1, hi2⟩ : ∃ i : Nat, cellAt xs 4 % (ps.length : Int) = (i : Int) ∧ i < ps.length := by
    have h1 : 0 ≤ cellAt xs 4 % (ps.length : Int) := Int.emod_nonneg _ (by omega)
    have h2 : cellAt xs 4 % (ps.length : Int) < ps.length := Int.emod_lt_of_pos _ (by omega)
    exact ⟨(cellAt xs 4 % (ps.length : Int)).toNat, by omega, by omega⟩
  have hj2 := choice_lt pne i cell
  generalize hj : choiceI ps i cell = j at hj2
  obtain ⟨p, ei⟩ : ∃ p, ps[i]? = some p := ⟨_, List.getElem?_eq_getElem hi2⟩
  obtain ⟨q, ej⟩ : ∃ q, ps[j]? = some q := ⟨_, List.getElem?_eq_getElem hj2⟩
  obtain ⟨p0, e0⟩ : ∃ p0, ps[0]? = some p0 := ⟨_, List.getElem?_eq_getElem ppos⟩
  have bp := bt_plan hn hb ei
  have bq := bt_plan hn hb ej
  have rlen := bt_few hn hb
  have rrec := rok.bp.rd.ok
  have sumlen : (((recsAll ps).map recText).map (·.length)).sum + ((recsAll ps).map recText).length * ("\n" : Str).length ≤ 16777216 := by
    have h2 : (((recsAll ps).map recText).map (·.length)).sum ≤ ((recsAll ps).map recText).length * 2200 := sumlen_le fun x hx => by
      obtain ⟨r, hr, rfl⟩ := List.mem_map.mp hx
      exact recText_len (rrec.ok r hr)
    have h3 : ("\n" : Str).length = 1 := by decide +kernel
    rw [List.length_map] at h2 ⊢
    rw [h3]
    omega
  have o27 : nmAt (namesBy xs 28) 27 ∉ names := n28_out hn h28 (k := 27) (by decide) (by decide)
  have strange := bt_strange hn hb o27
  generalize hst : nmAt (namesBy xs 28) 27 = st at o27 strange
  refine ⟨.ret (rB true), rfl, ?_⟩
  have hat : atI (ps.map rLP) (i : Int) = some (rLP p) := atI_nat (by rw [List.getElem?_map, ei]; rfl)
  have hat2 : atI (ps.map rLP) (j : Int) = some (rLP q) := atI_nat (by rw [List.getElem?_map, ej]; rfl)
  have n3 := (namesBy_good xs (n := 28) (Nat.le_refl _)).2.2
  refine rs_cons (env1 := [.dat (rQ Γ.K xs), .dat (rI cell), .no, .no, .no, .no, .no, .no, .no, .no, .no, .no, .no, .no, .no]) (r1_set 1 (RE.eq (re_call FC (xs, 2) trivial (ra_cons (rv 0) (ra_cons re_int ra_nil))) (congrArg rI hcell))) ?_
  refine rs_cons (env1 := [.dat (rQ Γ.K xs), .dat (rI cell), .dat (rI most), .no, .no, .no, .no, .no, .no, .no, .no, .no, .no, .no, .no]) (r1_set 2 (RE.eq (re_add re_int (re_mod (by decide) (re_call FC (xs, 3) trivial (ra_cons (rv 0) (ra_cons re_int ra_nil))) re_int)) (congrArg rI hmost))) ?_
  refine rs_cons (env1 := [.dat (rQ Γ.K xs), .dat (rI cell), .dat (rI most), .dat (rLPs ps), .no, .no, .no, .no, .no, .no, .no, .no, .no, .no, .no]) (r1_set 3 (RE.eq (re_call FP (lawS xs) trivial (ra_cons (RE.sub (ra := rL ((lawS xs).map rI)) (RE.eq (re_addl (xs := cutR (xs.map rI) none (some 2)) (ys := cutR (xs.map rI) (some 7) (some 43)) ?_ (rf_slL (i := none) (j := some 2) (rp_q (ns := xs) (rv 0)) ro_none (ro_some re_int)).re (rf_slL (i := some 7) (j := some 43) (rp_q (ns := xs) (rv 0)) (ro_some re_int) (ro_some re_int)).re) ?_) fun B v h => rL_rQ h) ra_nil)) (congrArg rLPs hps))) ?_
  · rw [cutR_map, cutR_map, List.length_map, List.length_map, cut2, List.length_take]
    have := (cut7 xs).1
    rw [sizeLine_eq]
    omega
  · unfold lawS
    rw [List.map_append, cutR_map, cutR_map]
  refine rs_cons (env1 := [.dat (rQ Γ.K xs), .dat (rI cell), .dat (rI most), .dat (rLPs ps), .dat (rS (bookText (recsAll ps))), .no, .no, .no, .no, .no, .no, .no, .no, .no, .no]) (r1_set 4 (re_join (y := "\n") (ys := (recsAll ps).map recText) sumlen re_str (re_call FR ps (bt_text hn hb) (ra_cons (rv 3) ra_nil)))) ?_
  refine rs_cons (env1 := [.dat (rQ Γ.K xs), .dat (rI cell), .dat (rI most), .dat (rLPs ps), .dat (rS (bookText (recsAll ps))), .dat (rI i), .no, .no, .no, .no, .no, .no, .no, .no, .no]) (r1_set 5 (RE.eq (re_mod (j := (ps.length : Int)) (by omega) (re_call FC (xs, 4) trivial (ra_cons (rv 0) (ra_cons re_int ra_nil))) (RE.eq (re_len (G.bi _ (by decide)) (rp_of (rs := ps.map rLP) (rv 3))) (by rw [List.length_map]))) (congrArg rI hi1))) ?_
  refine rs_cons (env1 := [.dat (rQ Γ.K xs), .dat (rI cell), .dat (rI most), .dat (rLPs ps), .dat (rS (bookText (recsAll ps))), .dat (rI i), .dat (rI j), .no, .no, .no, .no, .no, .no, .no, .no]) (r1_set 6 (RE.eq (re_call FH (ps, i, cell) ⟨by show ps.length ≤ 1000; omega, hi2⟩ (ra_cons (rv 3) (ra_cons (rv 5) (ra_cons (rv 1) ra_nil)))) (congrArg (fun k : Nat => rI (k : Int)) hj))) ?_
  refine rs_cons (env1 := [.dat (rQ Γ.K xs), .dat (rI cell), .dat (rI most), .dat (rLPs ps), .dat (rS (bookText (recsAll ps))), .dat (rI i), .dat (rI j), .dat (rS p.name), .no, .no, .no, .no, .no, .no, .no]) (r1_set 7 (re_lp0 G (p := p) (re_ixL (rs := ps.map rLP) (i := (i : Int)) hat (rp_of (rv 3)) (rv 5)))) ?_
  refine rs_cons (env1 := [.dat (rQ Γ.K xs), .dat (rI cell), .dat (rI most), .dat (rLPs ps), .dat (rS (bookText (recsAll ps))), .dat (rI i), .dat (rI j), .dat (rS p.name), .dat (rS q.name), .no, .no, .no, .no, .no, .no]) (r1_set 8 (re_lp0 G (p := q) (re_ixL (rs := ps.map rLP) (i := (j : Int)) hat2 (rp_of (rv 3)) (rv 6)))) ?_
  let e9 : List Sl := [.dat (rQ Γ.K xs), .dat (rI cell), .dat (rI most), .dat (rLPs ps), .dat (rS (bookText (recsAll ps))), .dat (rI i), .dat (rI j), .dat (rS p.name), .dat (rS q.name), .dat (rS st), .no, .no, .no, .no, .no]
  refine rs_cons (env1 := e9) (r1_set 9 (RE.eq (re_ixL (rs := (namesBy xs 28).map rS) (i := 27) (nm_at (by decide) (by rw [n3]; decide)) (rp_of (re_call FN (xs, 28) (show (28 : Nat) ≤ 100 by decide) (ra_cons (rv 0) (ra_cons re_int ra_nil)))) re_int) (congrArg rS hst))) ?_
  by_cases h5 : cellAt xs 5 % 8 = 5
  · obtain ⟨w, hw1, hw2⟩ : ∃ w : Nat, cellAt xs 5 / 8 % 3 = (w : Int) ∧ w < 3 := by
      have h1 : 0 ≤ cellAt xs 5 / 8 % 3 := Int.emod_nonneg _ (by decide)
      have h2 : cellAt xs 5 / 8 % 3 < 3 := Int.emod_lt_of_pos _ (by decide)
      exact ⟨(cellAt xs 5 / 8 % 3).toNat, by omega, by omega⟩
    have ref : Refused C (recsAll ps ++ spoil xs (firstName ps) w) (errOf C w) ∧ errOf C w ∈ [C.BN, C.BQ, C.NN, C.UL] := by
      have ef : firstName ps = p0.name := by unfold firstName; rw [e0]; rfl
      rw [ef]
      have : w = 0 ∨ w = 1 ∨ w = 2 := by omega
      rcases this with rfl | rfl | rfl
      · exact ⟨spoil0 xs p0.name ▸ sp0 hn h28 hb C e0, List.mem_cons_self⟩
      · exact ⟨spoil1 xs p0.name ▸ sp1 hn h28 hb C, List.mem_cons_of_mem _ List.mem_cons_self⟩
      · exact ⟨spoil2 xs p0.name ▸ sp2 hn h28 hb C, List.mem_cons_of_mem _ (List.mem_cons_of_mem _ List.mem_cons_self)⟩
    obtain ⟨⟨r1, r2, r3, r4⟩, r5⟩ := ref
    have p0l : p0.name.length ≤ 12 := (isName_facts (bt_isname hn hb e0)).len
    generalize hbad : recsAll ps ++ spoil xs (firstName ps) w = bad at r1 r2 r3 r4
    let e10 : List Sl := [.dat (rQ Γ.K xs), .dat (rI cell), .dat (rI most), .dat (rLPs ps), .dat (rS (bookText (recsAll ps))), .dat (rI i), .dat (rI j), .dat (rS p.name), .dat (rS q.name), .dat (rS st), .dat (rI w), .no, .no, .no, .no]
    let e11 : List Sl := [.dat (rQ Γ.K xs), .dat (rI cell), .dat (rI most), .dat (rLPs ps), .dat (rS (bookText (recsAll ps))), .dat (rI i), .dat (rI j), .dat (rS p.name), .dat (rS q.name), .dat (rS st), .dat (rI w), .dat (rS (bookText bad)), .no, .no, .no]
    obtain ⟨s, hs⟩ : ∃ s : Str, atI [rS p.name, rS st] (cell % 2) = some (rS s) := by
      have h1 : 0 ≤ cell % 2 := Int.emod_nonneg _ (by decide)
      have h2 : cell % 2 < 2 := Int.emod_lt_of_pos _ (by decide)
      generalize cell % 2 = r at h1 h2
      have : r = 0 ∨ r = 1 := by omega
      rcases this with rfl | rfl
      · exact ⟨p.name, rfl⟩
      · exact ⟨st, rfl⟩
    refine rs_stop (r1_if (k := true) (RT.eq (rt_eqI (re_mod (by decide) (re_call FC (xs, 5) trivial (ra_cons (rv 0) (ra_cons re_int ra_nil))) re_int) re_int) (decide_eq_true h5)) (fun _ => ?_) (fun h => by cases h))
    refine rs_cons (env1 := e10) (r1_set 10 (RE.eq (re_mod (by decide) (re_fdiv ⟨by decide, by decide⟩ (re_call FC (xs, 5) trivial (ra_cons (rv 0) (ra_cons re_int ra_nil))) re_int) re_int) (congrArg rI hw1))) ?_
    refine rs_cons (env1 := e11) (r1_set 11 (RE.eq (re_call FS ⟨xs, ps, recsAll ps, w⟩ ⟨rrec, rok.bp.rd.ne, by show (recsAll ps).length ≤ 400; omega, p0, e0, p0l⟩ (ra_cons (rv 0) (ra_cons (rv 3) (ra_cons (rv 4) (ra_cons (rv 10) ra_nil))))) (congrArg (fun l => rS (bookText l)) hbad))) ?_
    exact rs_one (r1_ret (re_call FK w hw2 (ra_cons (re_call FE (⟨bad, s, q.name, most⟩, errOf C w) ⟨⟨r3, m1.2, m1.1⟩, r4 _ _ _, r5⟩ (ra_cons (rv 11) (ra_cons (re_ixL (rs := [rS p.name, rS st]) (i := cell % 2) hs (rp_of (re_lst (ra_cons (rv 7) (ra_cons (rv 9) ra_nil)))) (re_mod (by decide) (rv 1) re_int)) (ra_cons (rv 8) (ra_cons (rv 2) ra_nil))))) (ra_cons (rv 10) ra_nil))))
  refine rs_cons (env1 := e9) (r1_if (k := false) (RT.eq (rt_eqI (re_mod (by decide) (re_call FC (xs, 5) trivial (ra_cons (rv 0) (ra_cons re_int ra_nil))) re_int) re_int) (decide_eq_false h5)) (fun h => by cases h) (fun _ => rs_nil)) ?_
  by_cases h3 : cell % 12 = 3
  · let e10 : List Sl := [.dat (rQ Γ.K xs), .dat (rI cell), .dat (rI most), .dat (rLPs ps), .dat (rS (bookText (recsAll ps))), .dat (rI i), .dat (rI j), .dat (rS p.name), .dat (rS st), .dat (rS st), .no, .no, .no, .no, .no]
    let e12 : List Sl := [.dat (rQ Γ.K xs), .dat (rI cell), .dat (rI most), .dat (rLPs ps), .dat (rS (bookText (recsAll ps))), .dat (rI i), .dat (rI j), .dat (rS p.name), .dat (rS st), .dat (rS st), .no, .no, .dat (rTold (("plan" : Str), none)), .no, .no]
    have w1 : wordBook ps p.name st most = (("plan" : Str), none) := by unfold wordBook; rw [bp]; dsimp only; rw [strange]
    have w2 : wordBook ps st p.name most = (("plan" : Str), none) := by unfold wordBook; rw [strange]
    refine rs_cons (env1 := e10) (r1_if (k := true) (RT.eq (rt_eqI (re_mod (by decide) (rv 1) re_int) re_int) (decide_eq_true h3)) (fun _ => rs_one (r1_set 8 (rv 9))) (fun h => by cases h)) ?_
    refine rs_cons (env1 := e12) (r1_set 12 (RE.eq (re_call FT ⟨recsAll ps, ps, p.name, st, most⟩ ⟨rok, m1⟩ (ra_cons (rv 4) (ra_cons (rv 7) (ra_cons (rv 8) (ra_cons (rv 2) ra_nil))))) (congrArg rTold w1))) ?_
    refine rs_stop (r1_if (k := true) (RT.eq (rt_eqI (re_mod (by decide) (rv 1) re_int) re_int) (decide_eq_true h3)) (fun _ => rs_one (r1_ret ?_)) (fun h => by cases h))
    exact RE.eq (re_and (k := true) (l := true) (RE.eq (re_eqS (re_ixT (rs := [rS "plan", rN]) (i := 0) (at0 _ _) (rv 12) re_int) re_str) (congrArg rB (decide_eq_true rfl))) fun _ => re_one (RE.eq (re_eqS (re_ixT (rs := [rS "plan", rN]) (i := 0) (at0 _ _) (RE.eq (re_call FT ⟨recsAll ps, ps, st, p.name, most⟩ ⟨rok, m1⟩ (ra_cons (rv 4) (ra_cons (rv 8) (ra_cons (rv 7) (ra_cons (rv 2) ra_nil))))) (congrArg rTold w2)) re_int) re_str) (congrArg rB (decide_eq_true rfl)))) rfl
  refine rs_cons (env1 := e9) (r1_if (k := false) (RT.eq (rt_eqI (re_mod (by decide) (rv 1) re_int) re_int) (decide_eq_false h3)) (fun h => by cases h) (fun _ => rs_nil)) ?_
  obtain ⟨fw, hfw⟩ : ∃ fw, wordBook ps p.name q.name most = fw := ⟨_, rfl⟩
  let e12 : List Sl := [.dat (rQ Γ.K xs), .dat (rI cell), .dat (rI most), .dat (rLPs ps), .dat (rS (bookText (recsAll ps))), .dat (rI i), .dat (rI j), .dat (rS p.name), .dat (rS q.name), .dat (rS st), .no, .no, .dat (rTold fw), .no, .no]
  refine rs_cons (env1 := e12) (r1_set 12 (RE.eq (re_call FT ⟨recsAll ps, ps, p.name, q.name, most⟩ ⟨rok, m1⟩ (ra_cons (rv 4) (ra_cons (rv 7) (ra_cons (rv 8) (ra_cons (rv 2) ra_nil))))) (congrArg rTold hfw))) ?_
  refine rs_cons (env1 := e12) (r1_if (k := false) (RT.eq (rt_eqI (re_mod (by decide) (rv 1) re_int) re_int) (decide_eq_false h3)) (fun h => by cases h) (fun _ => rs_nil)) ?_
  have gp : givAt ps i = p.givens.length := by unfold givAt; rw [ei]; rfl
  have gq : givAt ps j = q.givens.length := by unfold givAt; rw [ej]; rfl
  have wb : wordBook ps p.name q.name most = if q.givens.length = p.givens.length then (match toldI ps most p.name with
        | none => (("many" : Str), none)
        | some mine => match toldI ps most q.name with
          | none => (("many" : Str), none)
          | some theirs => (("" : Str), some (mine, theirs, p.givens.length))) else (("unlike" : Str), none) := by
    unfold wordBook; rw [bp]; dsimp only; rw [bq] <;> rfl
  by_cases hg : q.givens.length = p.givens.length
  · rw [if_pos hg] at wb
    have isn : ∀ o : Option Form, (o.isNone = true ∧ rOF o = rN) ∨ (o.isNone = false ∧ NotN (rOF o)) := fun o => by
      cases o with
      | none => exact .inl ⟨rfl, rfl⟩
      | some f => exact .inr ⟨rfl, notN_L⟩
    have isn2 : ∀ o : Option (List Int), (o.isNone = true ∧ rOH o = rN) ∨ (o.isNone = false ∧ NotN (rOH o)) := fun o => by
      cases o with
      | none => exact .inl ⟨rfl, rfl⟩
      | some f => exact .inr ⟨rfl, notN_L⟩
    refine rs_cons (env1 := e12) (r1_if (k := false) (RT.eq (rt_neI (i := (givAt ps i : Int)) (j := (givAt ps j : Int)) (RE.eq (re_len (G.bi _ (by decide)) (rp_of (re_givs G hi2 (rv 3) (rv 5) (by intro _ _; rfl)))) (by rw [givs_len G])) (RE.eq (re_len (G.bi _ (by decide)) (rp_of (re_givs G hj2 (rv 3) (rv 6) (by intro _ _; rfl)))) (by rw [givs_len G]))) ?_) (fun h => by cases h) (fun _ => rs_nil)) ?_
    · rw [decide_eq_true (by omega)]; rfl
    by_cases hnone : ((toldI ps most p.name).isNone || (toldI ps most q.name).isNone) = true
    · have ew : fw = (("many" : Str), none) := by
        rw [← hfw, wb]
        cases e1 : toldI ps most p.name with
        | none => rfl
        | some mine =>
          cases e2 : toldI ps most q.name with
          | none => rfl
          | some theirs => rw [e1, e2] at hnone; cases hnone
      subst ew
      refine rs_stop (r1_if (k := true) (RT.eq (rw_or (rt_isN _ (re_call FF ⟨recsAll ps, ps, p.name, most⟩ ⟨rok, m1.1, m1.2, p, bp⟩ (ra_cons (rv 4) (ra_cons (rv 7) (ra_cons (rv 2) ra_nil)))) (isn _)) fun _ => rw_or1 (rt_isN _ (re_call FF ⟨recsAll ps, ps, q.name, most⟩ ⟨rok, m1.1, m1.2, q, bq⟩ (ra_cons (rv 4) (ra_cons (rv 8) (ra_cons (rv 2) ra_nil)))) (isn _))).pt hnone) (fun _ => rs_one (r1_ret ?_)) (fun h => by cases h))
      exact RE.eq (re_eqS (re_ixT (rs := [rS "many", rN]) (i := 0) (at0 _ _) (rv 12) re_int) re_str) (congrArg rB (decide_eq_true rfl))
    · refine rs_cons (env1 := e12) (r1_if (k := false) (RT.eq (rw_or (rt_isN _ (re_call FF ⟨recsAll ps, ps, p.name, most⟩ ⟨rok, m1.1, m1.2, p, bp⟩ (ra_cons (rv 4) (ra_cons (rv 7) (ra_cons (rv 2) ra_nil)))) (isn _)) fun _ => rw_or1 (rt_isN _ (re_call FF ⟨recsAll ps, ps, q.name, most⟩ ⟨rok, m1.1, m1.2, q, bq⟩ (ra_cons (rv 4) (ra_cons (rv 8) (ra_cons (rv 2) ra_nil)))) (isn _))).pt (Bool.eq_false_iff.mpr hnone)) (fun h => by cases h) (fun _ => rs_nil)) ?_
      obtain ⟨mine, fm⟩ : ∃ mine, toldI ps most p.name = some mine := by
        cases e1 : toldI ps most p.name with
        | none => rw [e1] at hnone; exact absurd rfl hnone
        | some mine => exact ⟨mine, rfl⟩
      obtain ⟨theirs, ft⟩ : ∃ theirs, toldI ps most q.name = some theirs := by
        cases e1 : toldI ps most q.name with
        | none => rw [e1] at hnone; exact absurd (by simp) hnone
        | some theirs => exact ⟨theirs, rfl⟩
      have ew : fw = (("" : Str), some (mine, theirs, p.givens.length)) := by
        rw [← hfw, wb, fm]
        dsimp only
        rw [ft]
      subst ew
      have et : wordBook ps q.name p.name most = (("" : Str), some (theirs, mine, p.givens.length)) := by
        unfold wordBook
        rw [bq]
        dsimp only
        rw [bp]
        dsimp only
        rw [if_pos hg.symm, ft]
        dsimp only
        rw [fm]
        dsimp only
        rw [hg]
      have hi11 : i < DEEP := by show i < 11; omega
      have hj11 : j < DEEP := by show j < 11; omega
      have g1 := fun o0 o1 => part_good good m1.2 hi11 hj11 ei ej hg fm ft xs o0 o1
      have g2 := fun o0 o1 => part_good good m1.2 hj11 hi11 ej ei hg.symm ft fm xs o0 o1
      rw [hg] at g2
      have same : givAt ps i = givAt ps j := by omega
      have pr1 : RightPre ⟨xs, ps, i, j, laterI theirs mine 1 p.givens.length, laterI mine theirs 1 p.givens.length⟩ := ⟨good, by show ps.length ≤ 1000; omega, ⟨hi11, hi2⟩, ⟨hj11, hj2⟩, same, (g1 _ _).1, (g1 _ _).2⟩
      have pr2 : RightPre ⟨xs, ps, j, i, laterI mine theirs 1 p.givens.length, laterI theirs mine 1 p.givens.length⟩ := ⟨good, by show ps.length ≤ 1000; omega, ⟨hj11, hj2⟩, ⟨hi11, hi2⟩, same.symm, (g2 _ _).1, (g2 _ _).2⟩
      have f1 : ∀ {L E e pos p2 j env}, RE Γ L E e env (rTold (("" : Str), some (mine, theirs, p.givens.length))) → RE Γ L E (.Subscript e (.Constant (.int 1) j p2) pos) env (rT [rOH (laterI theirs mine 1 p.givens.length), rOH (laterI mine theirs 1 p.givens.length)]) := fun h => re_ixT (rs := [rS "", rT [rOH (laterI theirs mine 1 p.givens.length), rOH (laterI mine theirs 1 p.givens.length)]]) (i := 1) (atI_nat (n := 1) rfl) h re_int
      have f2 : ∀ {L E e pos p2 j env}, RE Γ L E e env (rTold (("" : Str), some (theirs, mine, p.givens.length))) → RE Γ L E (.Subscript e (.Constant (.int 1) j p2) pos) env (rT [rOH (laterI mine theirs 1 p.givens.length), rOH (laterI theirs mine 1 p.givens.length)]) := fun h => re_ixT (rs := [rS "", rT [rOH (laterI mine theirs 1 p.givens.length), rOH (laterI theirs mine 1 p.givens.length)]]) (i := 1) (atI_nat (n := 1) rfl) h re_int
      have f0 : ∀ {L E e pos p2 j env}, RE Γ L E e env (rTold (("" : Str), some (mine, theirs, p.givens.length))) → RE Γ L E (.Subscript e (.Constant (.int 0) j p2) pos) env (rS "") := fun h => re_ixT (rs := [rS "", rT [rOH (laterI theirs mine 1 p.givens.length), rOH (laterI mine theirs 1 p.givens.length)]]) (i := 0) (at0 _ _) h re_int
      generalize laterI theirs mine 1 p.givens.length = o0 at pr1 pr2 f1 f2
      generalize laterI mine theirs 1 p.givens.length = o1 at pr1 pr2 f1 f2
      let e13 : List Sl := [.dat (rQ Γ.K xs), .dat (rI cell), .dat (rI most), .dat (rLPs ps), .dat (rS (bookText (recsAll ps))), .dat (rI i), .dat (rI j), .dat (rS p.name), .dat (rS q.name), .dat (rS st), .no, .no, .dat (rTold (("" : Str), some (mine, theirs, p.givens.length))), .dat (rT [rOH o1, rOH o0]), .no]
      refine rs_cons (env1 := e13) (r1_set 13 (f2 (RE.eq (re_call FT ⟨recsAll ps, ps, q.name, p.name, most⟩ ⟨rok, m1⟩ (ra_cons (rv 4) (ra_cons (rv 8) (ra_cons (rv 7) (ra_cons (rv 2) ra_nil))))) (congrArg rTold et)))) ?_
      refine rs_cons (env1 := e13) (r1_if (k := false) (RT.eq (rw_or (k := false) (l := false) (RT.eq (rt_neS (i := "") (j := "") (f0 (rv 12)) re_str) (by rw [decide_eq_true rfl]; rfl)) fun _ => rw_or1 (rt_not (k := true) (rt_val (re_call FG ⟨xs, ps, i, j, o0, o1⟩ pr1 (ra_cons (rv 0) (ra_cons (rv 3) (ra_cons (rv 5) (ra_cons (rv 6) (ra_cons (f1 (rv 12)) ra_nil))))))))).pt rfl) (fun h => by cases h) (fun _ => rs_nil)) ?_
      refine rs_cons (env1 := e13) (r1_if (k := false) (rt_not (k := true) (rt_val (re_call FG ⟨xs, ps, j, i, o1, o0⟩ pr2 (ra_cons (rv 0) (ra_cons (rv 3) (ra_cons (rv 6) (ra_cons (rv 5) (ra_cons (rv 13) ra_nil)))))))) (fun h => by cases h) (fun _ => rs_nil)) ?_
      refine rs_one (r1_ret (RE.eq (re_eqD (rf_lc (xs := [o0, o1]) (f := rOH) (h := fun o => rB o.isNone) [("part", 14)] (ri_tup (f1 (rv 12))) (fun k hk => rg_name 14) (fun k hk => re_isN k.isNone (rv 14) (isn2 k)) (show 2 < sizeLine by rw [sizeLine_eq]; decide)).re (re_lst (ra_cons (re_isN o0.isNone (re_ixT (rs := [rOH o1, rOH o0]) (i := 1) (atI_nat (n := 1) rfl) (rv 13) re_int) (isn2 o0)) (ra_cons (re_isN o1.isNone (re_ixT (rs := [rOH o1, rOH o0]) (i := 0) (at0 _ _) (rv 13) re_int) (isn2 o1)) ra_nil))) (rdt_bools (bs := [o0.isNone, o1.isNone])) (rdt_bools (bs := [o0.isNone, o1.isNone])) ?_ ?_) (congrArg rB ?_)))
      · generalize o0.isNone = a
        generalize o1.isNone = b
        cases a <;> cases b <;> rfl
      · generalize o0.isNone = a
        generalize o1.isNone = b
        cases a <;> cases b <;> rfl
      · generalize o0.isNone = a
        generalize o1.isNone = b
        cases a <;> cases b <;> decide +kernel
  · rw [if_neg hg] at wb
    have ew : fw = (("unlike" : Str), none) := by rw [← hfw, wb]
    subst ew
    refine rs_stop (r1_if (k := true) (RT.eq (rt_neI (i := (givAt ps i : Int)) (j := (givAt ps j : Int)) (RE.eq (re_len (G.bi _ (by decide)) (rp_of (re_givs G hi2 (rv 3) (rv 5) (by intro _ _; rfl)))) (by rw [givs_len G])) (RE.eq (re_len (G.bi _ (by decide)) (rp_of (re_givs G hj2 (rv 3) (rv 6) (by intro _ _; rfl)))) (by rw [givs_len G]))) ?_) (fun _ => rs_one (r1_ret ?_)) (fun h => by cases h))
    · rw [decide_eq_false (fun z => hg (by omega))]; rfl
    · have ju : judgeI C ⟨recsAll ps, p.name, q.name, most⟩ = .err (xc0 C.UL) := by
        have ej2 : judgeI C ⟨recsAll ps, p.name, q.name, most⟩ = judgeBook C ps p.name q.name most := by unfold judgeI; dsimp only; rw [rok.eb]; dsimp only; rw [rok.nm, rok.pt]; rfl
        rw [ej2]
        unfold judgeBook
        rw [bp]; dsimp only
        rw [bq]; dsimp only
        rw [if_neg hg]
      exact RE.eq (re_and (k := true) (l := true) (RE.eq (re_eqS (re_ixT (rs := [rS "unlike", rN]) (i := 0) (at0 _ _) (rv 12) re_int) re_str) (congrArg rB (decide_eq_true rfl))) fun _ => re_one (re_call FA () trivial (ra_cons (re_call FE (⟨recsAll ps, p.name, q.name, most⟩, C.UL) ⟨⟨rok.bp, m1.2, m1.1⟩, ⟨xc0 C.UL, ju, rfl⟩, by simp⟩ (ra_cons (rv 4) (ra_cons (rv 7) (ra_cons (rv 8) (ra_cons (rv 2) ra_nil))))) ra_nil))) rfl
end
end K60
/-! text HC -/
set_option Elab.async false
set_option linter.all false
set_option maxRecDepth 100000
set_option maxHeartbeats 4000000
namespace K60
open PySem PyProof.Rows Rl
open PySem.Spec hiding Row
open L2 (E0 XK Hp V atI ixN inClass defScope upd upd_same upd_ne HO Same)
/-- all defs where they stand -/
structure Tp (Γ : Cg) : Prop where
  d12 : DfAt Γ "under" 12 ["row", "other"]
  d13 : DfAt Γ "joined" 13 ["row", "other"]
  d14 : DfAt Γ "shifted" 14 ["row", "wait"]
  d15 : DfAt Γ "thinned" 15 ["rows"]
  d17 : DfAt Γ "thing_form" 17 ["thing"]
  d18 : DfAt Γ "waited" 18 ["form", "wait"]
  d19 : DfAt Γ "in_room" 19 ["form", "most"]
  d20 : DfAt Γ "first_of" 20 ["forms", "most"]
  d21 : DfAt Γ "both_of" 21 ["one", "other"]
  d22 : DfAt Γ "all_of" 22 ["forms", "most"]
  d23 : DfAt Γ "put_into" 23 ["form", "forms", "most"]
  d25 : DfAt Γ "more_waited" 25 ["row", "other"]
  d26 : DfAt Γ "nearest_row" 26 ["form", "row"]
  d27 : DfAt Γ "hours_against" 27 ["one", "row", "turns", "many"]
  d28 : DfAt Γ "later_by" 28 ["one", "other", "turns", "many"]
  d29 : DfAt Γ "compared" 29 ["one", "other", "many"]
  d33 : DfAt Γ "plan_by" 33 ["book", "name"]
  d35 : DfAt Γ "made_form" 35 ["book", "how", "parts", "most"]
  d36 : DfAt Γ "forms_of" 36 ["book", "name", "most"]
  d37 : DfAt Γ "told_form" 37 ["book", "name", "most"]
  d43 : DfAt Γ "is_name" 43 ["text"]
  d44 : DfAt Γ "look_at_names" 44 ["names"]
  d45 : DfAt Γ "look_at_plan" 45 ["plan"]
  d46 : DfAt Γ "look_at_parts" 46 ["plan", "ahead"]
  d47 : DfAt Γ "weights_of" 47 ["book"]
  d48 : DfAt Γ "looked" 48 ["book"]
  d51 : DfAt Γ "are_figures" 51 ["text"]
  d52 : DfAt Γ "item_of" 52 ["text"]
  d53 : DfAt Γ "items_of" 53 ["text"]
  d54 : DfAt Γ "made_of" 54 ["name", "rest"]
  d55 : DfAt Γ "record_of" 55 ["row"]
  d56 : DfAt Γ "may_stand" 56 ["record", "last"]
  d57 : DfAt Γ "placed" 57 ["rows"]
  d58 : DfAt Γ "parted_plans" 58 ["records"]
  d59 : DfAt Γ "plan_of" 59 ["name", "givens", "made"]
  d60 : DfAt Γ "row_of" 60 ["numbers", "row", "record"]
  d61 : DfAt Γ "read" 61 ["text"]
  d63 : DfAt Γ "judged" 63 ["text", "one", "other", "most"]
  d65 : DfAt Γ "_law_cell_at" 65 ["script", "k"]
  d66 : DfAt Γ "_law_whole" 66 ["found"]
  d67 : DfAt Γ "_law_name_by" 67 ["number", "used"]
  d68 : DfAt Γ "_law_names_by" 68 ["script", "many"]
  d69 : DfAt Γ "_law_number_by" 69 ["cell"]
  d70 : DfAt Γ "_law_item" 70 ["cell", "ahead"]
  d71 : DfAt Γ "_law_row_by" 71 ["plans", "loads", "names", "what", "cell"]
  d72 : DfAt Γ "_law_grow" 72 ["plans", "loads", "names", "what", "cell"]
  d73 : DfAt Γ "_law_plans_by" 73 ["script"]
  d74 : DfAt Γ "_law_item_text" 74 ["names", "item"]
  d75 : DfAt Γ "_law_rows" 75 ["plans"]
  d76 : DfAt Γ "_law_run" 76 ["plans", "at", "hours"]
  d77 : DfAt Γ "_law_hours" 77 ["script", "many", "turn"]
  d78 : DfAt Γ "_law_form" 78 ["text", "name", "most"]
  d79 : DfAt Γ "_law_told" 79 ["text", "one", "other", "most"]
  d80 : DfAt Γ "_law_spoilt" 80 ["script", "plans", "text", "which"]
  d81 : DfAt Γ "_law_class_right" 81 ["error", "which"]
  d82 : DfAt Γ "_law_caught" 82 ["text", "one", "other", "most"]
  d83 : DfAt Γ "_law_unlike_alone" 83 ["error"]
  d84 : DfAt Γ "_law_choice" 84 ["plans", "at", "cell"]
  d85 : DfAt Γ "_law_parted" 85 ["plans", "at", "to", "hours", "sign"]
  d86 : DfAt Γ "_law_right" 86 ["script", "plans", "at", "to", "pair"]
  d87 : DfAt Γ "law" 87 ["script"]
theorem w_forms0 {Γ : Cg} {C : Cls} (D : DfAt Γ "forms_of" 36 ["book", "name", "most"]) : P_forms Γ C 0 :=
  defX 5 Lforms_of D Sforms_of rfl rfl (fun _ => rfl) fun E x hx => (by
    obtain ⟨_, ⟨i, p, hi, _⟩, _⟩ := hx
    exact absurd hi (Nat.not_lt_zero i))
section
variable {Γ : Cg} {C : Cls} (G : Gk Γ C) {AE : Addr} (X : Gx Γ C AE) (T : Tp Γ) (DP : MkAt Γ "Plan" C.PL (inClass (top 31) 0) "Plan.__init__" ["self", "name", "givens", "rows"]) (DB : MkAt Γ "Book" C.BK (inClass (top 32) 0) "Book.__init__" ["self", "plans"])
include G X T DP DB
theorem law_all (xs : List Int) : ∃ o, RetO o (.ok (rB true)) ∧ RS Γ Llaw ⟨E0, 42⟩ (L2.defBody (top 87)) (Rl.envOf Llaw [rQ Γ.K xs]) o := by
  have f_under := w_under G T.d12
  have f_joined := w_joined G T.d13
  have f_shifted := w_shifted G T.d14
  have f_thinned := w_thinned G f_under T.d15
  have f_thing := w_thing_form G T.d17
  have f_waited := w_waited G f_shifted T.d18
  have f_room := w_in_room G T.d19
  have f_first := w_first_of G f_thinned f_room T.d20
  have f_both := w_both_of G f_thinned f_joined T.d21
  have f_all := w_all_of G f_both f_room T.d22
  have f_put := w_put_into G f_waited f_all f_first T.d23
  have f_more := w_more_waited G T.d25
  have f_near := w_nearest G f_more T.d26
  have f_hoursA := w_hours G T.d27
  have f_later := w_later G f_near f_hoursA T.d28
  have f_comp := w_compared G f_later T.d29
  have f_initP := w_planinit G DP
  have f_initB := w_bookinit G DB
  have f_planby := w_plan_by G T.d33
  have forms_n : ∀ n, P_forms Γ C n := fun n => by
    induction n with
    | zero => exact w_forms0 T.d36
    | succ n ih => exact w_forms G f_planby f_thing f_waited (w_made G f_all f_first f_put (w_told G ih T.d37) T.d35) T.d36
  have f_told : P_told Γ C DEEP := w_told G (forms_n DEEP) T.d37
  have f_isname := w_is_name G T.d43
  have f_looknames := w_look_names G f_isname T.d44
  have f_lookplan := w_look_plan G T.d45
  have f_lookparts := w_look_parts G T.d46
  have f_weights := w_weights G T.d47
  have f_looked := w_looked G f_looknames f_lookplan f_lookparts f_weights T.d48
  have f_figs := w_figs G T.d51
  have f_item := w_item G f_isname f_figs T.d52
  have f_items := w_items G f_item T.d53
  have f_made := w_made_of G f_isname f_items T.d54
  have f_record := w_record G f_isname f_made T.d55
  have f_stand := w_stand G T.d56
  have f_placed := w_placed G f_record f_stand T.d57
  have f_parted := w_parted G T.d58
  have f_rowof := w_row_of G T.d60
  have f_planof := w_plan_of G f_rowof f_initP T.d59
  have f_read := w_read G f_placed f_parted f_planof f_initB f_looked T.d61
  have f_judged := w_judged G f_read f_planby f_told f_comp T.d63
  have f_cell := w_cell G T.d65
  have f_whole := w_whole G T.d66
  have f_nameby := w_name_by G T.d67
  have f_namesby := w_names_by G f_cell f_nameby T.d68
  have f_number := w_number G T.d69
  have f_litem := w_litem G f_number T.d70
  have f_rowby := w_row_by G f_litem T.d71
  have f_grow := w_grow G f_rowby f_litem T.d72
  have f_plansby := w_plans_by G f_namesby f_cell f_grow f_rowby nmsOk T.d73
  have f_itemtext := w_item_text G T.d74
  have f_rows := w_rows G f_itemtext T.d75
  have runs : ∀ n, P_run Γ n := fun n => by
    induction n with
    | zero => exact w_run0 G T.d76
    | succ n ih => exact w_run G ih T.d76
  have f_run : P_run Γ DEEP := runs DEEP
  have f_lhours := w_lhours G f_cell T.d77
  have f_lform := w_lform G X f_read f_told T.d78
  have f_ltold := w_ltold G X f_judged T.d79
  have f_spoilt := w_spoilt G f_namesby T.d80
  have f_class := w_class G X T.d81
  have f_caught := w_caught G X f_judged T.d82
  have f_alone := w_alone G X T.d83
  have f_choice := w_choice G T.d84
  have f_lparted := w_lparted G f_whole f_run T.d85
  have f_right := w_right G f_lparted f_lhours T.d86
  exact law_body G X f_cell f_plansby f_rows f_choice f_namesby f_spoilt f_caught f_class f_alone f_ltold f_lform f_right xs
end
end K60
/-! text HD1 -/
set_option Elab.async false
set_option linter.all false
set_option maxRecDepth 100000
set_option maxHeartbeats 4000000
namespace K60
open PySem PyProof.Rows Rl
open PySem.Spec hiding Row
open L2 (E0 XK Hp V atI ixN inClass defScope defArgs defBody)
open PySem.W (Frag kitOne exmOne findIn subIn typeIn keepIn hasDictIn specialIn takesIn mroIn clsIn)
/-! ### what is read of the heap behind the top -/
def obsX (fa : List He.Fa) (fn : List He.DefD) (ex : List (Frag → Bool)) (K : Frag) : He.AlD := (((fa.all fun f => f.ok K) && fn.all fun d => d.ok K) && ex.all fun p => p K, fn.map fun d => He.fnW K d.at_)
def SaysX (fa : List He.Fa) (fn : List He.DefD) (ex : List (Frag → Bool)) (K : Frag) : Prop := obsX fa fn ex K = He.valD fn
/-- what the module's names reach in n steps, step by step -/
def frontG (g : Addr → Option Obj) : Nat → List Addr → List Addr
  | 0, f => f
  | n + 1, f => f ++ frontG g n (f.flatMap fun a => match g a with
    | some o => He.refsD o
    | none => [])
def obsXG (n : Nat) (fa : List He.Fa) (fn : List He.DefD) (ex : List (Frag → Bool)) (g : Addr → Option Obj) : He.AlD := obsX fa fn ex (He.frG g (frontG g n [mainGlobals]))
def hookX (n : Nat) (fa : List He.Fa) (fn : List He.DefD) (ex : List (Frag → Bool)) : PySem.W.Hook where
  α := He.AlD
  obs := fun s => obsXG n fa fn ex s.heap.get?
  val := fun _ => He.valD fn
  says := fun _ h => ∃ K : Frag, K.In h ∧ SaysX fa fn ex K
  of := fun _ _ e => ⟨_, He.frG_in, e⟩
  keeps := fun _ _ _ ⟨K, hK, c⟩ k => ⟨K, PySem.W.Frag.In.keeps hK k, c⟩
theorem obsXG_eq {n : Nat} {fa : List He.Fa} {fn : List He.DefD} {ex : List (Frag → Bool)} {g : Addr → Option Obj} {s : Shared} (h : ∀ a, g a = s.heap.get? a) : obsXG n fa fn ex g = (hookX n fa fn ex).obs s := by
  have e : g = s.heap.get? := funext h
  rw [e] <;> rfl
theorem SaysX.two {fa : List He.Fa} {fn : List He.DefD} {ex : List (Frag → Bool)} {K : Frag} (c : SaysX fa fn ex K) : He.SaysD fa fn K ∧ ∀ p ∈ ex, p K = true := by
  have c1 : (((fa.all fun f => f.ok K) && fn.all fun d => d.ok K) && ex.all fun p => p K) = true := congrArg (fun z : He.AlD => z.1) c
  have c2 : fn.map (fun d => He.fnW K d.at_) = fn.map He.DefD.val := congrArg (fun z : He.AlD => z.2) c
  obtain ⟨a, b⟩ := He.ba c1
  refine ⟨?_, fun p hp => List.all_eq_true.mp b p hp⟩
  show (((fa.all fun f => f.ok K) && fn.all fun d => d.ok K), _) = _
  rw [a, c2]
  rfl
/-! ### facts of one's own -/
def excB (x : Str) (K : Frag) : Bool := He.eqO (findIn K (.ref (He.ga K x)) "__getattribute__") (some (some (.builtin "BaseException.__getattribute__"))) && (He.eqO (findIn K (.ref (He.ga K x)) "__getattr__") (some none) && (decide (subIn K (.ref (He.ga K x)) (.type "BaseException") = some true) && (hasDictIn K (He.ga K x) &&
  (He.eqO (findIn K (.ref (He.ga K x)) "__class__") (some (some (.builtin "object.__class__"))) && (He.eqO (specialIn K (.builtin "object.__class__") "__get__") (some (some (.builtin "getset_descriptor.__get__"))) && (decide (takesIn K (.builtin "object.__class__") = some true) && decide (mroIn K (He.ga K x) (.type "object") = some true)))))))
theorem excB_ok {x : Str} {K : Frag} (h : excB x K = true) : L2.ExcC K (He.ga K x) := by
  obtain ⟨h1, h⟩ := He.ba h
  obtain ⟨h2, h⟩ := He.ba h
  obtain ⟨h3, h⟩ := He.ba h
  obtain ⟨h4, h⟩ := He.ba h
  obtain ⟨h5, h⟩ := He.ba h
  obtain ⟨h6, h⟩ := He.ba h
  obtain ⟨h7, h8⟩ := He.ba h
  exact ⟨He.eqO_ok h1, He.eqO_ok h2, of_decide_eq_true h3, h4, He.eqO_ok h5, He.eqO_ok h6, of_decide_eq_true h7, of_decide_eq_true h8⟩
def kitX (x y : Str) (b : Bool) (K : Frag) : Bool := decide (kitOne K (.ref (He.ga K x)) (.ref (He.ga K y)) = some b)
def kitV (x : Str) (K : Frag) : Bool := decide (kitOne K (.ref (He.ga K x)) (.type "ValueError") = some true)
def wordsB (K : Frag) : Bool := He.tupB K "WORDS" [.str "plan", .str "given", .str "all", .str "first", .str "part"]
/-- NoName's class object -/
def nnObj (K : Frag) : Bool := match K.lookup (He.ga K "NoName") with
  | some ⟨.type "type", _, .cls cd, sl⟩ => (match cd.mro, sl.toList with
    | .ref c :: bm, [_, _, _, _, some (.builtin n), _] => c == He.ga K "NoName" && (n == "ValueError.__new__" && (!cd.hasDel && (cd.hasDict && PySem.HandSPX.refsVE bm)))
    | _, _ => false)
  | _ => false
def nnRest (K : Frag) : Bool := He.eqO (findIn K (.ref (He.ga K "NoName")) "__setattr__") (some (some (.builtin "object.__setattr__"))) && (He.eqO (findIn K (.ref (He.ga K "NoName")) "row") (some none) && (He.eqO (findIn K (.ref (He.ga K "NoName")) "__init__") (some (some (.ref (He.ma K (He.ga K "NoName") "__init__")))) &&
  (decide (typeIn K (.ref (He.ma K (He.ga K "NoName") "__init__")) = some (.type "function")) && (keepIn K (.ref (He.ga K "NoName")) && (decide (typeIn K (.ref (He.ga K "NoName")) = some (.type "type")) && decide (exmOne K (.ref (He.ga K "NoName")) (.ref (He.ga K "NoName")) = some true))))))
def nnKw (K : Frag) : Bool := match K.lookup (He.ma K (He.ga K "NoName") "__init__") with
  | some ⟨_, _, .func fd, _⟩ => (match fd.kwdefaults with
    | .none => true
    | _ => false)
  | _ => false
theorem nnObj_ok {K : Frag} (h : nnObj K = true) : ∃ nm q N bs bm sn sub ab col dd k0 k1 k2 k3 k5, K.lookup (He.ga K "NoName") = some (excClassObj nm q (He.ga K "NoName") N bs bm true sn sub ab col dd k0 k1 k2 k3 k5 "ValueError.__new__") ∧ PySem.HandSPX.refsVE bm = true := by
  unfold nnObj at h
  split at h
  · rename_i dd cd sl ho
    split at h
    · rename_i c bm k0 k1 k2 k3 n k5 hm hs
      obtain ⟨h1, h⟩ := He.ba h
      obtain ⟨h2, h⟩ := He.ba h
      obtain ⟨h3, h⟩ := He.ba h
      obtain ⟨h4, h5⟩ := He.ba h
      have h1 := beq_iff_eq.mp h1
      have h2 := beq_iff_eq.mp h2
      obtain ⟨nm, bs, mro, ns, qn, hd, sn, sub, ab, col, del⟩ := cd
      dsimp only at hm h3 h4
      have h3 : del = false := by simpa using h3
      subst h1 h2 h3 h4 hm
      have hsl : sl = #[k0, k1, k2, k3, some (.builtin "ValueError.__new__"), k5] := by
        obtain ⟨l⟩ := sl
        simp only at hs
        rw [hs]
      subst hsl
      exact ⟨nm, qn, ns, bs, bm, sn, sub, ab, col, dd, k0, k1, k2, k3, k5, ho, h5⟩
    · cases h
  · cases h
section
variable {P : Program} {w : World} {K : Frag} {h : Heap} {mg : Str → Option Value} {base : Heap}
theorem fun_of {x q : Str} {st : Stmt} {f : Addr} {fd : FuncData} (F : L2.FunD K x q (defArgs st) (defBody st) (defScope st) [] [] f fd) : L2.Fun K x q st f fd := by
  obtain ⟨oc, od, dV, kV, doc, pm, an, cdv, ct, osl, e, lk, cd, dd, _⟩ := F.ex
  rcases dd with ⟨_, rfl⟩ | ⟨z, _⟩
  · exact ⟨⟨oc, od, kV, doc, pm, an, cdv, ct, osl, e, lk, cd⟩, F.kp⟩
  · exact absurd rfl z
theorem dfat {x : Str} {st : Stmt} {ps : List Str} (X : K.In h) (G : h.Ns mainGlobals mg) (c : ∃ fd, L2.FunD K x x (defArgs st) (defBody st) (defScope st) [] [] (He.ga K x) fd) (g : (He.Fa.glo x).ok K = true)
    (hb : ∀ (kV doc pm : Value) (an : Option Addr) (cdv ct : Value) (us : List Value), us.length = ps.length → bindArgs (PySem.W.fnOf x x (defArgs st) (defBody st) (defScope st) .none kV doc pm an cdv ct) ⟨us, []⟩ = pure (ps.zip us)) : DefAt ⟨P, w, K, mg, base⟩ x st ps := by
  obtain ⟨fd, F⟩ := c
  exact ⟨⟨_, fd, fun_of F, He.glo_ok X G g, F.bindsN hb⟩⟩
theorem mkat {x q : Str} {st : Stmt} {ps : List Str} (X : K.In h) (G : h.Ns mainGlobals mg) (c : ∃ fd, L2.FunD K "__init__" q (defArgs st) (defBody st) (defScope st) [] [] (He.ma K (He.ga K x) "__init__") fd) (g : (He.Fa.glo x).ok K = true) (m : (He.Fa.mkr x).ok K = true)
    (hb : ∀ (kV doc pm : Value) (an : Option Addr) (cdv ct : Value) (us : List Value), us.length = ps.length → bindArgs (PySem.W.fnOf "__init__" q (defArgs st) (defBody st) (defScope st) .none kV doc pm an cdv ct) ⟨us, []⟩ = pure (ps.zip us)) : MkAt ⟨P, w, K, mg, base⟩ x (He.ga K x) st q ps := by
  obtain ⟨fd, F⟩ := c
  exact ⟨He.glo_ok X G g, _, fd, fun_of F, F.bindsN hb, He.mkr_ok m⟩
theorem expat {x : Str} (X : K.In h) (G : h.Ns mainGlobals mg) (g : (He.Fa.glo x).ok K = true) (e : (He.Fa.exc x).ok K = true) : ExP ⟨P, w, K, mg, base⟩ x (He.ga K x) := by
  obtain ⟨e1, e2, e3, e4⟩ := He.exc_ok e
  exact ⟨He.glo_ok X G g, e1, e2, e3, e4⟩
/-- the law's own def, its function object known -/
theorem law_fn {f : Addr} {fd : FuncData} (F : L2.Fun K "law" "law" (top 87) f fd) (hb : ∀ xs : List Int, ∃ o, RetO o (.ok (rB true)) ∧ RS ⟨P, w, K, mg, base⟩ Llaw ⟨E0, 42⟩ (defBody (top 87)) (Rl.envOf Llaw [rQ K xs]) o) :
    L2.FnOk P w K mg base L2.CX0 43 f fd ["script"] (Sp0 (fun _ : List Int => True) (fun xs => [rQ K xs]) fun _ => rB true) := by
  refine F.ok Slaw (fun vs H Q E ⟨y, B, _, _, ho, _⟩ => by rw [ho.length]; rfl) (fun cdv A outer s H vs Q E hr ⟨y, B, hy, hB, ho, q⟩ => ?_)
  obtain ⟨o, hro, t, h1, h2⟩ := hb y
  refine ⟨t, h1 _ ⟨rfl, rfl, rfl, rfl, rfl, hr, rfl, Slaw.nd, rfl, rfl, fun _ _ => rfl, PassesOwn.never, L2.takes0, fun _ => ⟨rfl, rfl⟩⟩, h2 H B B H _ _ (sok_start hB ho (by rfl)) (Grow.refl hB) ?_⟩
  cases o with
  | ret r =>
    have hro : r = rB true := hro
    subst hro
    exact fun v B2 H2 g k => q v B2 H2 g k
  | nx e =>
    have hro : rB true = rN := hro
    rw [hro] at q
    exact fun σ B2 H2 _ g => q _ B2 H2 g rfl
  | err c => exact hro.elim
  | ct e => exact hro.elim
end
end K60
/-! text HD2 -/
set_option Elab.async false
set_option linter.all false
set_option maxRecDepth 100000
set_option maxHeartbeats 0
namespace K60
open PySem PyProof.Rows Rl
open PySem.Spec hiding Row
open L2 (E0 XK Hp V atI ixN inClass defScope defArgs defBody)
def hfn0 : List He.DefD := [
  ⟨("under", none), "under", "under", defArgs (top 12), defBody (top 12), defScope (top 12), [], []⟩,
  ⟨("joined", none), "joined", "joined", defArgs (top 13), defBody (top 13), defScope (top 13), [], []⟩,
  ⟨("shifted", none), "shifted", "shifted", defArgs (top 14), defBody (top 14), defScope (top 14), [], []⟩,
  ⟨("thinned", none), "thinned", "thinned", defArgs (top 15), defBody (top 15), defScope (top 15), [], []⟩,
  ⟨("thing_form", none), "thing_form", "thing_form", defArgs (top 17), defBody (top 17), defScope (top 17), [], []⟩,
  ⟨("waited", none), "waited", "waited", defArgs (top 18), defBody (top 18), defScope (top 18), [], []⟩,
  ⟨("in_room", none), "in_room", "in_room", defArgs (top 19), defBody (top 19), defScope (top 19), [], []⟩,
  ⟨("first_of", none), "first_of", "first_of", defArgs (top 20), defBody (top 20), defScope (top 20), [], []⟩,
  ⟨("both_of", none), "both_of", "both_of", defArgs (top 21), defBody (top 21), defScope (top 21), [], []⟩,
  ⟨("all_of", none), "all_of", "all_of", defArgs (top 22), defBody (top 22), defScope (top 22), [], []⟩,
  ⟨("put_into", none), "put_into", "put_into", defArgs (top 23), defBody (top 23), defScope (top 23), [], []⟩,
  ⟨("more_waited", none), "more_waited", "more_waited", defArgs (top 25), defBody (top 25), defScope (top 25), [], []⟩,
  ⟨("nearest_row", none), "nearest_row", "nearest_row", defArgs (top 26), defBody (top 26), defScope (top 26), [], []⟩,
  ⟨("hours_against", none), "hours_against", "hours_against", defArgs (top 27), defBody (top 27), defScope (top 27), [], []⟩,
  ⟨("later_by", none), "later_by", "later_by", defArgs (top 28), defBody (top 28), defScope (top 28), [], []⟩,
  ⟨("compared", none), "compared", "compared", defArgs (top 29), defBody (top 29), defScope (top 29), [], []⟩,
  ⟨("plan_by", none), "plan_by", "plan_by", defArgs (top 33), defBody (top 33), defScope (top 33), [], []⟩,
  ⟨("made_form", none), "made_form", "made_form", defArgs (top 35), defBody (top 35), defScope (top 35), [], []⟩,
  ⟨("forms_of", none), "forms_of", "forms_of", defArgs (top 36), defBody (top 36), defScope (top 36), [], []⟩,
  ⟨("told_form", none), "told_form", "told_form", defArgs (top 37), defBody (top 37), defScope (top 37), [], []⟩]
def hfn1 : List He.DefD := [
  ⟨("is_name", none), "is_name", "is_name", defArgs (top 43), defBody (top 43), defScope (top 43), [], []⟩,
  ⟨("look_at_names", none), "look_at_names", "look_at_names", defArgs (top 44), defBody (top 44), defScope (top 44), [], []⟩,
  ⟨("look_at_plan", none), "look_at_plan", "look_at_plan", defArgs (top 45), defBody (top 45), defScope (top 45), [], []⟩,
  ⟨("look_at_parts", none), "look_at_parts", "look_at_parts", defArgs (top 46), defBody (top 46), defScope (top 46), [], []⟩,
  ⟨("weights_of", none), "weights_of", "weights_of", defArgs (top 47), defBody (top 47), defScope (top 47), [], []⟩,
  ⟨("looked", none), "looked", "looked", defArgs (top 48), defBody (top 48), defScope (top 48), [], []⟩,
  ⟨("are_figures", none), "are_figures", "are_figures", defArgs (top 51), defBody (top 51), defScope (top 51), [], []⟩,
  ⟨("item_of", none), "item_of", "item_of", defArgs (top 52), defBody (top 52), defScope (top 52), [], []⟩,
  ⟨("items_of", none), "items_of", "items_of", defArgs (top 53), defBody (top 53), defScope (top 53), [], []⟩,
  ⟨("made_of", none), "made_of", "made_of", defArgs (top 54), defBody (top 54), defScope (top 54), [], []⟩,
  ⟨("record_of", none), "record_of", "record_of", defArgs (top 55), defBody (top 55), defScope (top 55), [], []⟩,
  ⟨("may_stand", none), "may_stand", "may_stand", defArgs (top 56), defBody (top 56), defScope (top 56), [], []⟩,
  ⟨("placed", none), "placed", "placed", defArgs (top 57), defBody (top 57), defScope (top 57), [], []⟩,
  ⟨("parted_plans", none), "parted_plans", "parted_plans", defArgs (top 58), defBody (top 58), defScope (top 58), [], []⟩,
  ⟨("plan_of", none), "plan_of", "plan_of", defArgs (top 59), defBody (top 59), defScope (top 59), [], []⟩,
  ⟨("row_of", none), "row_of", "row_of", defArgs (top 60), defBody (top 60), defScope (top 60), [], []⟩,
  ⟨("read", none), "read", "read", defArgs (top 61), defBody (top 61), defScope (top 61), [], []⟩,
  ⟨("judged", none), "judged", "judged", defArgs (top 63), defBody (top 63), defScope (top 63), [], []⟩,
  ⟨("_law_cell_at", none), "_law_cell_at", "_law_cell_at", defArgs (top 65), defBody (top 65), defScope (top 65), [], []⟩,
  ⟨("_law_whole", none), "_law_whole", "_law_whole", defArgs (top 66), defBody (top 66), defScope (top 66), [], []⟩]
def hfn2 : List He.DefD := [
  ⟨("_law_name_by", none), "_law_name_by", "_law_name_by", defArgs (top 67), defBody (top 67), defScope (top 67), [], []⟩,
  ⟨("_law_names_by", none), "_law_names_by", "_law_names_by", defArgs (top 68), defBody (top 68), defScope (top 68), [], []⟩,
  ⟨("_law_number_by", none), "_law_number_by", "_law_number_by", defArgs (top 69), defBody (top 69), defScope (top 69), [], []⟩,
  ⟨("_law_item", none), "_law_item", "_law_item", defArgs (top 70), defBody (top 70), defScope (top 70), [], []⟩,
  ⟨("_law_row_by", none), "_law_row_by", "_law_row_by", defArgs (top 71), defBody (top 71), defScope (top 71), [], []⟩,
  ⟨("_law_grow", none), "_law_grow", "_law_grow", defArgs (top 72), defBody (top 72), defScope (top 72), [], []⟩,
  ⟨("_law_plans_by", none), "_law_plans_by", "_law_plans_by", defArgs (top 73), defBody (top 73), defScope (top 73), [], []⟩,
  ⟨("_law_item_text", none), "_law_item_text", "_law_item_text", defArgs (top 74), defBody (top 74), defScope (top 74), [], []⟩,
  ⟨("_law_rows", none), "_law_rows", "_law_rows", defArgs (top 75), defBody (top 75), defScope (top 75), [], []⟩,
  ⟨("_law_run", none), "_law_run", "_law_run", defArgs (top 76), defBody (top 76), defScope (top 76), [], []⟩,
  ⟨("_law_hours", none), "_law_hours", "_law_hours", defArgs (top 77), defBody (top 77), defScope (top 77), [], []⟩,
  ⟨("_law_form", none), "_law_form", "_law_form", defArgs (top 78), defBody (top 78), defScope (top 78), [], []⟩,
  ⟨("_law_told", none), "_law_told", "_law_told", defArgs (top 79), defBody (top 79), defScope (top 79), [], []⟩,
  ⟨("_law_spoilt", none), "_law_spoilt", "_law_spoilt", defArgs (top 80), defBody (top 80), defScope (top 80), [], []⟩,
  ⟨("_law_class_right", none), "_law_class_right", "_law_class_right", defArgs (top 81), defBody (top 81), defScope (top 81), [], []⟩,
  ⟨("_law_caught", none), "_law_caught", "_law_caught", defArgs (top 82), defBody (top 82), defScope (top 82), [], []⟩,
  ⟨("_law_unlike_alone", none), "_law_unlike_alone", "_law_unlike_alone", defArgs (top 83), defBody (top 83), defScope (top 83), [], []⟩,
  ⟨("_law_choice", none), "_law_choice", "_law_choice", defArgs (top 84), defBody (top 84), defScope (top 84), [], []⟩,
  ⟨("_law_parted", none), "_law_parted", "_law_parted", defArgs (top 85), defBody (top 85), defScope (top 85), [], []⟩,
  ⟨("_law_right", none), "_law_right", "_law_right", defArgs (top 86), defBody (top 86), defScope (top 86), [], []⟩]
def hfn3 : List He.DefD := [
  ⟨("law", none), "law", "law", defArgs (top 87), defBody (top 87), defScope (top 87), [], []⟩,
  ⟨("Plan", some "__init__"), "__init__", "Plan.__init__", defArgs (inClass (top 31) 0), defBody (inClass (top 31) 0), defScope (inClass (top 31) 0), [], []⟩,
  ⟨("Book", some "__init__"), "__init__", "Book.__init__", defArgs (inClass (top 32) 0), defBody (inClass (top 32) 0), defScope (inClass (top 32) 0), [], []⟩,
  ⟨("NoName", some "__init__"), "__init__", "NoName.__init__", defArgs (inClass (top 10) 0), defBody (inClass (top 10) 0), defScope (inClass (top 10) 0), [], []⟩]
def hfn : List He.DefD := hfn0 ++ hfn1 ++ hfn2 ++ hfn3
def hfa0 : List He.Fa := [
  .glo "under",
  .glo "joined",
  .glo "shifted",
  .glo "thinned",
  .glo "thing_form",
  .glo "waited",
  .glo "in_room",
  .glo "first_of",
  .glo "both_of",
  .glo "all_of",
  .glo "put_into",
  .glo "more_waited",
  .glo "nearest_row",
  .glo "hours_against",
  .glo "later_by",
  .glo "compared",
  .glo "plan_by",
  .glo "made_form",
  .glo "forms_of",
  .glo "told_form"]
def hfa1 : List He.Fa := [
  .glo "is_name",
  .glo "look_at_names",
  .glo "look_at_plan",
  .glo "look_at_parts",
  .glo "weights_of",
  .glo "looked",
  .glo "are_figures",
  .glo "item_of",
  .glo "items_of",
  .glo "made_of",
  .glo "record_of",
  .glo "may_stand",
  .glo "placed",
  .glo "parted_plans",
  .glo "plan_of",
  .glo "row_of",
  .glo "read",
  .glo "judged",
  .glo "_law_cell_at",
  .glo "_law_whole"]
def hfa2 : List He.Fa := [
  .glo "_law_name_by",
  .glo "_law_names_by",
  .glo "_law_number_by",
  .glo "_law_item",
  .glo "_law_row_by",
  .glo "_law_grow",
  .glo "_law_plans_by",
  .glo "_law_item_text",
  .glo "_law_rows",
  .glo "_law_run",
  .glo "_law_hours",
  .glo "_law_form",
  .glo "_law_told",
  .glo "_law_spoilt",
  .glo "_law_class_right",
  .glo "_law_caught",
  .glo "_law_unlike_alone",
  .glo "_law_choice",
  .glo "_law_parted",
  .glo "_law_right"]
def hfa3 : List He.Fa := [
  .glo "law",
  .glo "AllError",
  .glo "TooMany",
  .glo "BadName",
  .glo "BadPlan",
  .glo "BadPart",
  .glo "TooLong",
  .glo "NoPlan",
  .glo "Unlike",
  .glo "BadRow",
  .glo "NoName",
  .glo "Plan",
  .glo "Book",
  .glo "WORDS",
  .free "sorted",
  .free "dict",
  .free "max",
  .free "min",
  .free "len",
  .free "range"]
def hfa4 : List He.Fa := [
  .free "any",
  .free "all",
  .free "list",
  .free "tuple",
  .free "int",
  .free "str",
  .free "abs",
  .free "bool",
  .free "isinstance",
  .free "enumerate",
  .free "ValueError",
  .cls "Plan",
  .mkr "Plan",
  .cls "Book",
  .mkr "Book",
  .noat "Plan" "name",
  .noat "Plan" "givens",
  .noat "Plan" "rows",
  .noat "Book" "plans",
  .exc "TooMany"]
def hfa5 : List He.Fa := [
  .exc "BadName",
  .exc "BadPlan",
  .exc "BadPart",
  .exc "TooLong",
  .exc "NoPlan",
  .exc "Unlike",
  .str "LETTERS" lettersS,
  .str "FIGURES_looking" figsS,
  .str "FIGURES_reading" figsS,
  .int "FAR" FARi,
  .exm "BadName" "AllError" true,
  .exm "BadPart" "AllError" true,
  .exm "NoName" "AllError" true,
  .exm "Unlike" "AllError" true,
  .exm "NoPlan" "NoPlan" true,
  .exm "Unlike" "Unlike" true,
  .exm "TooMany" "TooMany" true,
  .exm "Unlike" "NoPlan" false,
  .exm "TooMany" "NoPlan" false,
  .exm "TooMany" "Unlike" false]
def hfa : List He.Fa := hfa0 ++ hfa1 ++ hfa2 ++ hfa3 ++ hfa4 ++ hfa5
def hex_0 : List (PySem.W.Frag → Bool) := [
  excB "BadName",
  excB "BadPart",
  excB "NoName",
  excB "Unlike",
  kitX "BadName" "BadPart" false,
  kitX "BadName" "NoName" false,
  kitX "BadName" "NoPlan" false,
  kitX "BadPart" "BadName" false,
  kitX "BadPart" "NoName" false,
  kitX "BadPart" "NoPlan" false,
  kitX "NoName" "BadName" false,
  kitX "NoName" "BadPart" false,
  kitX "NoName" "NoPlan" false,
  kitX "Unlike" "BadName" false,
  kitX "Unlike" "BadPart" false,
  kitX "Unlike" "BadPlan" false,
  kitX "Unlike" "BadRow" false,
  kitX "Unlike" "NoName" false,
  kitX "Unlike" "NoPlan" false,
  kitX "Unlike" "TooLong" false]
def hex_1 : List (PySem.W.Frag → Bool) := [
  kitX "Unlike" "TooMany" false,
  kitX "Unlike" "AllError" true,
  kitV "Unlike",
  wordsB,
  nnObj,
  nnRest,
  nnKw]
def hex_ : List (PySem.W.Frag → Bool) := hex_0 ++ hex_1
def hnames0 : List PySem.Str := [
  "AllError",
  "TooMany",
  "BadName",
  "BadPlan",
  "BadPart",
  "TooLong",
  "NoPlan",
  "Unlike",
  "BadRow",
  "NoName",
  "under",
  "joined",
  "shifted",
  "thinned",
  "thing_form",
  "waited",
  "in_room",
  "first_of",
  "both_of",
  "all_of"]
def hnames1 : List PySem.Str := [
  "put_into",
  "more_waited",
  "nearest_row",
  "hours_against",
  "later_by",
  "compared",
  "Plan",
  "Book",
  "plan_by",
  "made_form",
  "forms_of",
  "told_form",
  "WORDS",
  "LETTERS",
  "FIGURES_looking",
  "FAR",
  "is_name",
  "look_at_names",
  "look_at_plan",
  "look_at_parts"]
def hnames2 : List PySem.Str := [
  "weights_of",
  "looked",
  "FIGURES_reading",
  "are_figures",
  "item_of",
  "items_of",
  "made_of",
  "record_of",
  "may_stand",
  "placed",
  "parted_plans",
  "plan_of",
  "row_of",
  "read",
  "judged",
  "_law_cell_at",
  "_law_whole",
  "_law_name_by",
  "_law_names_by",
  "_law_number_by"]
def hnames3 : List PySem.Str := [
  "_law_item",
  "_law_row_by",
  "_law_grow",
  "_law_plans_by",
  "_law_item_text",
  "_law_rows",
  "_law_run",
  "_law_hours",
  "_law_form",
  "_law_told",
  "_law_spoilt",
  "_law_class_right",
  "_law_caught",
  "_law_unlike_alone",
  "_law_choice",
  "_law_parted",
  "_law_right"]
def hnames : List PySem.Str := hnames0 ++ hnames1 ++ hnames2 ++ hnames3
abbrev R : PySem.W.OpenRow := PySem.W.OpenLaw.row PySem.Challenge.rw_allfirst_k60_whole_two_plans_judged
abbrev hk : PySem.W.Hook := hookX 4 hfa hfn hex_
def ob (s : PySem.W.SharedT) : He.AlD := obsXG 4 hfa hfn hex_ (HandSHeadRun.getT s)
theorem ob_eq (s : PySem.W.SharedT) : ob s = hk.obs s.abs := obsXG_eq (HandSHeadRun.getT_eq s)
theorem run (w : World) : HandSHeadRun.RunEq R (PySem.W.view R.prog [87]) hk ob 20000 hnames w := by
  intro os
  kernel_rfl
end K60
/-! text HD3 -/
set_option Elab.async false
set_option linter.all false
set_option maxRecDepth 100000
set_option maxHeartbeats 4000000
namespace K60
open PySem PyProof.Rows Rl
open PySem.Spec hiding Row
open L2 (E0 XK Hp V atI ixN inClass defScope defArgs defBody)
section
variable {P : Program} {w : World} {K : PySem.W.Frag} {h : Heap} {mg : Str → Option Value} {base : Heap} (X : K.In h) (G : h.Ns mainGlobals mg) (c : He.SaysD hfa hfn K) (x : ∀ p ∈ hex_, p K = true)
def hC (K : PySem.W.Frag) : Cls := ⟨He.ga K "TooMany", He.ga K "BadName", He.ga K "BadPlan", He.ga K "BadPart", He.ga K "TooLong", He.ga K "NoPlan", He.ga K "Unlike", He.ga K "BadRow", He.ga K "NoName", He.ga K "Plan", He.ga K "Book"⟩
theorem exAt {K : PySem.W.Frag} (x : ∀ p ∈ hex_, p K = true) (i : Nat) {p : PySem.W.Frag → Bool} (e : hex_[i]? = some p) : p K = true := x p (List.mem_of_getElem? e)
include X G c
theorem h_tops : Tp ⟨P, w, K, mg, base⟩ where
  d12 := dfat (x := "under") (st := top 12) (ps := ["row", "other"]) X G (c.def_ 0 rfl) (c.fact 0 rfl) fun _ _ _ _ _ _ us hl => match us, hl with | [_, _], _ => rfl
  d13 := dfat (x := "joined") (st := top 13) (ps := ["row", "other"]) X G (c.def_ 1 rfl) (c.fact 1 rfl) fun _ _ _ _ _ _ us hl => match us, hl with | [_, _], _ => rfl
  d14 := dfat (x := "shifted") (st := top 14) (ps := ["row", "wait"]) X G (c.def_ 2 rfl) (c.fact 2 rfl) fun _ _ _ _ _ _ us hl => match us, hl with | [_, _], _ => rfl
  d15 := dfat (x := "thinned") (st := top 15) (ps := ["rows"]) X G (c.def_ 3 rfl) (c.fact 3 rfl) fun _ _ _ _ _ _ us hl => match us, hl with | [_], _ => rfl
  d17 := dfat (x := "thing_form") (st := top 17) (ps := ["thing"]) X G (c.def_ 4 rfl) (c.fact 4 rfl) fun _ _ _ _ _ _ us hl => match us, hl with | [_], _ => rfl
  d18 := dfat (x := "waited") (st := top 18) (ps := ["form", "wait"]) X G (c.def_ 5 rfl) (c.fact 5 rfl) fun _ _ _ _ _ _ us hl => match us, hl with | [_, _], _ => rfl
  d19 := dfat (x := "in_room") (st := top 19) (ps := ["form", "most"]) X G (c.def_ 6 rfl) (c.fact 6 rfl) fun _ _ _ _ _ _ us hl => match us, hl with | [_, _], _ => rfl
  d20 := dfat (x := "first_of") (st := top 20) (ps := ["forms", "most"]) X G (c.def_ 7 rfl) (c.fact 7 rfl) fun _ _ _ _ _ _ us hl => match us, hl with | [_, _], _ => rfl
  d21 := dfat (x := "both_of") (st := top 21) (ps := ["one", "other"]) X G (c.def_ 8 rfl) (c.fact 8 rfl) fun _ _ _ _ _ _ us hl => match us, hl with | [_, _], _ => rfl
  d22 := dfat (x := "all_of") (st := top 22) (ps := ["forms", "most"]) X G (c.def_ 9 rfl) (c.fact 9 rfl) fun _ _ _ _ _ _ us hl => match us, hl with | [_, _], _ => rfl
  d23 := dfat (x := "put_into") (st := top 23) (ps := ["form", "forms", "most"]) X G (c.def_ 10 rfl) (c.fact 10 rfl) fun _ _ _ _ _ _ us hl => match us, hl with | [_, _, _], _ => rfl
  d25 := dfat (x := "more_waited") (st := top 25) (ps := ["row", "other"]) X G (c.def_ 11 rfl) (c.fact 11 rfl) fun _ _ _ _ _ _ us hl => match us, hl with | [_, _], _ => rfl
  d26 := dfat (x := "nearest_row") (st := top 26) (ps := ["form", "row"]) X G (c.def_ 12 rfl) (c.fact 12 rfl) fun _ _ _ _ _ _ us hl => match us, hl with | [_, _], _ => rfl
  d27 := dfat (x := "hours_against") (st := top 27) (ps := ["one", "row", "turns", "many"]) X G (c.def_ 13 rfl) (c.fact 13 rfl) fun _ _ _ _ _ _ us hl => match us, hl with | [_, _, _, _], _ => rfl
  d28 := dfat (x := "later_by") (st := top 28) (ps := ["one", "other", "turns", "many"]) X G (c.def_ 14 rfl) (c.fact 14 rfl) fun _ _ _ _ _ _ us hl => match us, hl with | [_, _, _, _], _ => rfl
  d29 := dfat (x := "compared") (st := top 29) (ps := ["one", "other", "many"]) X G (c.def_ 15 rfl) (c.fact 15 rfl) fun _ _ _ _ _ _ us hl => match us, hl with | [_, _, _], _ => rfl
  d33 := dfat (x := "plan_by") (st := top 33) (ps := ["book", "name"]) X G (c.def_ 16 rfl) (c.fact 16 rfl) fun _ _ _ _ _ _ us hl => match us, hl with | [_, _], _ => rfl
  d35 := dfat (x := "made_form") (st := top 35) (ps := ["book", "how", "parts", "most"]) X G (c.def_ 17 rfl) (c.fact 17 rfl) fun _ _ _ _ _ _ us hl => match us, hl with | [_, _, _, _], _ => rfl
  d36 := dfat (x := "forms_of") (st := top 36) (ps := ["book", "name", "most"]) X G (c.def_ 18 rfl) (c.fact 18 rfl) fun _ _ _ _ _ _ us hl => match us, hl with | [_, _, _], _ => rfl
  d37 := dfat (x := "told_form") (st := top 37) (ps := ["book", "name", "most"]) X G (c.def_ 19 rfl) (c.fact 19 rfl) fun _ _ _ _ _ _ us hl => match us, hl with | [_, _, _], _ => rfl
  d43 := dfat (x := "is_name") (st := top 43) (ps := ["text"]) X G (c.def_ 20 rfl) (c.fact 20 rfl) fun _ _ _ _ _ _ us hl => match us, hl with | [_], _ => rfl
  d44 := dfat (x := "look_at_names") (st := top 44) (ps := ["names"]) X G (c.def_ 21 rfl) (c.fact 21 rfl) fun _ _ _ _ _ _ us hl => match us, hl with | [_], _ => rfl
  d45 := dfat (x := "look_at_plan") (st := top 45) (ps := ["plan"]) X G (c.def_ 22 rfl) (c.fact 22 rfl) fun _ _ _ _ _ _ us hl => match us, hl with | [_], _ => rfl
  d46 := dfat (x := "look_at_parts") (st := top 46) (ps := ["plan", "ahead"]) X G (c.def_ 23 rfl) (c.fact 23 rfl) fun _ _ _ _ _ _ us hl => match us, hl with | [_, _], _ => rfl
  d47 := dfat (x := "weights_of") (st := top 47) (ps := ["book"]) X G (c.def_ 24 rfl) (c.fact 24 rfl) fun _ _ _ _ _ _ us hl => match us, hl with | [_], _ => rfl
  d48 := dfat (x := "looked") (st := top 48) (ps := ["book"]) X G (c.def_ 25 rfl) (c.fact 25 rfl) fun _ _ _ _ _ _ us hl => match us, hl with | [_], _ => rfl
  d51 := dfat (x := "are_figures") (st := top 51) (ps := ["text"]) X G (c.def_ 26 rfl) (c.fact 26 rfl) fun _ _ _ _ _ _ us hl => match us, hl with | [_], _ => rfl
  d52 := dfat (x := "item_of") (st := top 52) (ps := ["text"]) X G (c.def_ 27 rfl) (c.fact 27 rfl) fun _ _ _ _ _ _ us hl => match us, hl with | [_], _ => rfl
  d53 := dfat (x := "items_of") (st := top 53) (ps := ["text"]) X G (c.def_ 28 rfl) (c.fact 28 rfl) fun _ _ _ _ _ _ us hl => match us, hl with | [_], _ => rfl
  d54 := dfat (x := "made_of") (st := top 54) (ps := ["name", "rest"]) X G (c.def_ 29 rfl) (c.fact 29 rfl) fun _ _ _ _ _ _ us hl => match us, hl with | [_, _], _ => rfl
  d55 := dfat (x := "record_of") (st := top 55) (ps := ["row"]) X G (c.def_ 30 rfl) (c.fact 30 rfl) fun _ _ _ _ _ _ us hl => match us, hl with | [_], _ => rfl
  d56 := dfat (x := "may_stand") (st := top 56) (ps := ["record", "last"]) X G (c.def_ 31 rfl) (c.fact 31 rfl) fun _ _ _ _ _ _ us hl => match us, hl with | [_, _], _ => rfl
  d57 := dfat (x := "placed") (st := top 57) (ps := ["rows"]) X G (c.def_ 32 rfl) (c.fact 32 rfl) fun _ _ _ _ _ _ us hl => match us, hl with | [_], _ => rfl
  d58 := dfat (x := "parted_plans") (st := top 58) (ps := ["records"]) X G (c.def_ 33 rfl) (c.fact 33 rfl) fun _ _ _ _ _ _ us hl => match us, hl with | [_], _ => rfl
  d59 := dfat (x := "plan_of") (st := top 59) (ps := ["name", "givens", "made"]) X G (c.def_ 34 rfl) (c.fact 34 rfl) fun _ _ _ _ _ _ us hl => match us, hl with | [_, _, _], _ => rfl
  d60 := dfat (x := "row_of") (st := top 60) (ps := ["numbers", "row", "record"]) X G (c.def_ 35 rfl) (c.fact 35 rfl) fun _ _ _ _ _ _ us hl => match us, hl with | [_, _, _], _ => rfl
  d61 := dfat (x := "read") (st := top 61) (ps := ["text"]) X G (c.def_ 36 rfl) (c.fact 36 rfl) fun _ _ _ _ _ _ us hl => match us, hl with | [_], _ => rfl
  d63 := dfat (x := "judged") (st := top 63) (ps := ["text", "one", "other", "most"]) X G (c.def_ 37 rfl) (c.fact 37 rfl) fun _ _ _ _ _ _ us hl => match us, hl with | [_, _, _, _], _ => rfl
  d65 := dfat (x := "_law_cell_at") (st := top 65) (ps := ["script", "k"]) X G (c.def_ 38 rfl) (c.fact 38 rfl) fun _ _ _ _ _ _ us hl => match us, hl with | [_, _], _ => rfl
  d66 := dfat (x := "_law_whole") (st := top 66) (ps := ["found"]) X G (c.def_ 39 rfl) (c.fact 39 rfl) fun _ _ _ _ _ _ us hl => match us, hl with | [_], _ => rfl
  d67 := dfat (x := "_law_name_by") (st := top 67) (ps := ["number", "used"]) X G (c.def_ 40 rfl) (c.fact 40 rfl) fun _ _ _ _ _ _ us hl => match us, hl with | [_, _], _ => rfl
  d68 := dfat (x := "_law_names_by") (st := top 68) (ps := ["script", "many"]) X G (c.def_ 41 rfl) (c.fact 41 rfl) fun _ _ _ _ _ _ us hl => match us, hl with | [_, _], _ => rfl
  d69 := dfat (x := "_law_number_by") (st := top 69) (ps := ["cell"]) X G (c.def_ 42 rfl) (c.fact 42 rfl) fun _ _ _ _ _ _ us hl => match us, hl with | [_], _ => rfl
  d70 := dfat (x := "_law_item") (st := top 70) (ps := ["cell", "ahead"]) X G (c.def_ 43 rfl) (c.fact 43 rfl) fun _ _ _ _ _ _ us hl => match us, hl with | [_, _], _ => rfl
  d71 := dfat (x := "_law_row_by") (st := top 71) (ps := ["plans", "loads", "names", "what", "cell"]) X G (c.def_ 44 rfl) (c.fact 44 rfl) fun _ _ _ _ _ _ us hl => match us, hl with | [_, _, _, _, _], _ => rfl
  d72 := dfat (x := "_law_grow") (st := top 72) (ps := ["plans", "loads", "names", "what", "cell"]) X G (c.def_ 45 rfl) (c.fact 45 rfl) fun _ _ _ _ _ _ us hl => match us, hl with | [_, _, _, _, _], _ => rfl
  d73 := dfat (x := "_law_plans_by") (st := top 73) (ps := ["script"]) X G (c.def_ 46 rfl) (c.fact 46 rfl) fun _ _ _ _ _ _ us hl => match us, hl with | [_], _ => rfl
  d74 := dfat (x := "_law_item_text") (st := top 74) (ps := ["names", "item"]) X G (c.def_ 47 rfl) (c.fact 47 rfl) fun _ _ _ _ _ _ us hl => match us, hl with | [_, _], _ => rfl
  d75 := dfat (x := "_law_rows") (st := top 75) (ps := ["plans"]) X G (c.def_ 48 rfl) (c.fact 48 rfl) fun _ _ _ _ _ _ us hl => match us, hl with | [_], _ => rfl
  d76 := dfat (x := "_law_run") (st := top 76) (ps := ["plans", "at", "hours"]) X G (c.def_ 49 rfl) (c.fact 49 rfl) fun _ _ _ _ _ _ us hl => match us, hl with | [_, _, _], _ => rfl
  d77 := dfat (x := "_law_hours") (st := top 77) (ps := ["script", "many", "turn"]) X G (c.def_ 50 rfl) (c.fact 50 rfl) fun _ _ _ _ _ _ us hl => match us, hl with | [_, _, _], _ => rfl
  d78 := dfat (x := "_law_form") (st := top 78) (ps := ["text", "name", "most"]) X G (c.def_ 51 rfl) (c.fact 51 rfl) fun _ _ _ _ _ _ us hl => match us, hl with | [_, _, _], _ => rfl
  d79 := dfat (x := "_law_told") (st := top 79) (ps := ["text", "one", "other", "most"]) X G (c.def_ 52 rfl) (c.fact 52 rfl) fun _ _ _ _ _ _ us hl => match us, hl with | [_, _, _, _], _ => rfl
  d80 := dfat (x := "_law_spoilt") (st := top 80) (ps := ["script", "plans", "text", "which"]) X G (c.def_ 53 rfl) (c.fact 53 rfl) fun _ _ _ _ _ _ us hl => match us, hl with | [_, _, _, _], _ => rfl
  d81 := dfat (x := "_law_class_right") (st := top 81) (ps := ["error", "which"]) X G (c.def_ 54 rfl) (c.fact 54 rfl) fun _ _ _ _ _ _ us hl => match us, hl with | [_, _], _ => rfl
  d82 := dfat (x := "_law_caught") (st := top 82) (ps := ["text", "one", "other", "most"]) X G (c.def_ 55 rfl) (c.fact 55 rfl) fun _ _ _ _ _ _ us hl => match us, hl with | [_, _, _, _], _ => rfl
  d83 := dfat (x := "_law_unlike_alone") (st := top 83) (ps := ["error"]) X G (c.def_ 56 rfl) (c.fact 56 rfl) fun _ _ _ _ _ _ us hl => match us, hl with | [_], _ => rfl
  d84 := dfat (x := "_law_choice") (st := top 84) (ps := ["plans", "at", "cell"]) X G (c.def_ 57 rfl) (c.fact 57 rfl) fun _ _ _ _ _ _ us hl => match us, hl with | [_, _, _], _ => rfl
  d85 := dfat (x := "_law_parted") (st := top 85) (ps := ["plans", "at", "to", "hours", "sign"]) X G (c.def_ 58 rfl) (c.fact 58 rfl) fun _ _ _ _ _ _ us hl => match us, hl with | [_, _, _, _, _], _ => rfl
  d86 := dfat (x := "_law_right") (st := top 86) (ps := ["script", "plans", "at", "to", "pair"]) X G (c.def_ 59 rfl) (c.fact 59 rfl) fun _ _ _ _ _ _ us hl => match us, hl with | [_, _, _, _, _], _ => rfl
  d87 := dfat (x := "law") (st := top 87) (ps := ["script"]) X G (c.def_ 60 rfl) (c.fact 60 rfl) fun _ _ _ _ _ _ us hl => match us, hl with | [_], _ => rfl
theorem h_plan : MkAt ⟨P, w, K, mg, base⟩ "Plan" (hC K).PL (inClass (top 31) 0) "Plan.__init__" ["self", "name", "givens", "rows"] := mkat X G (c.def_ 61 rfl) (c.fact 71 rfl) (c.fact 92 rfl) fun _ _ _ _ _ _ us hl => match us, hl with | [_, _, _, _], _ => rfl
theorem h_book : MkAt ⟨P, w, K, mg, base⟩ "Book" (hC K).BK (inClass (top 32) 0) "Book.__init__" ["self", "plans"] := mkat X G (c.def_ 62 rfl) (c.fact 72 rfl) (c.fact 94 rfl) fun _ _ _ _ _ _ us hl => match us, hl with | [_, _], _ => rfl
include x
theorem h_nn : PySem.NnX.NnTxt K mg (He.ga K "NoName") (He.ma K (He.ga K "NoName") "__init__") := by
  have r : nnRest K = true := exAt x 25 rfl
  obtain ⟨r1, r⟩ := He.ba r
  obtain ⟨r2, r⟩ := He.ba r
  obtain ⟨r3, r⟩ := He.ba r
  obtain ⟨r4, r⟩ := He.ba r
  obtain ⟨r5, r⟩ := He.ba r
  obtain ⟨r6, r7⟩ := He.ba r
  have xc := excB_ok (exAt x 2 (p := excB "NoName") rfl)
  refine ⟨He.glo_ok X G (c.fact 70 rfl), nnObj_ok (exAt x 24 rfl), He.eqO_ok r1, xc.hg, xc.hk, He.eqO_ok r2, He.eqO_ok r3, of_decide_eq_true r4, r5, xc.hs, of_decide_eq_true r6, xc.hd, of_decide_eq_true r7, ?_⟩
  obtain ⟨fd, F⟩ := c.def_ 63 rfl
  obtain ⟨oc, od, dV, kV, doc, pm, an, cdv, ct, osl, e, lk, cd, dd, _⟩ := F.ex
  have kw : nnKw K = true := exAt x 26 rfl
  unfold nnKw at kw
  have lk : K.lookup (He.ma K (He.ga K "NoName") "__init__") = some ⟨oc, od, .func fd, osl⟩ := lk
  rw [lk] at kw
  subst e
  rcases dd with ⟨_, rfl⟩ | ⟨z, _⟩
  · cases kV with
    | none => exact ⟨oc, od, doc, pm, an, cdv, ct, osl, _, _, _, _, _, _, lk, cd⟩
    | _ => cases kw
  · exact absurd rfl z
theorem h_gk : Gk ⟨P, w, K, mg, base⟩ (hC K) where
  bi := fun n hn => by
    simp only [noNames, List.mem_cons, List.not_mem_nil, or_false] at hn
    rcases hn with h | h | h | h | h | h | h | h | h | h | h | h | h | h | h | h | h <;> subst h
    · exact He.free_ok X G (c.fact 74 rfl)
    · exact He.free_ok X G (c.fact 75 rfl)
    · exact He.free_ok X G (c.fact 76 rfl)
    · exact He.free_ok X G (c.fact 77 rfl)
    · exact He.free_ok X G (c.fact 78 rfl)
    · exact He.free_ok X G (c.fact 79 rfl)
    · exact He.free_ok X G (c.fact 80 rfl)
    · exact He.free_ok X G (c.fact 81 rfl)
    · exact He.free_ok X G (c.fact 82 rfl)
    · exact He.free_ok X G (c.fact 83 rfl)
    · exact He.free_ok X G (c.fact 84 rfl)
    · exact He.free_ok X G (c.fact 85 rfl)
    · exact He.free_ok X G (c.fact 86 rfl)
    · exact He.free_ok X G (c.fact 87 rfl)
    · exact He.free_ok X G (c.fact 88 rfl)
    · exact He.free_ok X G (c.fact 89 rfl)
    · exact He.free_ok X G (c.fact 90 rfl)
  tm := expat X G (c.fact 62 rfl) (c.fact 99 rfl)
  bn := expat X G (c.fact 63 rfl) (c.fact 100 rfl)
  bp := expat X G (c.fact 64 rfl) (c.fact 101 rfl)
  bq := expat X G (c.fact 65 rfl) (c.fact 102 rfl)
  tl := expat X G (c.fact 66 rfl) (c.fact 103 rfl)
  np := expat X G (c.fact 67 rfl) (c.fact 104 rfl)
  ul := expat X G (c.fact 68 rfl) (c.fact 105 rfl)
  plc := He.cls_ok (c.fact 91 rfl)
  bkc := He.cls_ok (c.fact 93 rfl)
  pln := fun f hf => by
    simp only [List.mem_cons, List.not_mem_nil, or_false] at hf
    rcases hf with h | h | h <;> subst h
    · exact He.noat_ok (c.fact 95 rfl)
    · exact He.noat_ok (c.fact 96 rfl)
    · exact He.noat_ok (c.fact 97 rfl)
  bkn := He.noat_ok (c.fact 98 rfl)
  nn := ⟨_, h_nn X G c x⟩
  wd := ⟨He.ga K "WORDS", He.glo_ok X G (c.fact 73 rfl), fun H => He.tupB_ok (exAt x 23 (p := wordsB) rfl) H⟩
  lt := by
    obtain ⟨t, e⟩ := He.str_ok X G (c.fact 106 rfl)
    exact ⟨_, e, t, rfl⟩
  fl := by
    obtain ⟨t, e⟩ := He.str_ok X G (c.fact 107 rfl)
    exact ⟨_, e, t, rfl⟩
  fr := by
    obtain ⟨t, e⟩ := He.str_ok X G (c.fact 108 rfl)
    exact ⟨_, e, t, rfl⟩
  far := by
    obtain ⟨t, e⟩ := He.int_ok X G (c.fact 109 rfl)
    exact ⟨_, e, t, rfl⟩
theorem h_gx : Gx ⟨P, w, K, mg, base⟩ (hC K) (He.ga K "AllError") where
  ae := He.glo_ok X G (c.fact 61 rfl)
  br := He.glo_ok X G (c.fact 69 rfl)
  nn := He.glo_ok X G (c.fact 70 rfl)
  xc := fun D hD => by
    simp only [List.mem_cons, List.not_mem_nil, or_false] at hD
    rcases hD with h | h | h | h <;> subst h
    · exact excB_ok (exAt x 0 (p := excB "BadName") rfl)
    · exact excB_ok (exAt x 1 (p := excB "BadPart") rfl)
    · exact excB_ok (exAt x 2 (p := excB "NoName") rfl)
    · exact excB_ok (exAt x 3 (p := excB "Unlike") rfl)
  up := fun D hD => by
    simp only [List.mem_cons, List.not_mem_nil, or_false] at hD
    rcases hD with h | h | h | h <;> subst h
    · exact He.exm_ok (c.fact 110 rfl)
    · exact He.exm_ok (c.fact 111 rfl)
    · exact He.exm_ok (c.fact 112 rfl)
    · exact He.exm_ok (c.fact 113 rfl)
  own := fun D hD => by
    simp only [List.mem_cons, List.not_mem_nil, or_false] at hD
    rcases hD with h | h | h <;> subst h
    · exact He.exm_ok (c.fact 114 rfl)
    · exact He.exm_ok (c.fact 115 rfl)
    · exact He.exm_ok (c.fact 116 rfl)
  un := He.exm_ok (c.fact 117 rfl)
  tn := He.exm_ok (c.fact 118 rfl)
  tu := He.exm_ok (c.fact 119 rfl)
  bn := fun D hD => by
    simp only [List.mem_cons, List.not_mem_nil, or_false] at hD
    rcases hD with h | h | h <;> subst h
    · exact of_decide_eq_true (exAt x 4 (p := kitX "BadName" "BadPart" false) rfl)
    · exact of_decide_eq_true (exAt x 5 (p := kitX "BadName" "NoName" false) rfl)
    · exact of_decide_eq_true (exAt x 6 (p := kitX "BadName" "NoPlan" false) rfl)
  bq := fun D hD => by
    simp only [List.mem_cons, List.not_mem_nil, or_false] at hD
    rcases hD with h | h | h <;> subst h
    · exact of_decide_eq_true (exAt x 7 (p := kitX "BadPart" "BadName" false) rfl)
    · exact of_decide_eq_true (exAt x 8 (p := kitX "BadPart" "NoName" false) rfl)
    · exact of_decide_eq_true (exAt x 9 (p := kitX "BadPart" "NoPlan" false) rfl)
  nm := fun D hD => by
    simp only [List.mem_cons, List.not_mem_nil, or_false] at hD
    rcases hD with h | h | h <;> subst h
    · exact of_decide_eq_true (exAt x 10 (p := kitX "NoName" "BadName" false) rfl)
    · exact of_decide_eq_true (exAt x 11 (p := kitX "NoName" "BadPart" false) rfl)
    · exact of_decide_eq_true (exAt x 12 (p := kitX "NoName" "NoPlan" false) rfl)
  ul := fun D hD => by
    simp only [List.mem_cons, List.not_mem_nil, or_false] at hD
    rcases hD with h | h | h | h | h | h | h | h <;> subst h
    · exact of_decide_eq_true (exAt x 13 (p := kitX "Unlike" "BadName" false) rfl)
    · exact of_decide_eq_true (exAt x 14 (p := kitX "Unlike" "BadPart" false) rfl)
    · exact of_decide_eq_true (exAt x 15 (p := kitX "Unlike" "BadPlan" false) rfl)
    · exact of_decide_eq_true (exAt x 16 (p := kitX "Unlike" "BadRow" false) rfl)
    · exact of_decide_eq_true (exAt x 17 (p := kitX "Unlike" "NoName" false) rfl)
    · exact of_decide_eq_true (exAt x 18 (p := kitX "Unlike" "NoPlan" false) rfl)
    · exact of_decide_eq_true (exAt x 19 (p := kitX "Unlike" "TooLong" false) rfl)
    · exact of_decide_eq_true (exAt x 20 (p := kitX "Unlike" "TooMany" false) rfl)
  ua := of_decide_eq_true (exAt x 21 (p := kitX "Unlike" "AllError" true) rfl)
  uv := of_decide_eq_true (exAt x 22 (p := kitV "Unlike") rfl)
theorem h_law {f : Addr} (hf : mg "law" = some (.ref f)) : ∃ fd : FuncData, (∀ (s : Shared) (u : Value), BindsTo s fd ⟨[u], []⟩ [("script", u)]) ∧ ∀ base : Heap, L2.FnOk P w K mg base L2.CX0 43 f fd ["script"] (Sp0 (fun _ : List Int => True) (fun xs => [rQ K xs]) fun _ => rB true) := by
  have e := hf.symm.trans (He.glo_ok X G (c.fact 60 rfl))
  cases e
  obtain ⟨fd, F⟩ := c.def_ 60 rfl
  have b := L2.FunD.bindsA (ps := ["script"]) F fun _ _ _ _ _ _ us hl => match us, hl with | [_], _ => rfl
  refine ⟨fd, fun s u => b s [u] rfl, fun base => law_fn (fun_of F) fun xs => ?_⟩
  exact law_all (Γ := ⟨P, w, K, mg, base⟩) (h_gk X G c x) (h_gx X G c x) (h_tops X G c) (h_plan X G c) (h_book X G c) xs
end
end K60
open PySem PySem.W PySem.Calls PyProof.Rows
theorem PySem.Challenge.cw_allfirst_k60_whole_two_plans_judged_holds : PySem.Challenge.rw_allfirst_k60_whole_two_plans_judged.Holds := by
  w_on; o_law
  refine HandSHeadRun.head_any (r := OpenLaw.row PySem.Challenge.rw_allfirst_k60_whole_two_plans_judged) (q := view (OpenLaw.row PySem.Challenge.rw_allfirst_k60_whole_two_plans_judged).prog [87]) (H := K60.hk) (ob := K60.ob) (M := 20000) (loose := K60.hnames) (d := HandSHeadRun.topDef (OpenLaw.row PySem.Challenge.rw_allfirst_k60_whole_two_plans_judged).prog 87) (kwd := []) K60.ob_eq
    (by kernel_rfl) (fun s => by kernel_rfl) K60.run (by kernel_rfl) (by kernel_rfl) (by kernel_rfl) (by rfl) (by first | assumption | decide +kernel) (by decide +kernel) ⟨rfl, rfl, rfl, rfl, rfl, by decide +kernel⟩ ?hw ?hc
  case hw => w_witness2
  case hc =>
    refine L2.walk_ofE (l := PySem.Challenge.rw_allfirst_k60_whole_two_plans_judged) (n := 63) (k := 43) (x := "script") (CX := L2.CX0) rfl (by decide) (by kernel_rfl) ⟨rfl, by decide, by decide⟩ ?F (fun _ _ _ _ z => z)
    intro w mg fa h Y G hmg0
    obtain ⟨K, KX, c⟩ := Y
    obtain ⟨c1, c2⟩ := c.two
    have hmg : mg ("law" : PySem.Str) = some (.ref fa) := by
      have e : (HandSHeadRun.topDef (OpenLaw.row PySem.Challenge.rw_allfirst_k60_whole_two_plans_judged).prog 87).name = ("law" : PySem.Str) := by kernel_rfl
      rw [← e]
      exact hmg0
    obtain ⟨fd, hb, hF⟩ := K60.h_law (P := (PySem.Challenge.rw_allfirst_k60_whole_two_plans_judged).prog) (w := w) KX G c1 c2 hmg
    refine ⟨K, fd, _, KX, hb, fun H a ns hl _ hS => ?_, fun base _ _ => hF base⟩
    exact ⟨ns, H, trivial, L2.Same.refl _, ⟨⟨a, rfl, hS⟩, trivial⟩, fun v B2 H2 _ hv => hv⟩
